import PyProof.Rows.All
import Wide.All
import OpenK.AllK
import Wide.FinOn
import HandS.ForMost
import HandS.ForExc
import HandS.Evl
import HandS.Wide
import HandS.IsInst
import HandS.TupAny
import HandS.Deep
import HandS.Defaults
import HandS.Style
import HandS.Zip
import HandS.Codes
import HandS.RaiseMore
import HandS.Iter
import HandS.Head0
import HandS.Head1
import HandS.Head2
import HandS.HeadEnd
import HandS.HeadHook1
import HandS.HeadHook2
import HandS.SortRule
import HandS.SortInts
import HandS.TupSets
import HandS.Star
import HandS.Flow
import HandS.WideMore
import PySem.Challenge.RW_levelroads_k14_whole_classes_by_matrices
set_option Elab.async false
set_option linter.all false
set_option maxRecDepth 100000
set_option maxHeartbeats 4000000
/-! Pd: plain data. What a piece of Python does, told by a function on trees of data and a list of objects that may change. -/
namespace Pd
open PySem L2 Evl

/-! ### data -/
/-- data: none, bools, ints, texts, tuples, lists that change no more (lst: made by the call; seq: only read), things that may change (ref: an index into the objects), defs and classes of the text by name, built-in types -/
inductive D where
  | non | bl (b : Bool) | int (i : Int) | str (x : Str)
  | tup (xs : List D) | lst (xs : List D) | seq (xs : List D)
  | ref (n : Nat)
  | glo (x : Str) | ty (n : String)
/-- objects that may change -/
inductive PO where
  | lst (xs : List D)
  | dK (kvs : List (Key × D))
  | dT (kvs : List (List Key × D))
  | ins (c : Str) (fs : List (Str × D))
  | dead
abbrev Ph := List PO
abbrev Pe := List (Option D)
/-- an end: a value; an exception of the class with that name, and what it keeps; none that is served -/
inductive R (α : Type) where
  | ok (a : α) (h : Ph)
  | exc (c : Str) (fs : Option (List (Str × D))) (h : Ph)
  | bad
def R.bind {α β : Type} (r : R α) (k : α → Ph → R β) : R β := match r with
  | .ok a h => k a h
  | .exc c fs h => .exc c fs h
  | .bad => .bad
/-- the end of a statement -/
inductive F where
  | nx (e : Pe) (h : Ph) | ret (d : D) (h : Ph) | brk (e : Pe) (h : Ph) | cnt (e : Pe) (h : Ph)
  | exc (c : Str) (fs : Option (List (Str × D))) (e : Pe) (h : Ph)
  | bad
abbrev SE := Pe → Ph → R D
abbrev ST := Pe → Ph → R Bool
abbrev SA := Pe → Ph → R (List D)
abbrev SS := Pe → Ph → F
def R.toF {α : Type} (r : R α) (e : Pe) (k : α → Ph → F) : F := match r with
  | .ok a h => k a h
  | .exc c fs h => .exc c fs e h
  | .bad => .bad

/-! ### how data lie in memory -/
/-- the addresses of the objects that may change; what stands for good -/
structure Wd where
  ms : List Addr
  G : Hp
section
variable (K : PySem.W.Frag) (mg : Str → Option Value)
mutual
inductive Rep (w : Wd) : D → V → Prop
  | non : Rep w .non .non
  | bl (b : Bool) : Rep w (.bl b) (.bl b)
  | int (i : Int) : Rep w (.int i) (.int i)
  | str (x : Str) : Rep w (.str x) (.str x)
  | tup {a : Addr} {vs : List V} {xs : List D} : SqT K w.G a vs → Reps w xs vs → Rep w (.tup xs) (.ref a)
  | lst {a : Addr} {vs : List V} {xs : List D} : w.G a = some (.lst vs) → Reps w xs vs → Rep w (.lst xs) (.ref a)
  | seq {a : Addr} {vs : List V} {xs : List D} : SqL K w.G a vs → Reps w xs vs → Rep w (.seq xs) (.ref a)
  | ref {n : Nat} {a : Addr} : w.ms[n]? = some a → Rep w (.ref n) (.ref a)
  | glo {x : Str} {a : Addr} : mg x = some (.ref a) → Rep w (.glo x) (.ref a)
  | ty (n : String) : Rep w (.ty n) (.ty n)
inductive Reps (w : Wd) : List D → List V → Prop
  | nil : Reps w [] []
  | cons {d : D} {ds : List D} {v : V} {vs : List V} : Rep w d v → Reps w ds vs → Reps w (d :: ds) (v :: vs)
end
end
structure Le (w w' : Wd) : Prop where
  ms : ∃ l, w'.ms = w.ms ++ l
  ex : Ex w.G w'.G
theorem Le.refl (w : Wd) : Le w w := ⟨⟨[], by simp⟩, Ex.refl _⟩
theorem Le.trans {a b c : Wd} (h : Le a b) (k : Le b c) : Le a c := by
  obtain ⟨⟨l, e⟩, x⟩ := h
  obtain ⟨⟨m, f⟩, y⟩ := k
  exact ⟨⟨l ++ m, by rw [f, e, List.append_assoc]⟩, x.trans y⟩
theorem Le.at {w w' : Wd} (l : Le w w') {n : Nat} {a : Addr} (h : w.ms[n]? = some a) : w'.ms[n]? = some a := by
  obtain ⟨⟨m, e⟩, _⟩ := l
  rw [e, List.getElem?_append_left (List.getElem?_eq_some_iff.mp h).1]
  exact h
section
variable {K : PySem.W.Frag} {mg : Str → Option Value} {w w' : Wd}
mutual
theorem Rep.mono (l : Le w w') : ∀ {d : D} {v : V}, Rep K mg w d v → Rep K mg w' d v
  | _, _, .non => .non
  | _, _, .bl b => .bl b
  | _, _, .int i => .int i
  | _, _, .str x => .str x
  | _, _, .tup h r => .tup (ex_t l.ex h) (Reps.mono l r)
  | _, _, .lst h r => .lst (l.ex _ _ h) (Reps.mono l r)
  | _, _, .seq h r => .seq (ex_l l.ex h) (Reps.mono l r)
  | _, _, .ref h => .ref (l.at h)
  | _, _, .glo h => .glo h
  | _, _, .ty n => .ty n
theorem Reps.mono (l : Le w w') : ∀ {d : List D} {v : List V}, Reps K mg w d v → Reps K mg w' d v
  | _, _, .nil => .nil
  | _, _, .cons h r => .cons (Rep.mono l h) (Reps.mono l r)
end
theorem Reps.length : ∀ {d : List D} {v : List V}, Reps K mg w d v → d.length = v.length
  | _, _, .nil => rfl
  | _, _, .cons _ r => by rw [List.length_cons, List.length_cons, Reps.length r]
theorem Reps.append : ∀ {d : List D} {v : List V} {d' : List D} {v' : List V}, Reps K mg w d v → Reps K mg w d' v' → Reps K mg w (d ++ d') (v ++ v')
  | _, _, _, _, .nil, s => s
  | _, _, _, _, .cons h r, s => .cons h (Reps.append r s)
theorem Reps.get : ∀ {d : List D} {v : List V} {i : Nat} {x : D}, Reps K mg w d v → d[i]? = some x → ∃ y, v[i]? = some y ∧ Rep K mg w x y
  | _, _, _, _, .nil, e => by simp at e
  | _, _, 0, _, .cons h _, e => by simp at e; subst e; exact ⟨_, rfl, h⟩
  | _, _, i + 1, x, .cons _ r, e => by
    obtain ⟨y, h1, h2⟩ := Reps.get (i := i) (x := x) r (by simpa using e)
    exact ⟨y, by simpa using h1, h2⟩
theorem Reps.getV : ∀ {d : List D} {v : List V} {i : Nat} {y : V}, Reps K mg w d v → v[i]? = some y → ∃ x, d[i]? = some x ∧ Rep K mg w x y
  | _, _, _, _, .nil, e => by simp at e
  | _, _, 0, _, .cons h _, e => by simp at e; subst e; exact ⟨_, rfl, h⟩
  | _, _, i + 1, x, .cons _ r, e => by
    obtain ⟨y, h1, h2⟩ := Reps.getV (i := i) (y := x) r (by simpa using e)
    exact ⟨y, by simpa using h1, h2⟩
theorem Reps.set {x : D} {y : V} (h : Rep K mg w x y) : ∀ {d : List D} {v : List V} (i : Nat), Reps K mg w d v → Reps K mg w (d.set i x) (v.set i y)
  | _, _, _, .nil => .nil
  | _, _, 0, .cons _ r => .cons h r
  | _, _, i + 1, .cons q r => .cons q (Reps.set h i r)
theorem Reps.drop : ∀ {d : List D} {v : List V} (n : Nat), Reps K mg w d v → Reps K mg w (d.drop n) (v.drop n)
  | _, _, 0, h => h
  | _, _, _ + 1, .nil => .nil
  | _, _, n + 1, .cons _ r => Reps.drop n r
theorem Reps.take : ∀ {d : List D} {v : List V} (n : Nat), Reps K mg w d v → Reps K mg w (d.take n) (v.take n)
  | _, _, 0, _ => .nil
  | _, _, _ + 1, .nil => .nil
  | _, _, n + 1, .cons h r => .cons h (Reps.take n r)
theorem Reps.reverse : ∀ {d : List D} {v : List V}, Reps K mg w d v → Reps K mg w d.reverse v.reverse
  | _, _, .nil => .nil
  | _, _, .cons h r => by
    rw [List.reverse_cons, List.reverse_cons]
    exact (Reps.reverse r).append (.cons h .nil)
end

/-- fields, entries -/
inductive RepF (K : PySem.W.Frag) (mg : Str → Option Value) (w : Wd) : List (Str × D) → List (Str × V) → Prop
  | nil : RepF K mg w [] []
  | cons {x : Str} {d : D} {v : V} {ds : List (Str × D)} {vs : List (Str × V)} : Rep K mg w d v → RepF K mg w ds vs → RepF K mg w ((x, d) :: ds) ((x, v) :: vs)
inductive RepK {κ : Type} (K : PySem.W.Frag) (mg : Str → Option Value) (w : Wd) : List (κ × D) → List (κ × V) → Prop
  | nil : RepK K mg w [] []
  | cons {x : κ} {d : D} {v : V} {ds : List (κ × D)} {vs : List (κ × V)} : Rep K mg w d v → RepK K mg w ds vs → RepK K mg w ((x, d) :: ds) ((x, v) :: vs)
inductive RepO (K : PySem.W.Frag) (mg : Str → Option Value) (w : Wd) : PO → HO → Prop
  | lst {xs : List D} {vs : List V} : Reps K mg w xs vs → RepO K mg w (.lst xs) (.lst vs)
  | dK {xs : List (Key × D)} {vs : List (Key × V)} : RepK K mg w xs vs → RepO K mg w (.dK xs) (.dK vs)
  | dT {xs : List (List Key × D)} {vs : List (List Key × V)} : RepK K mg w xs vs → RepO K mg w (.dT xs) (.dT vs)
  | ins {c : Str} {C dx : Addr} {xs : List (Str × D)} {vs : List (Str × V)} : mg c = some (.ref C) → RepF K mg w xs vs → RepO K mg w (.ins c xs) (.ins C dx vs)
  | dead {u : HO} : RepO K mg w .dead u
section
variable {K : PySem.W.Frag} {mg : Str → Option Value} {w w' : Wd}
theorem RepF.mono (l : Le w w') : ∀ {d : List (Str × D)} {v : List (Str × V)}, RepF K mg w d v → RepF K mg w' d v
  | _, _, .nil => .nil
  | _, _, .cons h r => .cons (h.mono l) (RepF.mono l r)
theorem RepK.mono {κ : Type} (l : Le w w') : ∀ {d : List (κ × D)} {v : List (κ × V)}, RepK K mg w d v → RepK K mg w' d v
  | _, _, .nil => .nil
  | _, _, .cons h r => .cons (h.mono l) (RepK.mono l r)
theorem RepO.mono (l : Le w w') {o : PO} {u : HO} (h : RepO K mg w o u) : RepO K mg w' o u := by
  cases h with
  | lst h => exact .lst (h.mono l)
  | dK h => exact .dK (h.mono l)
  | dT h => exact .dT (h.mono l)
  | ins h1 h => exact .ins h1 (h.mono l)
  | dead => exact .dead
end

/-- memory H bears the objects h by w -/
structure Lk (K : PySem.W.Frag) (mg : Str → Option Value) (w : Wd) (h : Ph) (H : Hp) : Prop where
  ex : Ex w.G H
  len : w.ms.length = h.length
  obj : ∀ (n : Nat) (a : Addr) (o : PO), w.ms[n]? = some a → h[n]? = some o → ∃ u, H a = some u ∧ RepO K mg w o u
  inj : ∀ (i j : Nat) (a : Addr), w.ms[i]? = some a → w.ms[j]? = some a → i = j
  out : ∀ (n : Nat) (a : Addr) (o : PO), w.ms[n]? = some a → h[n]? = some o → o ≠ .dead → w.G a = none
/-- what a run may do to memory -/
structure Step (w : Wd) (H : Hp) (w' : Wd) (H' : Hp) : Prop where
  le : Le w w'
  frm : ∀ a o, H a = some o → a ∉ w.ms → H' a = some o
  newM : ∀ a, a ∈ w'.ms → a ∈ w.ms ∨ H a = none
  newG : ∀ a, H a ≠ none → a ∉ w.ms → w'.G a = w.G a
theorem Step.refl (w : Wd) (H : Hp) : Step w H w H := ⟨Le.refl w, fun _ _ h _ => h, fun _ h => .inl h, fun _ _ _ => rfl⟩
theorem Step.trans {w w1 w2 : Wd} {H H1 H2 : Hp} (a : Step w H w1 H1) (b : Step w1 H1 w2 H2) : Step w H w2 H2 := by
  have nm : ∀ x, H x ≠ none → x ∉ w.ms → x ∉ w1.ms := fun x h1 h2 h3 => (a.newM x h3).elim h2 h1
  refine ⟨a.le.trans b.le, fun x o h1 h2 => b.frm x o (a.frm x o h1 h2) (nm x (by rw [h1]; simp) h2), fun x h1 => ?_, fun x h1 h2 => ?_⟩
  · rcases b.newM x h1 with h | h
    · exact a.newM x h
    · cases e : H x with
      | none => exact .inr rfl
      | some o =>
        by_cases hm : x ∈ w.ms
        · exact .inl hm
        · rw [a.frm x o e hm] at h
          cases h
  · cases e : H x with
    | none => exact absurd e h1
    | some o =>
      rw [b.newG x (by rw [a.frm x o e h2]; simp) (nm x h1 h2), a.newG x h1 h2]

section
variable {K : PySem.W.Frag} {mg : Str → Option Value} {w w' : Wd} {h : Ph} {H : Hp}
theorem Lk.there (L : Lk K mg w h H) {n : Nat} {a : Addr} (e : w.ms[n]? = some a) : ∃ o u, h[n]? = some o ∧ H a = some u ∧ RepO K mg w o u := by
  have hn : n < h.length := by rw [← L.len]; exact (List.getElem?_eq_some_iff.mp e).1
  obtain ⟨u, hu, r⟩ := L.obj n a h[n] e (by simp [hn])
  exact ⟨_, u, by simp [hn], hu, r⟩
theorem Lk.mem (L : Lk K mg w h H) {a : Addr} (e : a ∈ w.ms) : ∃ u, H a = some u := by
  obtain ⟨n, hn⟩ := List.getElem?_of_mem e
  obtain ⟨_, u, _, hu, _⟩ := L.there hn
  exact ⟨u, hu⟩
/-- a new object that changes no more -/
theorem Lk.lay (L : Lk K mg w h H) {p : Addr} (hp : H p = none) (o : HO) : Lk K mg ⟨w.ms, upd w.G p o⟩ h (upd H p o) ∧ Step w H ⟨w.ms, upd w.G p o⟩ (upd H p o) ∧ Le w ⟨w.ms, upd w.G p o⟩ := by
  have gp : w.G p = none := fresh_back L.ex hp
  have le : Le w ⟨w.ms, upd w.G p o⟩ := ⟨⟨[], by simp⟩, Ex.new gp⟩
  have nm : ∀ (n : Nat) (a : Addr), w.ms[n]? = some a → a ≠ p := fun n a e z => by
    obtain ⟨_, u, _, hu, _⟩ := L.there e
    rw [z, hp] at hu
    cases hu
  refine ⟨⟨fun a u e => ?_, L.len, fun n a o' e1 e2 => ?_, L.inj, fun n a o' e e2 e3 => ?_⟩, ⟨le, fun a u e _ => ?_, fun a e => .inl e, fun a e _ => ?_⟩, le⟩
  · by_cases z : a = p
    · subst z
      rw [show (⟨w.ms, upd w.G a o⟩ : Wd).G a = some o from upd_same] at e
      rw [upd_same]; exact e
    · rw [show (⟨w.ms, upd w.G p o⟩ : Wd).G a = w.G a from upd_ne z] at e
      rw [upd_ne z]; exact L.ex a u e
  · obtain ⟨u, hu, r⟩ := L.obj n a o' e1 e2
    exact ⟨u, by rw [upd_ne (nm n a e1)]; exact hu, r.mono le⟩
  · show upd w.G p o a = none
    rw [upd_ne (nm n a e)]
    exact L.out n a o' e e2 e3
  · rw [upd_ne (ne_of_none e hp)]; exact e
  · show upd w.G p o a = w.G a
    exact upd_ne fun z => e (by rw [z]; exact hp)
/-- a new object that may change -/
theorem Lk.new (L : Lk K mg w h H) {p : Addr} (hp : H p = none) (o : PO) (u : HO) (r : RepO K mg ⟨w.ms ++ [p], w.G⟩ o u) :
    Lk K mg ⟨w.ms ++ [p], w.G⟩ (h ++ [o]) (upd H p u) ∧ Step w H ⟨w.ms ++ [p], w.G⟩ (upd H p u) ∧ Le w ⟨w.ms ++ [p], w.G⟩ := by
  have gp : w.G p = none := fresh_back L.ex hp
  have le : Le w ⟨w.ms ++ [p], w.G⟩ := ⟨⟨[p], rfl⟩, Ex.refl _⟩
  have nm : ∀ a, a ∈ w.ms → a ≠ p := fun a e z => by
    obtain ⟨u, hu⟩ := L.mem e
    rw [z, hp] at hu
    cases hu
  have split : ∀ (n : Nat) (a : Addr), (w.ms ++ [p])[n]? = some a → (w.ms[n]? = some a ∧ n < h.length) ∨ (n = h.length ∧ a = p) := fun n a e => by
    by_cases hn : n < w.ms.length
    · rw [List.getElem?_append_left hn] at e
      exact .inl ⟨e, by rw [← L.len]; exact hn⟩
    · have q := (List.getElem?_eq_some_iff.mp e).1
      rw [List.length_append, List.length_singleton] at q
      have e1 : n = w.ms.length := by omega
      subst e1
      simp at e
      exact .inr ⟨L.len, e.symm⟩
  refine ⟨⟨fun a v e => ?_, ?_, fun n a o' e1 e2 => ?_, fun i j a e1 e2 => ?_, fun n a o' e e2 e3 => ?_⟩, ⟨le, fun a v e _ => ?_, fun a e => ?_, fun a _ _ => rfl⟩, le⟩
  · have e' : w.G a = some v := e
    rw [upd_ne (ne_of_none e' gp)]
    exact L.ex a v e'
  · show (w.ms ++ [p]).length = (h ++ [o]).length
    rw [List.length_append, List.length_append, L.len, List.length_singleton, List.length_singleton]
  · rcases split n a e1 with ⟨q, hn⟩ | ⟨rfl, rfl⟩
    · rw [List.getElem?_append_left hn] at e2
      obtain ⟨v, hv, r'⟩ := L.obj n a o' q e2
      exact ⟨v, by rw [upd_ne (nm a (List.mem_of_getElem? q))]; exact hv, r'.mono le⟩
    · simp at e2
      subst e2
      exact ⟨u, upd_same, r⟩
  · rcases split i a e1 with ⟨q, hi⟩ | ⟨rfl, rfl⟩
    · rcases split j a e2 with ⟨q', hj⟩ | ⟨rfl, rfl⟩
      · exact L.inj i j a q q'
      · exact absurd rfl (nm _ (List.mem_of_getElem? q))
    · rcases split j a e2 with ⟨q', hj⟩ | ⟨rfl, _⟩
      · exact absurd rfl (nm _ (List.mem_of_getElem? q'))
      · rfl
  · rcases split n a e with ⟨q, hn⟩ | ⟨_, rfl⟩
    · rw [List.getElem?_append_left hn] at e2
      exact L.out n a o' q e2 e3
    · exact gp
  · rw [upd_ne (ne_of_none e hp)]; exact e
  · rcases List.mem_append.mp e with q | q
    · exact .inl q
    · have : a = p := by simpa using q
      rw [this]; exact .inr hp
/-- an object is changed -/
theorem Lk.put (L : Lk K mg w h H) {n : Nat} {a : Addr} {o0 : PO} (e : w.ms[n]? = some a) (e0 : h[n]? = some o0) (hd : o0 ≠ .dead) (o : PO) (u : HO) (r : RepO K mg w o u) : Lk K mg w (h.set n o) (upd H a u) ∧ Step w H w (upd H a u) := by
  have ga := L.out n a o0 e e0 hd
  refine ⟨⟨fun b v q => ?_, by rw [List.length_set]; exact L.len, fun m b o' e1 e2 => ?_, L.inj, fun m b o' e1 e2 e3 => ?_⟩, ⟨Le.refl w, fun b v q nb => ?_, fun _ q => .inl q, fun _ _ _ => rfl⟩⟩
  · rw [upd_ne (ne_of_none q ga)]
    exact L.ex b v q
  · by_cases z : m = n
    · subst z
      rw [e] at e1
      cases e1
      rw [List.getElem?_set_self' ] at e2
      cases hm : h[m]? with
      | none => rw [hm] at e2; cases e2
      | some x =>
        rw [hm] at e2
        cases e2
        exact ⟨u, upd_same, r⟩
    · rw [List.getElem?_set_ne (Ne.symm z)] at e2
      obtain ⟨v, hv, r'⟩ := L.obj m b o' e1 e2
      refine ⟨v, ?_, r'⟩
      rw [upd_ne fun y => z (L.inj m n a (by rw [← y]; exact e1) e)]
      exact hv
  · by_cases z : m = n
    · subst z
      rw [e] at e1
      cases e1
      exact ga
    · rw [List.getElem?_set_ne (Ne.symm z)] at e2
      exact L.out m b o' e1 e2 e3
  · rw [upd_ne fun y => nb (by rw [y]; exact List.mem_of_getElem? e)]
    exact q
/-- a list that changes no more -/
theorem Lk.frz (L : Lk K mg w h H) {n : Nat} {a : Addr} {o0 : PO} {u : HO} (e : w.ms[n]? = some a) (e0 : h[n]? = some o0) (hd : o0 ≠ .dead) (hu : H a = some u) :
    Lk K mg ⟨w.ms, upd w.G a u⟩ (h.set n .dead) H ∧ Step w H ⟨w.ms, upd w.G a u⟩ H ∧ Le w ⟨w.ms, upd w.G a u⟩ := by
  have ga := L.out n a o0 e e0 hd
  have le : Le w ⟨w.ms, upd w.G a u⟩ := ⟨⟨[], by simp⟩, Ex.new ga⟩
  refine ⟨⟨fun b v q => ?_, by rw [List.length_set]; exact L.len, fun m b o' e1 e2 => ?_, L.inj, fun m b o' e1 e2 e3 => ?_⟩, ⟨le, fun b v q _ => q, fun _ q => .inl q, fun b q nb => ?_⟩, le⟩
  · by_cases z : b = a
    · subst z
      rw [show (⟨w.ms, upd w.G b u⟩ : Wd).G b = some u from upd_same] at q
      rw [hu]; exact q
    · rw [show (⟨w.ms, upd w.G a u⟩ : Wd).G b = w.G b from upd_ne z] at q
      exact L.ex b v q
  · by_cases z : m = n
    · subst z
      rw [e] at e1
      cases e1
      rw [List.getElem?_set_self', e0] at e2
      cases e2
      exact ⟨u, hu, .dead⟩
    · rw [List.getElem?_set_ne (Ne.symm z)] at e2
      obtain ⟨v, hv, r'⟩ := L.obj m b o' e1 e2
      exact ⟨v, hv, r'.mono le⟩
  · by_cases z : m = n
    · subst z
      rw [List.getElem?_set_self', e0] at e2
      cases e2
      exact absurd rfl e3
    · rw [List.getElem?_set_ne (Ne.symm z)] at e2
      show upd w.G a u b = none
      rw [upd_ne fun y => z (L.inj m n a (by rw [← y]; exact e1) e)]
      exact L.out m b o' e1 e2 e3
  · show upd w.G a u b = w.G b
    exact upd_ne fun y => nb (by rw [y]; exact List.mem_of_getElem? e)
end
/-! ### what follows -/
/-- the names of the frame -/
structure En (K : PySem.W.Frag) (mg : Str → Option Value) (w : Wd) (e : Pe) (σ : St) : Prop where
  len : e.length = σ.length
  get : ∀ (i : Nat) (d : D), e[i]? = some (some d) → ∃ v, σ[i]? = some (some v) ∧ Rep K mg w d v
theorem En.mono {K : PySem.W.Frag} {mg : Str → Option Value} {w w' : Wd} {e : Pe} {σ : St} (E : En K mg w e σ) (l : Le w w') : En K mg w' e σ := ⟨E.len, fun i d h => by
  obtain ⟨v, h1, h2⟩ := E.get i d h
  exact ⟨v, h1, h2.mono l⟩⟩
theorem En.set {K : PySem.W.Frag} {mg : Str → Option Value} {w : Wd} {e : Pe} {σ : St} (E : En K mg w e σ) {d : D} {v : V} (r : Rep K mg w d v) (i : Nat) : En K mg w (e.set i (some d)) (σ.set i (some v)) := by
  refine ⟨by rw [List.length_set, List.length_set]; exact E.len, fun j x h => ?_⟩
  by_cases hj : j = i
  · subst hj
    have hl : j < e.length := by
      have q := (List.getElem?_eq_some_iff.mp h).1
      rw [List.length_set] at q
      exact q
    rw [List.getElem?_set_self hl] at h
    cases h
    exact ⟨v, List.getElem?_set_self (by rw [← E.len]; exact hl), r⟩
  · rw [List.getElem?_set_ne (Ne.symm hj)] at h ⊢
    exact E.get j x h
theorem En.unset {K : PySem.W.Frag} {mg : Str → Option Value} {w : Wd} {e : Pe} {σ : St} (E : En K mg w e σ) (i : Nat) (o : Option V) : En K mg w (e.set i none) (σ.set i o) := by
  refine ⟨by rw [List.length_set, List.length_set]; exact E.len, fun j x h => ?_⟩
  by_cases hj : j = i
  · subst hj
    have hl : j < e.length := by
      have q := (List.getElem?_eq_some_iff.mp h).1
      rw [List.length_set] at q
      exact q
    rw [List.getElem?_set_self hl] at h
    cases h
  · rw [List.getElem?_set_ne (Ne.symm hj)] at h ⊢
    exact E.get j x h
/-- an exception as it is handed on: its class, its own dict -/
inductive RepX (K : PySem.W.Frag) (mg : Str → Option Value) (w : Wd) : Str → Option (List (Str × D)) → Value → Option Addr → Prop
  | plain {c : Str} {C : Addr} {dd : Option Addr} : mg c = some (.ref C) → RepX K mg w c none (.ref C) dd
  | kept {c : Str} {C d : Addr} {fs : List (Str × D)} {vs : List (Str × V)} : mg c = some (.ref C) → w.G d = some (.xd vs) → RepF K mg w fs vs → RepX K mg w c (some fs) (.ref C) (some d)
theorem RepX.mono {K : PySem.W.Frag} {mg : Str → Option Value} {w w' : Wd} (l : Le w w') {c : Str} {fs : Option (List (Str × D))} {C : Value} {d : Option Addr} (h : RepX K mg w c fs C d) : RepX K mg w' c fs C d := by
  cases h with
  | plain h => exact .plain h
  | kept h1 h2 h3 => exact .kept h1 (l.ex _ _ h2) (h3.mono l)

section
variable (K : PySem.W.Frag) (mg : Str → Option Value)
/-- what is to hold behind r for α = D, with W for exceptions -/
def Po {α β : Type} (Rp : Wd → α → β → Prop) (W : WX) (σ : St) (w : Wd) (H : Hp) (r : R α) (Q : β → Hp → Prop) : Prop := match r with
  | .ok a h' => ∀ w' H' v, Step w H w' H' → Lk K mg w' h' H' → Rp w' a v → Q v H'
  | .exc c fs h' => ∀ w' H' C d, Step w H w' H' → Lk K mg w' h' H' → RepX K mg w' c fs C d → W C d σ H'
  | .bad => False
def PoF (W : WX) (w : Wd) (H : Hp) (r : F) (D : Ends) : Prop := match r with
  | .nx e' h' => ∀ w' H' σ', Step w H w' H' → Lk K mg w' h' H' → En K mg w' e' σ' → D.nx σ' H'
  | .ret d h' => ∀ w' H' v, Step w H w' H' → Lk K mg w' h' H' → Rep K mg w' d v → D.rt v H'
  | .brk e' h' => ∀ w' H' σ', Step w H w' H' → Lk K mg w' h' H' → En K mg w' e' σ' → D.bk σ' H'
  | .cnt e' h' => ∀ w' H' σ', Step w H w' H' → Lk K mg w' h' H' → En K mg w' e' σ' → D.ct σ' H'
  | .exc c fs e' h' => ∀ w' H' σ' C d, Step w H w' H' → Lk K mg w' h' H' → En K mg w' e' σ' → RepX K mg w' c fs C d → W C d σ' H'
  | .bad => False
def RpB (_ : Wd) (a : Bool) (b : Bool) : Prop := a = b
abbrev PoE := Po (α := D) (β := V) K mg (Rep K mg)
abbrev PoT := Po (α := Bool) (β := Bool) K mg RpB
abbrev PoA := Po (α := List D) (β := List V) K mg (Reps K mg)
/-! ### what is sound -/
def SnE (W : WX) (t : TE) (f : SE) : Prop := ∀ (σ : St) (e : Pe) (w : Wd) (h : Ph) (H : Hp) (Q : VK), En K mg w e σ → Lk K mg w h H → PoE K mg W σ w H (f e h) Q → t σ H Q
def SnT (W : WX) (t : TT) (f : ST) : Prop := ∀ (σ : St) (e : Pe) (w : Wd) (h : Ph) (H : Hp) (Q : Bool → Hp → Prop), En K mg w e σ → Lk K mg w h H → PoT K mg W σ w H (f e h) Q → t σ H Q
def SnA (W : WX) (t : TA) (f : SA) : Prop := ∀ (σ : St) (e : Pe) (w : Wd) (h : Ph) (H : Hp) (Q : List V → Hp → Prop), En K mg w e σ → Lk K mg w h H → PoA K mg W σ w H (f e h) Q → t σ H Q
def SnS (W : WX) (t : TS) (f : SS) : Prop := ∀ (σ : St) (e : Pe) (w : Wd) (h : Ph) (H : Hp) (D : Ends), En K mg w e σ → Lk K mg w h H → PoF K mg W w H (f e h) D → t D σ H
end
section
variable {K : PySem.W.Frag} {mg : Str → Option Value} {W : WX} {σ : St} {w w1 : Wd} {H H1 : Hp}
theorem Po.step {α β : Type} {Rp : Wd → α → β → Prop} {r : R α} {Q : β → Hp → Prop} (st : Step w H w1 H1) (h : Po K mg Rp W σ w H r Q) : Po K mg Rp W σ w1 H1 r Q := by
  cases r with
  | ok a h' => exact fun w' H' v s => h w' H' v (st.trans s)
  | exc c fs h' => exact fun w' H' C d s => h w' H' C d (st.trans s)
  | bad => exact h
theorem PoF.step {r : F} {D : Ends} (st : Step w H w1 H1) (h : PoF K mg W w H r D) : PoF K mg W w1 H1 r D := by
  cases r with
  | nx e' h' => exact fun w' H' v s => h w' H' v (st.trans s)
  | ret e' h' => exact fun w' H' v s => h w' H' v (st.trans s)
  | brk e' h' => exact fun w' H' v s => h w' H' v (st.trans s)
  | cnt e' h' => exact fun w' H' v s => h w' H' v (st.trans s)
  | exc c fs e' h' => exact fun w' H' σ' C d s => h w' H' σ' C d (st.trans s)
  | bad => exact h
/-- one after the other -/
theorem Po.bind {α β γ δ : Type} {Rp : Wd → α → β → Prop} {Rq : Wd → γ → δ → Prop} {r : R α} {k : α → Ph → R γ} {Q : δ → Hp → Prop} {Q1 : β → Hp → Prop} (hp : Po K mg Rq W σ w H (r.bind k) Q)
    (hk : ∀ a h1 w1 H1 v, r = .ok a h1 → Step w H w1 H1 → Lk K mg w1 h1 H1 → Rp w1 a v → Po K mg Rq W σ w1 H1 (k a h1) Q → Q1 v H1) : Po K mg Rp W σ w H r Q1 := by
  cases r with
  | ok a h1 => exact fun w1 H1 v st L rp => hk a h1 w1 H1 v rfl st L rp (Po.step st hp)
  | exc c fs h1 => exact hp
  | bad => exact hp
theorem Po.toF {α β : Type} {Rp : Wd → α → β → Prop} {r : R α} {k : α → Ph → F} {e : Pe} {D : Ends} {Q1 : β → Hp → Prop} (E : En K mg w e σ) (hp : PoF K mg W w H (r.toF e k) D)
    (hk : ∀ a h1 w1 H1 v, r = .ok a h1 → Step w H w1 H1 → Lk K mg w1 h1 H1 → Rp w1 a v → PoF K mg W w1 H1 (k a h1) D → Q1 v H1) : Po K mg Rp W σ w H r Q1 := by
  cases r with
  | ok a h1 => exact fun w1 H1 v st L rp => hk a h1 w1 H1 v rfl st L rp (PoF.step st hp)
  | exc c fs h1 => exact fun w1 H1 C d st L rx => hp w1 H1 σ C d st L (E.mono st.le) rx
  | bad => exact hp
end

/-! ### the judgements -/
/-- what stays the same for the contexts of a def: program, world, written part, globals, base, names -/
structure Cz where
  P : Program
  w : World
  K : PySem.W.Frag
  mg : Str → Option Value
  base : Heap
  N : List Str
/-- what may differ -/
structure Cy where
  A : Around
  s_0 : Shared
  H_0 : Hp
  env : Env
  outer : List Env
  stack : List Env
  ex : List Addr
  fn : Str → Bool
  calm : Bool
  pn : List (Addr × Obj)
  xe : Value → Shared → Prop
abbrev cx (Z : Cz) (y : Cy) : Cx := { prog := Z.P, w := Z.w, K := Z.K, mg := Z.mg, base := Z.base, A := y.A, N := Z.N, s_0 := y.s_0, H_0 := y.H_0, env := y.env, outer := y.outer, stack := y.stack, ex := y.ex, fn := y.fn, calm := y.calm, pn := y.pn, xe := y.xe }
section
variable {ι : Type}
def EI (Z : Cz) (Y : ι → Cy) (W : WX) (e : Expr) (f : SE) : Prop := ∃ t, (∀ i, PE (cx Z (Y i)) e t) ∧ SnE Z.K Z.mg W t f
def TI (Z : Cz) (Y : ι → Cy) (W : WX) (e : Expr) (f : ST) : Prop := ∃ t, (∀ i, PT (cx Z (Y i)) e t) ∧ SnT Z.K Z.mg W t f
def AI (Z : Cz) (Y : ι → Cy) (W : WX) (es : List Expr) (f : SA) : Prop := ∃ t, (∀ i, PA (cx Z (Y i)) es t) ∧ SnA Z.K Z.mg W t f
def SI (Z : Cz) (Y : ι → Cy) (W : WX) (st : Stmt) (f : SS) : Prop := ∃ t, (∀ i, PS (cx Z (Y i)) st t) ∧ SnS Z.K Z.mg W t f
def BI (Z : Cz) (Y : ι → Cy) (W : WX) (st : List Stmt) (f : SS) : Prop := ∃ t, (∀ i, PSs (cx Z (Y i)) st t) ∧ SnS Z.K Z.mg W t f
variable {Z : Cz} {Y : ι → Cy} {W : WX}

/-! ### names, constants -/
def sVar (i : Nat) : SE := fun e h => match e[i]? with
  | some (some d) => .ok d h
  | _ => .bad
theorem ei_var (i : Nat) {x : Str} {pos : Pos} (hN : Z.N[i]? = some x := by rfl) (hv : ∀ i, Vis (Y i).env.scope x := by first | exact fun _ => Or.inl rfl | exact fun _ => Or.inr (Or.inl rfl) | exact fun _ => Or.inr (Or.inr rfl)) (hd : (x == ("__debug__" : Str)) = false := by decide)
    (hcd : (x == ("__classdict__" : Str)) = false := by decide) : EI Z Y W (.Name x pos) (sVar i) := by
  refine ⟨_, fun j => pe_var hN (hv j) hd hcd, fun σ e w h H Q E L hp => ?_⟩
  unfold sVar at hp
  cases he : e[i]? with
  | none => rw [he] at hp; exact hp.elim
  | some o =>
    cases o with
    | none => rw [he] at hp; exact hp.elim
    | some d =>
      rw [he] at hp
      obtain ⟨v, h1, h2⟩ := E.get i d he
      exact ⟨v, h1, hp w H v (Step.refl w H) L h2⟩
def sC (d : D) : SE := fun _ h => .ok d h
theorem sn_c {K : PySem.W.Frag} {mg : Str → Option Value} {d : D} {v : V} (r : ∀ w, Rep K mg w d v) : SnE K mg W (tC v) (sC d) := fun σ e w h H Q E L hp => hp w H v (Step.refl w H) L (r w)
theorem ei_int {i j pos} : EI Z Y W (.Constant (.int i) j pos) (sC (.int i)) := ⟨_, fun _ => pe_int, sn_c fun _ => .int i⟩
theorem ei_bl {b j pos} : EI Z Y W (.Constant (.bool b) j pos) (sC (.bl b)) := ⟨_, fun _ => pe_bl, sn_c fun _ => .bl b⟩
theorem ei_non {j pos} : EI Z Y W (.Constant .none j pos) (sC .non) := ⟨_, fun _ => pe_non, sn_c fun _ => .non⟩
theorem ei_str {x j pos} : EI Z Y W (.Constant (.str x) j pos) (sC (.str x)) := ⟨_, fun _ => pe_str, sn_c fun _ => .str x⟩
/-- a name of the module -/
def GlF (Y : ι → Cy) (x : Str) : Prop := ∀ i, (Y i).env.kindOf x = some .globalImplicit
/-- a constant of the module that is an int -/
theorem ei_gint {x : Str} {i : Int} {pos : Pos} (hg : GlF Y x) (hm : ∃ t, Z.mg x = some (.int i t)) (hd : (x == ("__debug__" : Str)) = false := by decide) : EI Z Y W (.Name x pos) (sC (.int i)) := by
  obtain ⟨t, hm⟩ := hm
  exact ⟨_, fun j => pe_glob (v := .int i) (hg j) hm ⟨t, rfl⟩ hd, sn_c fun _ => .int i⟩
/-- a def or a class of the text -/
theorem ei_glo {x : Str} {a : Addr} {pos : Pos} (hg : GlF Y x) (hm : Z.mg x = some (.ref a)) (hd : (x == ("__debug__" : Str)) = false := by decide) : EI Z Y W (.Name x pos) (sC (.glo x)) :=
  ⟨_, fun j => pe_glob (v := .ref a) (hg j) hm rfl hd, sn_c fun _ => .glo hm⟩
theorem ei_ty {x : Str} {n : String} {pos : Pos} (hg : GlF Y x) (hm : Z.mg x = none) (hv : bootBuiltins x = some (.type n)) (hn : x ≠ "__name__" := by decide) (hd : (x == ("__debug__" : Str)) = false := by decide) : EI Z Y W (.Name x pos) (sC (.ty n)) :=
  ⟨_, fun j => pe_bltn (v := .ty n) (hg j) hm hv rfl hn hd, sn_c fun _ => .ty n⟩

/-! ### operators -/
/-- a two-place operation by values -/
def sBin (g : D → D → Ph → R D) (fa fb : SE) : SE := fun e h => (fa e h).bind fun a h1 => (fb e h1).bind fun b h2 => g a b h2
def OpI (K : PySem.W.Frag) (mg : Str → Option Value) (r : R2) (g : D → D → Ph → R D) : Prop := ∀ (W : WX) (σ : St) (w : Wd) (h : Ph) (H : Hp) (a b : D) (x y : V) (Q : VK), Lk K mg w h H → Rep K mg w a x → Rep K mg w b y → PoE K mg W σ w H (g a b h) Q → r x y H Q
theorem sn_bin {K : PySem.W.Frag} {mg : Str → Option Value} {ta tb : TE} {r : R2} {g : D → D → Ph → R D} {fa fb : SE} (ho : OpI K mg r g) (ha : SnE K mg W ta fa) (hb : SnE K mg W tb fb) : SnE K mg W (tOp r ta tb) (sBin g fa fb) := fun σ e w h H Q E L hp =>
  ha σ e w h H _ E L (Po.bind (Rp := Rep K mg) hp fun a h1 w1 H1 x _ st1 L1 r1 hp1 => hb σ e w1 h1 H1 _ (E.mono st1.le) L1 (Po.bind (Rp := Rep K mg) hp1 fun b h2 w2 H2 y _ st2 L2 r2 hp2 =>
    ho W σ w2 h2 H2 a b x y Q L2 (r1.mono st2.le) r2 hp2))
/-- an operator's rule at each context -/
abbrev OpF (Z : Cz) (Y : ι → Cy) (f : Value → Value → Sem Value) (r : R2) : Prop := ∀ i, OpR (cx Z (Y i)) f r
theorem ei_bin {a b : Expr} {op : Operator} {r : R2} {g : D → D → Ph → R D} {fa fb : SE} {pos : Pos} (o : OpF Z Y (binaryOp op) r) (ho : OpI Z.K Z.mg r g) (ha : EI Z Y W a fa) (hb : EI Z Y W b fb) : EI Z Y W (.BinOp a op b pos) (sBin g fa fb) := by
  obtain ⟨ta, pa, sa⟩ := ha
  obtain ⟨tb, pb, sb⟩ := hb
  exact ⟨_, fun i => pe_op (o i) (pa i) (pb i), sn_bin ho sa sb⟩
theorem ei_cmp {a b : Expr} {op : CmpOp} {r : R2} {g : D → D → Ph → R D} {fa fb : SE} {pos : Pos} (o : OpF Z Y (compareOp op) r) (ho : OpI Z.K Z.mg r g) (hm : behindInMarks op b = false) (ha : EI Z Y W a fa) (hb : EI Z Y W b fb) : EI Z Y W (.Compare a [op] [b] pos) (sBin g fa fb) := by
  obtain ⟨ta, pa, sa⟩ := ha
  obtain ⟨tb, pb, sb⟩ := hb
  exact ⟨_, fun i => pe_cmpR (o i) (pa i) (pb i) hm, sn_bin ho sa sb⟩
/-- the same as a test -/
def D.tst (a : D) (h : Ph) : R Bool := match a with
  | .bl b => .ok b h
  | _ => .bad
def sTst (f : SE) : ST := fun e h => (f e h).bind fun a h1 => a.tst h1
/-- one of two ways -/
def br {α : Type} (b : Bool) (x y : α) : α := match b with
  | true => x
  | false => y
def D.br {α : Type} (a : D) (x y : R α) : R α := match a with
  | .bl b => Pd.br b x y
  | _ => .bad
theorem sn_tst {K : PySem.W.Frag} {mg : Str → Option Value} {t : TE} {f : SE} (h : SnE K mg W t f) : SnT K mg W (tTest t) (sTst f) := fun σ e w hh H Q E L hp =>
  h σ e w hh H _ E L (Po.bind (Rp := Rep K mg) hp fun a h1 w1 H1 x _ st1 L1 r1 hp1 => by
    cases r1 with
    | bl b => exact ⟨b, rfl, hp1 w1 H1 b (Step.refl _ _) L1 rfl⟩
    | _ => exact hp1.elim)
theorem ti_cmp {a b : Expr} {op : CmpOp} {r : R2} {g : D → D → Ph → R D} {fa fb : SE} {pos : Pos} (o : OpF Z Y (compareOp op) r) (ho : OpI Z.K Z.mg r g) (hm : behindInMarks op b = false) (ha : EI Z Y W a fa) (hb : EI Z Y W b fb) : TI Z Y W (.Compare a [op] [b] pos) (sTst (sBin g fa fb)) := by
  obtain ⟨ta, pa, sa⟩ := ha
  obtain ⟨tb, pb, sb⟩ := hb
  exact ⟨_, fun i => pt_cmpR (o i) (pa i) (pb i) hm, sn_tst (sn_bin ho sa sb)⟩
/-- an expression whose value is a bool -/
theorem ti_val {e : Expr} {f : SE} (h : EI Z Y W e f) (he : ∀ i whole, isTrue e (Y i).env whole = (do let v ← whole; standAt e.pos; holding [v] (truthy v)) := by intro _ _; rfl) : TI Z Y W e (sTst f) := by
  obtain ⟨t, p, s⟩ := h
  exact ⟨_, fun i => pt_val (p i) (he i), sn_tst s⟩
end
end Pd

namespace Pd
open PySem L2 Evl
section
variable {K : PySem.W.Frag} {mg : Str → Option Value} {X : Cx} {W : WX}
/-! ### small helps -/
theorem Po.here {α β : Type} {K : PySem.W.Frag} {mg : Str → Option Value} {Rp : Wd → α → β → Prop} {σ : St} {w : Wd} {H : Hp} {a : α} {h : Ph} {Q : β → Hp → Prop} {v : β} (L : Lk K mg w h H) (r : Rp w a v) (hp : Po K mg Rp W σ w H (.ok a h) Q) : Q v H := hp w H v (Step.refl w H) L r
theorem Reps.lay {K : PySem.W.Frag} {mg : Str → Option Value} {w : Wd} {H : Hp} {h : Ph} {p : Addr} (L : Lk K mg w h H) (hp : H p = none) {xs : List D} {vs : List V} (r : Reps K mg w xs vs) :
    Rep K mg ⟨w.ms, upd w.G p (.lst vs)⟩ (.lst xs) (.ref p) := .lst upd_same (r.mono (L.lay hp _).2.2)
/-- a new list, a new tuple is the answer -/
theorem Po.lst {K : PySem.W.Frag} {mg : Str → Option Value} {σ : St} {w : Wd} {H : Hp} {h : Ph} {xs : List D} {vs : List V} {Q : VK} {p : Addr} (L : Lk K mg w h H) (r : Reps K mg w xs vs) (hp : PoE K mg W σ w H (.ok (.lst xs) h) Q) (np : H p = none) : Q (.ref p) (upd H p (.lst vs)) := by
  obtain ⟨l1, l2, l3⟩ := L.lay np (.lst vs)
  exact hp _ _ _ l2 l1 (.lst upd_same (r.mono l3))
theorem Po.tup {K : PySem.W.Frag} {mg : Str → Option Value} {σ : St} {w : Wd} {H : Hp} {h : Ph} {xs : List D} {vs : List V} {Q : VK} {p : Addr} (L : Lk K mg w h H) (r : Reps K mg w xs vs) (hp : PoE K mg W σ w H (.ok (.tup xs) h) Q) (np : H p = none) : Q (.ref p) (upd H p (.tup vs)) := by
  obtain ⟨l1, l2, l3⟩ := L.lay np (.tup vs)
  exact hp _ _ _ l2 l1 (.tup (.inl (.inl upd_same)) (r.mono l3))
theorem SqT.ex {K : PySem.W.Frag} {mg : Str → Option Value} {w : Wd} {H : Hp} {h : Ph} (L : Lk K mg w h H) {a : Addr} {vs : List V} (q : SqT K w.G a vs) : SqT K H a vs := ex_t L.ex q
theorem SqL.ex {K : PySem.W.Frag} {mg : Str → Option Value} {w : Wd} {H : Hp} {h : Ph} (L : Lk K mg w h H) {a : Addr} {vs : List V} (q : SqL K w.G a vs) : SqL K H a vs := ex_l L.ex q

/-- a list that may be read, by its items -/
def lstOf (d : D) (h : Ph) : Option (List D) := match d with
  | .lst xs => some xs
  | .seq xs => some xs
  | .ref n => match h[n]? with
    | some (.lst xs) => some xs
    | _ => none
  | _ => none
theorem lstOf_ok {K : PySem.W.Frag} {mg : Str → Option Value} {w : Wd} {H : Hp} {h : Ph} (L : Lk K mg w h H) {d : D} {xs : List D} {v : V} (e : lstOf d h = some xs) (r : Rep K mg w d v) : ∃ a vs, v = .ref a ∧ SqL K H a vs ∧ Reps K mg w xs vs := by
  cases r with
  | lst q r => cases e; exact ⟨_, _, rfl, .inl (.inl (L.ex _ _ q)), r⟩
  | seq q r => cases e; exact ⟨_, _, rfl, ex_l L.ex q, r⟩
  | ref q =>
    obtain ⟨o, u, h1, h2, r'⟩ := L.there q
    unfold lstOf at e
    simp only [h1] at e
    cases r' with
    | lst r' => cases e; exact ⟨_, _, rfl, .inl (.inl h2), r'⟩
    | _ => cases e
  | _ => cases e
/-- a list of the call's own -/
def lsOf (d : D) (h : Ph) : Option (List D) := match d with
  | .lst xs => some xs
  | .ref n => match h[n]? with
    | some (.lst xs) => some xs
    | _ => none
  | _ => none
theorem lsOf_ok {K : PySem.W.Frag} {mg : Str → Option Value} {w : Wd} {H : Hp} {h : Ph} (L : Lk K mg w h H) {d : D} {xs : List D} {v : V} (e : lsOf d h = some xs) (r : Rep K mg w d v) : ∃ a vs, v = .ref a ∧ H a = some (.lst vs) ∧ Reps K mg w xs vs := by
  cases r with
  | lst q r => cases e; exact ⟨_, _, rfl, L.ex _ _ q, r⟩
  | ref q =>
    obtain ⟨o, u, h1, h2, r'⟩ := L.there q
    unfold lsOf at e
    simp only [h1] at e
    cases r' with
    | lst r' => cases e; exact ⟨_, _, rfl, h2, r'⟩
    | _ => cases e
  | _ => cases e
/-- an option -/
def R.opt {α γ : Type} (o : Option γ) (f : γ → R α) : R α := match o with
  | some x => f x
  | none => .bad
theorem R.opt_some {α γ : Type} (x : γ) (f : γ → R α) : R.opt (some x) f = f x := rfl
theorem Po.some {α β γ : Type} {K : PySem.W.Frag} {mg : Str → Option Value} {Rp : Wd → α → β → Prop} {σ : St} {w : Wd} {H : Hp} {Q : β → Hp → Prop} {o : Option γ} {f : γ → R α} (hp : Po K mg Rp W σ w H (R.opt o f) Q) :
    ∃ x, o = some x ∧ Po K mg Rp W σ w H (f x) Q := by
  cases o with
  | none => exact hp.elim
  | some x => exact ⟨x, rfl, hp⟩
theorem Po.ite {α β : Type} {K : PySem.W.Frag} {mg : Str → Option Value} {Rp : Wd → α → β → Prop} {σ : St} {w : Wd} {H : Hp} {Q : β → Hp → Prop} {c : Prop} [Decidable c] {f : R α} (hp : Po K mg Rp W σ w H (if c then f else .bad) Q) :
    c ∧ Po K mg Rp W σ w H f Q := by
  by_cases hc : c
  · rw [if_pos hc] at hp; exact ⟨hc, hp⟩
  · rw [if_neg hc] at hp; exact hp.elim

/-! ### + - * // % ** -/
/-- the most items of a list, signs of a text -/
def mostL : Nat := 16777216
theorem mostL_eq : mostL = sizeLine := by rw [sizeLine_eq]; rfl
theorem mostL_le {n : Nat} (h : n ≤ mostL) : n ≤ sizeLine := by rw [← mostL_eq]; exact h
def dCat (a b : D) (h : Ph) : R D := R.opt (lsOf a h) fun xs => R.opt (lsOf b h) fun ys => if xs.length + ys.length ≤ mostL then .ok (.lst (xs ++ ys)) h else .bad
def dAdd (a b : D) (h : Ph) : R D := match a, b with
  | .int i, .int j => .ok (.int (i + j)) h
  | .str x, .str y => if x.length + y.length ≤ mostL then .ok (.str (x ++ y)) h else .bad
  | .tup xs, .tup ys => if xs.length + ys.length ≤ mostL then .ok (.tup (xs ++ ys)) h else .bad
  | a, b => dCat a b h
def rAddAll (K : PySem.W.Frag) : R2 := fun x y H Q => (rI0 (fun i j => .int (i + j)) x y H Q) ∨ ((∃ i j, x = .str i ∧ y = .str j ∧ i.length + j.length ≤ sizeLine ∧ Q (.str (i ++ j)) H) ∨ (rCat x y H Q ∨ rCatA K x y H Q))
theorem oi_add : OpI K mg (rAddAll K) dAdd := by
  intro W σ w h H a b x y Q L ra rb hp
  have fall : PoE K mg W σ w H (dCat a b h) Q → rAddAll K x y H Q := fun hq => by
    obtain ⟨xs, e1, hq⟩ := Po.some hq
    obtain ⟨ys, e2, hq⟩ := Po.some hq
    obtain ⟨hl, hq⟩ := Po.ite hq
    obtain ⟨a1, vs, rfl, ha, r1⟩ := lsOf_ok L e1 ra
    obtain ⟨b1, us, rfl, hb, r2⟩ := lsOf_ok L e2 rb
    exact .inr (.inr (.inl ⟨a1, b1, vs, us, rfl, rfl, ha, hb, by rw [← r1.length, ← r2.length]; exact mostL_le hl, fun p np => Po.lst L (r1.append r2) hq np⟩))
  unfold dAdd at hp
  split at hp
  · cases ra; cases rb
    exact .inl ⟨_, _, rfl, rfl, Po.here L (.int _) hp⟩
  · cases ra; cases rb
    obtain ⟨hl, hp⟩ := Po.ite hp
    exact .inr (.inl ⟨_, _, rfl, rfl, mostL_le hl, Po.here L (.str _) hp⟩)
  · rename_i xs ys
    cases ra with
    | tup q1 r1 =>
      cases rb with
      | tup q2 r2 =>
        obtain ⟨hl, hp⟩ := Po.ite hp
        refine .inr (.inr (.inr ⟨_, _, _, _, rfl, rfl, SqT.ex L q1, SqT.ex L q2, by rw [← r1.length, ← r2.length]; exact mostL_le hl, fun z => ?_, fun _ z => ?_, fun _ _ p np => Po.tup L (r1.append r2) hp np⟩))
        · subst z
          cases r1
          exact Po.here L (.tup q2 r2) hp
        · subst z
          cases r2
          rw [List.append_nil] at hp
          exact Po.here L (.tup q1 r1) hp
  · exact fall hp
theorem op_addAll : OpR X (binaryOp .Add) (rAddAll X.K) := op_add.or (op_add_str.or (op_cat.or op_catA))
def dSub (a b : D) (h : Ph) : R D := match a, b with
  | .int i, .int j => .ok (.int (i - j)) h
  | _, _ => .bad
/-- an operation on ints, under a condition -/
theorem oi_int {C : Int → Int → Prop} {g : Int → Int → Int} {d : D → D → Ph → R D} (hd : ∀ (K : PySem.W.Frag) (mg : Str → Option Value) (W : WX) (σ : St) (w : Wd) (h : Ph) (H : Hp) (a b : D) (Q : VK), PoE K mg W σ w H (d a b h) Q → ∃ i j, a = .int i ∧ b = .int j ∧ C i j ∧ PoE K mg W σ w H (.ok (.int (g i j)) h) Q) :
    OpI K mg (rI C fun i j => .int (g i j)) d := by
  intro W σ w h H a b x y Q L ra rb hp
  obtain ⟨i, j, rfl, rfl, hc, hq⟩ := hd _ _ _ _ _ _ _ _ _ _ hp
  cases ra; cases rb
  exact ⟨i, j, rfl, rfl, hc, Po.here L (.int _) hq⟩
theorem oi_sub : OpI K mg (rI0 fun i j => .int (i - j)) dSub := by
  intro W σ w h H a b x y Q L ra rb hp
  unfold dSub at hp
  split at hp
  · cases ra; cases rb
    exact ⟨_, _, rfl, rfl, Po.here L (.int _) hp⟩
  · exact hp.elim
/-- the items so many times -/
def repL (k : Int) (xs : List D) : List D := (List.replicate k.toNat xs).flatten
theorem Reps.rep {K : PySem.W.Frag} {mg : Str → Option Value} {w : Wd} {xs : List D} {vs : List V} (r : Reps K mg w xs vs) : ∀ k : Nat, Reps K mg w (List.replicate k xs).flatten (List.replicate k vs).flatten
  | 0 => .nil
  | k + 1 => by
    rw [List.replicate_succ, List.replicate_succ, List.flatten_cons, List.flatten_cons]
    exact r.append (Reps.rep r k)
def dMul (a b : D) (h : Ph) : R D := match a, b with
  | .int i, .int j => if i.natAbs < 18446744073709551616 ∨ j.natAbs < 18446744073709551616 ∨ i.natAbs.log2 + j.natAbs.log2 < 1000000 then .ok (.int (i * j)) h else .bad
  | a, .int k => R.opt (lsOf a h) fun xs => if -(2 ^ 63) ≤ k ∧ k < 2 ^ 63 ∧ xs.length * k.toNat ≤ mostL then .ok (.lst (repL k xs)) h else .bad
  | _, _ => .bad
def rMulAll : R2 := fun x y H Q => (rI CMul (fun i j => .int (i * j)) x y H Q) ∨ ((rI CMulW (fun i j => .int (i * j)) x y H Q) ∨ rRep x y H Q)
theorem op_mulAll : OpR X (binaryOp .Mult) rMulAll := op_mul.or (op_mulW.or op_rep)
theorem oi_mul : OpI K mg rMulAll dMul := by
  intro W σ w h H a b x y Q L ra rb hp
  unfold dMul at hp
  split at hp
  · obtain ⟨hc, hp⟩ := Po.ite hp
    cases ra; cases rb
    rcases hc with hc | hc | hc
    · exact .inl ⟨_, _, rfl, rfl, .inl (by omega), Po.here L (.int _) hp⟩
    · exact .inl ⟨_, _, rfl, rfl, .inr (by omega), Po.here L (.int _) hp⟩
    · exact .inr (.inl ⟨_, _, rfl, rfl, hc, Po.here L (.int _) hp⟩)
  · obtain ⟨xs, e1, hp⟩ := Po.some hp
    obtain ⟨hc, hp⟩ := Po.ite hp
    obtain ⟨a1, vs, rfl, ha, r1⟩ := lsOf_ok L e1 ra
    cases rb
    exact .inr (.inr ⟨a1, _, vs, rfl, rfl, ha, hc.1, hc.2.1, by rw [← r1.length]; exact mostL_le hc.2.2, fun p np => Po.lst L (r1.rep _) hp np⟩)
  · exact hp.elim
/-- // : by a divisor above 0 of fewer than 9000 bits, or by a small one below 0 -/
def dDiv (a b : D) (h : Ph) : R D := match a, b with
  | .int i, .int j => if 0 < j then (if j.natAbs.log2 < 9000 then .ok (.int (i / j)) h else .bad) else (if j ≠ 0 ∧ j.natAbs < 1073741824 then .ok (.int (i.fdiv j)) h else .bad)
  | _, _ => .bad
def rDivAll : R2 := fun x y H Q => (rI CDivW (fun i j => .int (i / j)) x y H Q) ∨ (rI CDivN (fun i j => .int (i.fdiv j)) x y H Q)
theorem op_divAll : OpR X (binaryOp .FloorDiv) rDivAll := op_fdivW.or op_fdivN
theorem oi_div : OpI K mg rDivAll dDiv := by
  intro W σ w h H a b x y Q L ra rb hp
  unfold dDiv at hp
  split at hp
  · cases ra; cases rb
    rename_i i j
    by_cases hj : 0 < j
    · rw [if_pos hj] at hp
      obtain ⟨hc, hp⟩ := Po.ite hp
      exact .inl ⟨_, _, rfl, rfl, ⟨hj, hc⟩, Po.here L (.int _) hp⟩
    · rw [if_neg hj] at hp
      obtain ⟨hc, hp⟩ := Po.ite hp
      exact .inr ⟨_, _, rfl, rfl, hc, Po.here L (.int _) hp⟩
  · exact hp.elim
def dMod (a b : D) (h : Ph) : R D := match a, b with
  | .int i, .int j => if 0 < j then .ok (.int (i % j)) h else (if j ≠ 0 then .ok (.int (i.fmod j)) h else .bad)
  | _, _ => .bad
theorem oi_mod : OpI K mg (rI (fun _ j => j ≠ 0) fun i j => .int (i.fmod j)) dMod := by
  refine oi_int fun K mg W σ w h H a b Q hp => ?_
  unfold dMod at hp
  split at hp
  · rename_i i j
    by_cases hj : 0 < j
    · rw [if_pos hj] at hp
      exact ⟨i, j, rfl, rfl, by omega, by rw [Int.fmod_eq_emod_of_nonneg i (by omega)]; exact hp⟩
    · rw [if_neg hj] at hp
      obtain ⟨hc, hp⟩ := Po.ite hp
      exact ⟨i, j, rfl, rfl, hc, hp⟩
  · exact hp.elim
def dPow (a b : D) (h : Ph) : R D := match a, b with
  | .int i, .int j => if 0 ≤ j ∧ j ≤ 1000000 ∧ i.natAbs < 2 ^ 64 then .ok (.int (i ^ j.toNat)) h else .bad
  | _, _ => .bad
theorem oi_pow : OpI K mg (rI CPow fun i j => .int (i ^ j.toNat)) dPow := by
  refine oi_int fun K mg W σ w h H a b Q hp => ?_
  unfold dPow at hp
  split at hp
  · obtain ⟨hc, hp⟩ := Po.ite hp
    exact ⟨_, _, rfl, rfl, hc, hp⟩
  · exact hp.elim

/-! ### comparisons -/
def ltZ (xs ys : List Int) : Bool := HT.lexLt xs ys
/-- the ints of a list, where all are ints -/
def intsOf : List D → Option (List Int)
  | [] => some []
  | .int i :: r => (intsOf r).map (i :: ·)
  | _ => none
theorem intsOf_ok {K : PySem.W.Frag} {mg : Str → Option Value} {w : Wd} : ∀ {xs : List D} {ns : List Int} {vs : List V}, intsOf xs = some ns → Reps K mg w xs vs → vs = ns.map V.int
  | [], _, _, e, .nil => by cases e; rfl
  | .int i :: r, ns, _, e, .cons h t => by
    unfold intsOf at e
    cases q : intsOf r with
    | none => rw [q] at e; cases e
    | some ms =>
      rw [q] at e
      cases e
      cases h
      rw [intsOf_ok q t]
      rfl
  | .non :: _, _, _, e, _ => by cases e
  | .bl _ :: _, _, _, e, _ => by cases e
  | .str _ :: _, _, _, e, _ => by cases e
  | .tup _ :: _, _, _, e, _ => by cases e
  | .lst _ :: _, _, _, e, _ => by cases e
  | .seq _ :: _, _, _, e, _ => by cases e
  | .ref _ :: _, _, _, e, _ => by cases e
  | .glo _ :: _, _, _, e, _ => by cases e
  | .ty _ :: _, _, _, e, _ => by cases e
/-- < on ints and on tuples of ints -/
def dLt (a b : D) (h : Ph) : R D := match a, b with
  | .int i, .int j => .ok (.bl (decide (i < j))) h
  | .tup xs, .tup ys => R.opt (intsOf xs) fun ns => R.opt (intsOf ys) fun ms => .ok (.bl (HT.lexLt ns ms)) h
  | _, _ => .bad
def rLtAll (K : PySem.W.Frag) : R2 := fun x y H Q => (rI0 (fun i j => .bl (decide (i < j))) x y H Q) ∨ rLtT K x y H Q
theorem op_ltAll (hu : X.A.units < cLine) : OpR X (compareOp .Lt) (rLtAll X.K) := op_lt.or (op_ltT hu)
theorem oi_lt : OpI K mg (rLtAll K) dLt := by
  intro W σ w h H a b x y Q L ra rb hp
  unfold dLt at hp
  split at hp
  · cases ra; cases rb
    exact .inl ⟨_, _, rfl, rfl, Po.here L (.bl _) hp⟩
  · obtain ⟨ns, e1, hp⟩ := Po.some hp
    obtain ⟨ms, e2, hp⟩ := Po.some hp
    cases ra with
    | tup q1 r1 =>
      cases rb with
      | tup q2 r2 =>
        have z1 := intsOf_ok e1 r1
        have z2 := intsOf_ok e2 r2
        subst z1 z2
        exact .inr ⟨_, _, ns, ms, rfl, rfl, SqT.ex L q1, SqT.ex L q2, Po.here L (.bl _) hp⟩
  · exact hp.elim
theorem oi_i2 {g : Int → Int → Bool} {d : D → D → Ph → R D} (hd : ∀ a b h, d a b h = match a, b with
    | .int i, .int j => .ok (.bl (g i j)) h
    | _, _ => .bad) : OpI K mg (rI0 fun i j => .bl (g i j)) d := by
  intro W σ w h H a b x y Q L ra rb hp
  rw [hd] at hp
  split at hp
  · cases ra; cases rb
    exact ⟨_, _, rfl, rfl, Po.here L (.bl _) hp⟩
  · exact hp.elim
def dLe (a b : D) (h : Ph) : R D := match a, b with
  | .int i, .int j => .ok (.bl (decide (i ≤ j))) h
  | _, _ => .bad
def dGt (a b : D) (h : Ph) : R D := match a, b with
  | .int i, .int j => .ok (.bl (decide (j < i))) h
  | _, _ => .bad
def dGe (a b : D) (h : Ph) : R D := match a, b with
  | .int i, .int j => .ok (.bl (decide (j ≤ i))) h
  | _, _ => .bad
theorem oi_le : OpI K mg (rI0 fun i j => .bl (decide (i ≤ j))) dLe := oi_i2 fun _ _ _ => rfl
theorem oi_gt : OpI K mg (rI0 fun i j => .bl (decide (j < i))) dGt := oi_i2 fun _ _ _ => rfl
theorem oi_ge : OpI K mg (rI0 fun i j => .bl (decide (j ≤ i))) dGe := oi_i2 fun _ _ _ => rfl
/-- as the library's data: no refs within -/
def D.py : D → Option PyData
  | .non => some .none
  | .bl b => some (.bool b)
  | .int i => some (.int i)
  | .str x => some (.str x)
  | .tup xs => (pys xs).map .tuple
  | .lst xs => (pys xs).map .list
  | .seq xs => (pys xs).map .list
  | _ => none
where pys : List D → Option (List PyData)
  | [] => some []
  | x :: r => match x.py with
    | none => none
    | some d => (pys r).map (d :: ·)
/-- .. one that changes, itself -/
def pyOf (d : D) (h : Ph) : Option PyData := match d with
  | .ref n => match h[n]? with
    | some (.lst xs) => (D.py.pys xs).map .list
    | _ => none
  | d => d.py
section
variable {K : PySem.W.Frag} {mg : Str → Option Value} {w : Wd} {H : Hp}
mutual
theorem py_ok (ex : Ex w.G H) : ∀ {d : D} {p : PyData} {v : V}, d.py = some p → Rep K mg w d v → Dp K H v p
  | .non, _, _, e, .non => by cases e; exact .non
  | .bl _, _, _, e, .bl _ => by cases e; exact .bl _
  | .int _, _, _, e, .int _ => by cases e; exact .int _
  | .str _, _, _, e, .str _ => by cases e; exact .str _
  | .tup xs, _, _, e, .tup q r => by
    simp only [D.py] at e
    cases z : D.py.pys xs with
    | none => rw [z] at e; cases e
    | some ps =>
      rw [z] at e
      cases e
      exact .tup (ex_t ex q) (pys_ok ex z r)
  | .lst xs, _, _, e, .lst q r => by
    simp only [D.py] at e
    cases z : D.py.pys xs with
    | none => rw [z] at e; cases e
    | some ps =>
      rw [z] at e
      cases e
      exact .lst (.inl (.inl (ex _ _ q))) (pys_ok ex z r)
  | .seq xs, _, _, e, .seq q r => by
    simp only [D.py] at e
    cases z : D.py.pys xs with
    | none => rw [z] at e; cases e
    | some ps =>
      rw [z] at e
      cases e
      exact .lst (ex_l ex q) (pys_ok ex z r)
  | .ref _, _, _, e, _ => by simp only [D.py] at e; cases e
  | .glo _, _, _, e, _ => by simp only [D.py] at e; cases e
  | .ty _, _, _, e, _ => by simp only [D.py] at e; cases e
theorem pys_ok (ex : Ex w.G H) : ∀ {d : List D} {p : List PyData} {v : List V}, D.py.pys d = some p → Reps K mg w d v → DpAll K H v p
  | [], _, _, e, .nil => by cases e; exact .nil
  | x :: r, _, _, e, .cons h t => by
    simp only [D.py.pys] at e
    cases z : x.py with
    | none => rw [z] at e; cases e
    | some d =>
      rw [z] at e
      cases z2 : D.py.pys r with
      | none => rw [z2] at e; cases e
      | some ds =>
        rw [z2] at e
        cases e
        exact .cons (py_ok ex z h) (pys_ok ex z2 t)
end
theorem pyOf_ok {h : Ph} (L : Lk K mg w h H) {d : D} {p : PyData} {v : V} (e : pyOf d h = some p) (r : Rep K mg w d v) : Dp K H v p := by
  unfold pyOf at e
  split at e
  · cases r with
    | ref q =>
      obtain ⟨o, u, h1, h2, r'⟩ := L.there q
      simp only [h1] at e
      cases r' with
      | lst r' =>
        rename_i xs vs
        cases z : D.py.pys xs with
        | none => simp only [z] at e; cases e
        | some ps =>
          simp only [z] at e
          cases e
          exact .lst (.inl (.inl h2)) (pys_ok L.ex z r')
      | _ => cases e
  · exact py_ok L.ex e r
end
def dEq (a b : D) (h : Ph) : R D := R.opt (pyOf a h) fun p => R.opt (pyOf b h) fun q => if SeqAt.shaped p = true ∧ SeqAt.shaped q = true then .ok (.bl (PyData.eqv p q)) h else .bad
def dNe (a b : D) (h : Ph) : R D := R.opt (pyOf a h) fun p => R.opt (pyOf b h) fun q => if SeqAt.shaped p = true ∧ SeqAt.shaped q = true then .ok (.bl (!PyData.eqv p q)) h else .bad
theorem oi_eq : OpI K mg (rEqD K) dEq := by
  intro W σ w h H a b x y Q L ra rb hp
  obtain ⟨p, e1, hp⟩ := Po.some hp
  obtain ⟨q, e2, hp⟩ := Po.some hp
  obtain ⟨⟨s1, s2⟩, hp⟩ := Po.ite hp
  exact ⟨p, q, pyOf_ok L e1 ra, pyOf_ok L e2 rb, s1, s2, Po.here L (.bl _) hp⟩
theorem oi_ne : OpI K mg (rNeD K) dNe := by
  intro W σ w h H a b x y Q L ra rb hp
  obtain ⟨p, e1, hp⟩ := Po.some hp
  obtain ⟨q, e2, hp⟩ := Po.some hp
  obtain ⟨⟨s1, s2⟩, hp⟩ := Po.ite hp
  exact ⟨p, q, pyOf_ok L e1 ra, pyOf_ok L e2 rb, s1, s2, Po.here L (.bl _) hp⟩
/-- x is None, x is not None -/
def D.isNon : D → Bool
  | .non => true
  | _ => false
theorem isNon_ok {K : PySem.W.Frag} {mg : Str → Option Value} {w : Wd} {d : D} {v : V} (r : Rep K mg w d v) : decide (v = .non) = d.isNon := by
  cases r <;> simp [D.isNon]
def dIs (a b : D) (h : Ph) : R D := match b with
  | .non => .ok (.bl a.isNon) h
  | _ => .bad
def dIsNot (a b : D) (h : Ph) : R D := match b with
  | .non => .ok (.bl (!a.isNon)) h
  | _ => .bad
theorem oi_is : OpI K mg (fun x y H Q => y = .non ∧ Q (.bl (decide (x = .non))) H) dIs := by
  intro W σ w h H a b x y Q L ra rb hp
  unfold dIs at hp
  split at hp
  · cases rb
    refine ⟨rfl, ?_⟩
    rw [isNon_ok ra]
    exact Po.here L (.bl _) hp
  · exact hp.elim
theorem oi_isNot : OpI K mg (fun x y H Q => y = .non ∧ Q (.bl (!decide (x = .non))) H) dIsNot := by
  intro W σ w h H a b x y Q L ra rb hp
  unfold dIsNot at hp
  split at hp
  · cases rb
    refine ⟨rfl, ?_⟩
    rw [isNon_ok ra]
    exact Po.here L (.bl _) hp
  · exact hp.elim
/-- -x -/
def sNeg (f : SE) : SE := fun e h => (f e h).bind fun a h1 => match a with
  | .int i => .ok (.int (-i)) h1
  | _ => .bad
theorem ei_neg {ι : Type} {Z : Cz} {Y : ι → Cy} {a : Expr} {f : SE} {pos : Pos} (ha : EI Z Y W a f) : EI Z Y W (.UnaryOp .USub a pos) (sNeg f) := by
  obtain ⟨t, p, s⟩ := ha
  refine ⟨_, fun i => pe_un un_neg (p i), fun σ e w h H Q E L hp => s σ e w h H _ E L (Po.bind (Rp := Rep Z.K Z.mg) hp fun a h1 w1 H1 x _ st1 L1 r1 hp1 => ?_)⟩
  cases r1 with
  | int i => exact ⟨i, rfl, Po.here L1 (.int _) hp1⟩
  | _ => exact hp1.elim
end
end Pd

namespace Pd
open PySem L2 Evl
section
variable {ι : Type} {Z : Cz} {Y : ι → Cy} {W : WX}
/-! ### and, or, not, if as values -/
def sAnd (fa fb : SE) : SE := fun e h => (fa e h).bind fun a h1 => a.br (fb e h1) (.ok (.bl false) h1)
def sOr (fa fb : SE) : SE := fun e h => (fa e h).bind fun a h1 => a.br (.ok (.bl true) h1) (fb e h1)
def D.neg (a : D) (h : Ph) : R D := match a with
  | .bl b => .ok (.bl (!b)) h
  | _ => .bad
def sNot (fa : SE) : SE := fun e h => (fa e h).bind fun a h1 => a.neg h1
theorem ei_one {a : Expr} {op : BoolOp} {f : SE} {pos : Pos} (h : EI Z Y W a f) : EI Z Y W (.BoolOp op [a] pos) f := by
  obtain ⟨t, p, s⟩ := h
  exact ⟨_, fun i => pe_one (p i), s⟩
theorem ei_and {a b : Expr} {rest : List Expr} {fa fb : SE} {pos : Pos} (ha : EI Z Y W a fa) (hb : EI Z Y W (.BoolOp .And (b :: rest) pos) fb) : EI Z Y W (.BoolOp .And (a :: b :: rest) pos) (sAnd fa fb) := by
  obtain ⟨ta, pa, sa⟩ := ha
  obtain ⟨tb, pb, sb⟩ := hb
  refine ⟨_, fun i => pe_and (pa i) (pb i), fun σ e w h H Q E L hp => sa σ e w h H _ E L (Po.bind (Rp := Rep Z.K Z.mg) hp fun a h1 w1 H1 x _ st1 L1 r1 hp1 => ?_)⟩
  cases r1 with
  | bl c =>
    refine ⟨c, rfl, ?_⟩
    cases c with
    | true => exact sb σ e w1 h1 H1 _ (E.mono st1.le) L1 hp1
    | false => exact Po.here L1 (.bl _) hp1
  | _ => exact hp1.elim
theorem ei_or {a b : Expr} {rest : List Expr} {fa fb : SE} {pos : Pos} (ha : EI Z Y W a fa) (hb : EI Z Y W (.BoolOp .Or (b :: rest) pos) fb) : EI Z Y W (.BoolOp .Or (a :: b :: rest) pos) (sOr fa fb) := by
  obtain ⟨ta, pa, sa⟩ := ha
  obtain ⟨tb, pb, sb⟩ := hb
  refine ⟨_, fun i => pe_or (pa i) (pb i), fun σ e w h H Q E L hp => sa σ e w h H _ E L (Po.bind (Rp := Rep Z.K Z.mg) hp fun a h1 w1 H1 x _ st1 L1 r1 hp1 => ?_)⟩
  cases r1 with
  | bl c =>
    refine ⟨c, rfl, ?_⟩
    cases c with
    | false => exact sb σ e w1 h1 H1 _ (E.mono st1.le) L1 hp1
    | true => exact Po.here L1 (.bl _) hp1
  | _ => exact hp1.elim
theorem ei_not {a : Expr} {fa : SE} {pos : Pos} (ha : EI Z Y W a fa) : EI Z Y W (.UnaryOp .Not a pos) (sNot fa) := by
  obtain ⟨ta, pa, sa⟩ := ha
  refine ⟨_, fun i => pe_not (pa i), fun σ e w h H Q E L hp => sa σ e w h H _ E L (Po.bind (Rp := Rep Z.K Z.mg) hp fun a h1 w1 H1 x _ st1 L1 r1 hp1 => ?_)⟩
  cases r1 with
  | bl c => exact ⟨c, rfl, Po.here L1 (.bl _) hp1⟩
  | _ => exact hp1.elim
def sIf (c : ST) (fa fb : SE) : SE := fun e h => (c e h).bind fun b h1 => br b (fa e h1) (fb e h1)
theorem ei_ifExp {c a b : Expr} {fc : ST} {fa fb : SE} {pos : Pos} (hc : TI Z Y W c fc) (ha : EI Z Y W a fa) (hb : EI Z Y W b fb) : EI Z Y W (.IfExp c a b pos) (sIf fc fa fb) := by
  obtain ⟨tc, pc, sc⟩ := hc
  obtain ⟨ta, pa, sa⟩ := ha
  obtain ⟨tb, pb, sb⟩ := hb
  refine ⟨_, fun i => pe_ifExp (pc i) (pa i) (pb i), fun σ e w h H Q E L hp => sc σ e w h H _ E L (Po.bind (Rp := RpB) hp fun a h1 w1 H1 x _ st1 L1 r1 hp1 => ?_)⟩
  cases r1
  cases a with
  | true => exact sa σ e w1 h1 H1 _ (E.mono st1.le) L1 hp1
  | false => exact sb σ e w1 h1 H1 _ (E.mono st1.le) L1 hp1
/-! ### .. as tests -/
def qAnd (fa fb : ST) : ST := fun e h => (fa e h).bind fun a h1 => br a (fb e h1) (.ok false h1)
def qOr (fa fb : ST) : ST := fun e h => (fa e h).bind fun a h1 => br a (.ok true h1) (fb e h1)
def qNot (fa : ST) : ST := fun e h => (fa e h).bind fun a h1 => .ok (!a) h1
/-- a test whatever its whole is -/
def WI (Z : Cz) (Y : ι → Cy) (W : WX) (e : Expr) (f : ST) : Prop := ∃ t, (∀ i, PW (cx Z (Y i)) e t) ∧ SnT Z.K Z.mg W t f
theorem WI.ti {e : Expr} {f : ST} (h : WI Z Y W e f) : TI Z Y W e f := by
  obtain ⟨t, p, s⟩ := h
  exact ⟨t, fun i => (p i).pt, s⟩
theorem wi_and1 {a : Expr} {f : ST} {pos : Pos} (h : TI Z Y W a f) : WI Z Y W (.BoolOp .And [a] pos) f := by
  obtain ⟨t, p, s⟩ := h
  exact ⟨t, fun i => pw_and1 (p i), s⟩
theorem wi_or1 {a : Expr} {f : ST} {pos : Pos} (h : TI Z Y W a f) : WI Z Y W (.BoolOp .Or [a] pos) f := by
  obtain ⟨t, p, s⟩ := h
  exact ⟨t, fun i => pw_or1 (p i), s⟩
theorem wi_and {a b : Expr} {rest : List Expr} {fa fb : ST} {pos : Pos} (ha : TI Z Y W a fa) (hb : WI Z Y W (.BoolOp .And (b :: rest) pos) fb) : WI Z Y W (.BoolOp .And (a :: b :: rest) pos) (qAnd fa fb) := by
  obtain ⟨ta, pa, sa⟩ := ha
  obtain ⟨tb, pb, sb⟩ := hb
  refine ⟨_, fun i => pw_and (pa i) (pb i), fun σ e w h H Q E L hp => sa σ e w h H _ E L (Po.bind (Rp := RpB) hp fun a h1 w1 H1 x _ st1 L1 r1 hp1 => ?_)⟩
  cases r1
  cases a with
  | true => exact sb σ e w1 h1 H1 _ (E.mono st1.le) L1 hp1
  | false => exact Po.here L1 rfl hp1
theorem wi_or {a b : Expr} {rest : List Expr} {fa fb : ST} {pos : Pos} (ha : TI Z Y W a fa) (hb : WI Z Y W (.BoolOp .Or (b :: rest) pos) fb) : WI Z Y W (.BoolOp .Or (a :: b :: rest) pos) (qOr fa fb) := by
  obtain ⟨ta, pa, sa⟩ := ha
  obtain ⟨tb, pb, sb⟩ := hb
  refine ⟨_, fun i => pw_or (pa i) (pb i), fun σ e w h H Q E L hp => sa σ e w h H _ E L (Po.bind (Rp := RpB) hp fun a h1 w1 H1 x _ st1 L1 r1 hp1 => ?_)⟩
  cases r1
  cases a with
  | false => exact sb σ e w1 h1 H1 _ (E.mono st1.le) L1 hp1
  | true => exact Po.here L1 rfl hp1
theorem ti_not {a : Expr} {fa : ST} {pos : Pos} (ha : TI Z Y W a fa) : TI Z Y W (.UnaryOp .Not a pos) (qNot fa) := by
  obtain ⟨ta, pa, sa⟩ := ha
  refine ⟨_, fun i => pt_not (pa i), fun σ e w h H Q E L hp => sa σ e w h H _ E L (Po.bind (Rp := RpB) hp fun a h1 w1 H1 x _ st1 L1 r1 hp1 => ?_)⟩
  cases r1
  exact Po.here L1 rfl hp1
/-! ### chains of comparisons -/
def sChain (g g' : D → D → Ph → R D) (fa fb fc : SE) : SE := fun e h => (fa e h).bind fun a h1 => (fb e h1).bind fun b h2 => (g a b h2).bind fun z h3 => z.br ((fc e h3).bind fun c h4 => g' b c h4) (.ok (.bl false) h3)
theorem sn_chain {K : PySem.W.Frag} {mg : Str → Option Value} {ta tb tc : TE} {r r' : R2} {g g' : D → D → Ph → R D} {fa fb fc : SE} (ho : OpI K mg r g) (ho' : OpI K mg r' g') (ha : SnE K mg W ta fa) (hb : SnE K mg W tb fb) (hc : SnE K mg W tc fc) :
    SnE K mg W (tChain r r' ta tb tc) (sChain g g' fa fb fc) := fun σ e w h H Q E L hp =>
  ha σ e w h H _ E L (Po.bind (Rp := Rep K mg) hp fun a h1 w1 H1 x _ st1 L1 r1 hp1 => hb σ e w1 h1 H1 _ (E.mono st1.le) L1 (Po.bind (Rp := Rep K mg) hp1 fun b h2 w2 H2 y _ st2 L2 r2 hp2 =>
    ho W σ w2 h2 H2 a b x y _ L2 (r1.mono st2.le) r2 (Po.bind (Rp := Rep K mg) hp2 fun z h3 w3 H3 z' _ st3 L3 r3 hp3 => by
      cases r3 with
      | bl k =>
        refine ⟨k, rfl, ?_⟩
        cases k with
        | true => exact hc σ e w3 h3 H3 _ (E.mono ((st1.le.trans st2.le).trans st3.le)) L3 (Po.bind (Rp := Rep K mg) hp3 fun c h4 w4 H4 u _ st4 L4 r4 hp4 => ho' W σ w4 h4 H4 b c y u _ L4 (r2.mono (st3.le.trans st4.le)) r4 hp4)
        | false => exact Po.here L3 (.bl _) hp3
      | _ => exact hp3.elim)))
theorem ei_chain {a b c : Expr} {op op' : CmpOp} {r r' : R2} {g g' : D → D → Ph → R D} {fa fb fc : SE} {pos : Pos} (o : OpF Z Y (compareOp op) r) (ho : OpI Z.K Z.mg r g) (o' : OpF Z Y (compareOp op') r') (ho' : OpI Z.K Z.mg r' g')
    (ha : EI Z Y W a fa) (hb : EI Z Y W b fb) (hc : EI Z Y W c fc) (hm : lastMarks [op, op'] [b, c] = false := by with_unfolding_all rfl) : EI Z Y W (.Compare a [op, op'] [b, c] pos) (sChain g g' fa fb fc) := by
  obtain ⟨ta, pa, sa⟩ := ha
  obtain ⟨tb, pb, sb⟩ := hb
  obtain ⟨tc, pc, sc⟩ := hc
  exact ⟨_, fun i => pe_chain (o i) (o' i) (pa i) (pb i) (pc i) hm, sn_chain ho ho' sa sb sc⟩
theorem ti_chain {a b c : Expr} {op op' : CmpOp} {r r' : R2} {g g' : D → D → Ph → R D} {fa fb fc : SE} {pos : Pos} (o : OpF Z Y (compareOp op) r) (ho : OpI Z.K Z.mg r g) (o' : OpF Z Y (compareOp op') r') (ho' : OpI Z.K Z.mg r' g')
    (ha : EI Z Y W a fa) (hb : EI Z Y W b fb) (hc : EI Z Y W c fc) (hm : lastMarks [op, op'] [b, c] = false := by with_unfolding_all rfl) : TI Z Y W (.Compare a [op, op'] [b, c] pos) (sTst (sChain g g' fa fb fc)) := by
  obtain ⟨ta, pa, sa⟩ := ha
  obtain ⟨tb, pb, sb⟩ := hb
  obtain ⟨tc, pc, sc⟩ := hc
  exact ⟨_, fun i => pt_chain (o i) (o' i) (pa i) (pb i) (pc i) hm, sn_tst (sn_chain ho ho' sa sb sc)⟩
/-! ### arguments, displays -/
def sNil : SA := fun _ h => .ok [] h
def sCons (f : SE) (g : SA) : SA := fun e h => (f e h).bind fun a h1 => (g e h1).bind fun r h2 => .ok (a :: r) h2
theorem ai_nil : AI Z Y W [] sNil := ⟨_, fun _ => pa_nil, fun σ e w h H Q E L hp => hp w H _ (Step.refl w H) L .nil⟩
theorem ai_cons {a : Expr} {es : List Expr} {f : SE} {g : SA} (ha : EI Z Y W a f) (hr : AI Z Y W es g) (hs : ∀ i, starEach (a :: es) (Y i).env = (false, eval a (Y i).env) :: starEach es (Y i).env := by intro _; rfl) : AI Z Y W (a :: es) (sCons f g) := by
  obtain ⟨ta, pa, sa⟩ := ha
  obtain ⟨tr, pr, sr⟩ := hr
  exact ⟨_, fun i => pa_cons (pa i) (pr i) (hs i), fun σ e w h H Q E L hp => sa σ e w h H _ E L (Po.bind (Rp := Rep Z.K Z.mg) hp fun a h1 w1 H1 x _ st1 L1 r1 hp1 => sr σ e w1 h1 H1 _ (E.mono st1.le) L1 (Po.bind (Rp := Reps Z.K Z.mg) hp1 fun b h2 w2 H2 y _ st2 L2 r2 hp2 =>
    Po.here L2 (.cons (r1.mono st2.le) r2) hp2))⟩
def sTup (f : SA) : SE := fun e h => (f e h).bind fun xs h1 => if xs.length ≤ mostL then .ok (.tup xs) h1 else .bad
def sLst (f : SA) : SE := fun e h => (f e h).bind fun xs h1 => if xs.length ≤ mostL then .ok (.lst xs) h1 else .bad
/-- a list that will change -/
def sLstM (f : SA) : SE := fun e h => (f e h).bind fun xs h1 => if xs.length ≤ mostL then .ok (.ref h1.length) (h1 ++ [.lst xs]) else .bad
theorem ei_tup {es : List Expr} {f : SA} {x1} {pos : Pos} (ha : AI Z Y W es f) : EI Z Y W (.Tuple es x1 pos) (sTup f) := by
  obtain ⟨t, p, s⟩ := ha
  refine ⟨_, fun i => pe_tup (p i), fun σ e w h H Q E L hp => s σ e w h H _ E L (Po.bind (Rp := Reps Z.K Z.mg) hp fun xs h1 w1 H1 vs _ st1 L1 r1 hp1 => ?_)⟩
  obtain ⟨hl, hp1⟩ := Po.ite hp1
  exact ⟨by rw [← r1.length]; exact mostL_le hl, fun q nq => Po.tup L1 r1 hp1 nq⟩
theorem ei_lst {es : List Expr} {f : SA} {pos : Pos} (ha : AI Z Y W es f) : EI Z Y W (.List es pos) (sLst f) := by
  obtain ⟨t, p, s⟩ := ha
  refine ⟨_, fun i => pe_lst (p i), fun σ e w h H Q E L hp => s σ e w h H _ E L (Po.bind (Rp := Reps Z.K Z.mg) hp fun xs h1 w1 H1 vs _ st1 L1 r1 hp1 => ?_)⟩
  obtain ⟨hl, hp1⟩ := Po.ite hp1
  exact ⟨by rw [← r1.length]; exact mostL_le hl, fun q nq => Po.lst L1 r1 hp1 nq⟩
/-- a new object that may change is the answer -/
theorem po_newO {K : PySem.W.Frag} {mg : Str → Option Value} {σ : St} {w : Wd} {H : Hp} {h : Ph} {o : PO} {u : HO} {Q : VK} {p : Addr} (L : Lk K mg w h H) (np : H p = none) (r : RepO K mg w o u) (hp : PoE K mg W σ w H (.ok (.ref h.length) (h ++ [o])) Q) : Q (.ref p) (upd H p u) := by
  obtain ⟨l1, l2, l3⟩ := L.new np o u (r.mono (w' := ⟨w.ms ++ [p], w.G⟩) ⟨⟨[p], rfl⟩, Ex.refl _⟩)
  refine hp _ _ _ l2 l1 (.ref ?_)
  show (w.ms ++ [p])[h.length]? = some p
  rw [← L.len, List.getElem?_append_right (Nat.le_refl _), Nat.sub_self]
  rfl
theorem ei_lstM {es : List Expr} {f : SA} {pos : Pos} (ha : AI Z Y W es f) : EI Z Y W (.List es pos) (sLstM f) := by
  obtain ⟨t, p, s⟩ := ha
  refine ⟨_, fun i => pe_lst (p i), fun σ e w h H Q E L hp => s σ e w h H _ E L (Po.bind (Rp := Reps Z.K Z.mg) hp fun xs h1 w1 H1 vs _ st1 L1 r1 hp1 => ?_)⟩
  obtain ⟨hl, hp1⟩ := Po.ite hp1
  exact ⟨by rw [← r1.length]; exact mostL_le hl, fun q nq => po_newO L1 nq (.lst r1) hp1⟩
/-! ### items, slices -/
def strAt (x : Str) (c : Nat) : D := .str ⟨#[c]⟩
def dIx (a b : D) (h : Ph) : R D := match a, b with
  | .tup xs, .int i => R.opt (atI xs i) fun v => .ok v h
  | .str x, .int i => if x.length ≤ mostL then R.opt (atI x.cps.toList i) fun c => .ok (.str ⟨#[c]⟩) h else .bad
  | a, .int i => R.opt (lstOf a h) fun xs => R.opt (atI xs i) fun v => .ok v h
  | _, _ => .bad
theorem Reps.atI {K : PySem.W.Frag} {mg : Str → Option Value} {w : Wd} {xs : List D} {vs : List V} (r : Reps K mg w xs vs) {i : Int} {d : D} (e : L2.atI xs i = some d) : ∃ v, L2.atI vs i = some v ∧ Rep K mg w d v := by
  unfold L2.atI at e ⊢
  rw [← r.length]
  cases q : ixN xs.length i with
  | none => rw [q] at e; cases e
  | some j =>
    rw [q] at e
    exact r.get e
theorem oi_ix {K : PySem.W.Frag} {mg : Str → Option Value} : OpI K mg (rIx K) dIx := by
  intro W σ w h H a b x y Q L ra rb hp
  unfold dIx at hp
  split at hp
  · obtain ⟨v, e, hp⟩ := Po.some hp
    cases rb
    cases ra with
    | tup q r =>
      obtain ⟨u, e1, r1⟩ := r.atI e
      exact .inr (.inl ⟨_, _, _, u, rfl, rfl, SqT.ex L q, e1, Po.here L r1 hp⟩)
  · obtain ⟨hl, hp⟩ := Po.ite hp
    obtain ⟨c, e, hp⟩ := Po.some hp
    cases rb
    cases ra
    exact .inr (.inr ⟨_, _, c, rfl, rfl, mostL_le hl, e, Po.here L (.str _) hp⟩)
  · obtain ⟨xs, e1, hp⟩ := Po.some hp
    obtain ⟨v, e, hp⟩ := Po.some hp
    cases rb
    obtain ⟨a1, vs, rfl, hs, r⟩ := lstOf_ok L e1 ra
    obtain ⟨u, e2, r1⟩ := r.atI e
    exact .inl ⟨_, _, _, u, rfl, rfl, hs, e2, Po.here L r1 hp⟩
  · exact hp.elim
theorem ei_ix {a b : Expr} {fa fb : SE} {pos : Pos} (ha : EI Z Y W a fa) (hb : EI Z Y W b fb) (hs : PlainIx b) : EI Z Y W (.Subscript a b pos) (sBin dIx fa fb) := by
  obtain ⟨ta, pa, sa⟩ := ha
  obtain ⟨tb, pb, sb⟩ := hb
  exact ⟨_, fun i => pe_ix (X := cx Z (Y i)) (r := rIx Z.K) ix_seq (pa i) (pb i) hs, sn_bin oi_ix sa sb⟩
/-! ### calls of built-ins, by values -/
def CallI (K : PySem.W.Frag) (mg : Str → Option Value) (r : List V → Hp → VK → Prop) (g : List D → Ph → R D) : Prop := ∀ (W : WX) (σ : St) (w : Wd) (h : Ph) (H : Hp) (as : List D) (vs : List V) (Q : VK), Lk K mg w h H → Reps K mg w as vs → PoE K mg W σ w H (g as h) Q → r vs H Q
def sCall (g : List D → Ph → R D) (f : SA) : SE := fun e h => (f e h).bind fun as h1 => g as h1
abbrev CallF (Z : Cz) (Y : ι → Cy) (f : Value) (r : List V → Hp → VK → Prop) : Prop := ∀ i, CallR (cx Z (Y i)) f r
theorem sn_call {K : PySem.W.Frag} {mg : Str → Option Value} {r : List V → Hp → VK → Prop} {g : List D → Ph → R D} {t : TA} {f : SA} (hc : CallI K mg r g) (s : SnA K mg W t f) : SnE K mg W (tCB r t) (sCall g f) := fun σ e w h H Q E L hp =>
  s σ e w h H _ E L (Po.bind (Rp := Reps K mg) hp fun as h1 w1 H1 vs _ st1 L1 r1 hp1 => hc W σ w1 h1 H1 as vs Q L1 r1 hp1)
theorem ei_callB {id : String} {x : Str} {r : List V → Hp → VK → Prop} {g : List D → Ph → R D} {a : Expr} {es : List Expr} {f : SA} {p pos : Pos} (hr : CallF Z Y (.builtin id) r) (hc : CallI Z.K Z.mg r g) (hg : GlF Y x) (hm : Z.mg x = none) (hv : bootBuiltins x = some (.builtin id)) (ha : AI Z Y W (a :: es) f)
    (hn : x ≠ "__name__" := by decide) (hdb : (x == ("__debug__" : Str)) = false := by decide) (he : ∀ i, starEach (a :: es) (Y i).env = (false, eval a (Y i).env) :: starEach es (Y i).env := by intro _; rfl) (hpl : ∀ i, (backTo pos (starEach es (Y i).env)).any (·.1) = false := by intro _; rfl) :
    EI Z Y W (.Call (.Name x p) (a :: es) [] pos) (sCall g f) := by
  obtain ⟨t, pa, s⟩ := ha
  exact ⟨_, fun i => pe_callB (hr i) (hg i) hm hv (pa i) hn hdb (he i) (hpl i), sn_call hc s⟩
theorem ei_callTy {T : String} {x : Str} {r : List V → Hp → VK → Prop} {g : List D → Ph → R D} {a : Expr} {es : List Expr} {f : SA} {p pos : Pos} (hr : CallF Z Y (.type T) r) (hc : CallI Z.K Z.mg r g) (hg : GlF Y x) (hm : Z.mg x = none) (hv : bootBuiltins x = some (.type T)) (ha : AI Z Y W (a :: es) f)
    (hn : x ≠ "__name__" := by decide) (hdb : (x == ("__debug__" : Str)) = false := by decide) (he : ∀ i, starEach (a :: es) (Y i).env = (false, eval a (Y i).env) :: starEach es (Y i).env := by intro _; rfl) (hpl : ∀ i, (backTo pos (starEach es (Y i).env)).any (·.1) = false := by intro _; rfl) :
    EI Z Y W (.Call (.Name x p) (a :: es) [] pos) (sCall g f) := by
  obtain ⟨t, pa, s⟩ := ha
  exact ⟨_, fun i => pe_callTy (hr i) (hg i) hm hv (pa i) hn hdb (he i) (hpl i), sn_call hc s⟩
end
section
variable {K : PySem.W.Frag} {mg : Str → Option Value}
theorem Reps.one {w : Wd} {a : D} {vs : List V} (r : Reps K mg w [a] vs) : ∃ x, vs = [x] ∧ Rep K mg w a x := by
  cases r with
  | cons h t => cases t; exact ⟨_, rfl, h⟩
theorem Reps.two {w : Wd} {a b : D} {vs : List V} (r : Reps K mg w [a, b] vs) : ∃ x y, vs = [x, y] ∧ Rep K mg w a x ∧ Rep K mg w b y := by
  cases r with
  | cons h t =>
    obtain ⟨y, rfl, h2⟩ := t.one
    exact ⟨_, y, rfl, h, h2⟩
/-- a function of one value -/
def g1 (g : D → Ph → R D) : List D → Ph → R D := fun as h => match as with
  | [a] => g a h
  | _ => .bad
def g2 (g : D → D → Ph → R D) : List D → Ph → R D := fun as h => match as with
  | [a, b] => g a b h
  | _ => .bad
theorem ci_1 {r : List V → Hp → VK → Prop} {g : D → Ph → R D} (hg : ∀ (W : WX) (σ : St) (w : Wd) (h : Ph) (H : Hp) (a : D) (x : V) (Q : VK), Lk K mg w h H → Rep K mg w a x → PoE K mg W σ w H (g a h) Q → r [x] H Q) : CallI K mg r (g1 g) := by
  intro W σ w h H as vs Q L ra hp
  unfold g1 at hp
  split at hp
  · obtain ⟨x, rfl, r1⟩ := ra.one
    exact hg W σ w h H _ x Q L r1 hp
  · exact hp.elim
theorem ci_2 {r : List V → Hp → VK → Prop} {g : D → D → Ph → R D} (hg : ∀ (W : WX) (σ : St) (w : Wd) (h : Ph) (H : Hp) (a b : D) (x y : V) (Q : VK), Lk K mg w h H → Rep K mg w a x → Rep K mg w b y → PoE K mg W σ w H (g a b h) Q → r [x, y] H Q) : CallI K mg r (g2 g) := by
  intro W σ w h H as vs Q L ra hp
  unfold g2 at hp
  split at hp
  · obtain ⟨x, y, rfl, r1, r2⟩ := ra.two
    exact hg W σ w h H _ _ x y Q L r1 r2 hp
  · exact hp.elim
def dAbs (a : D) (h : Ph) : R D := match a with
  | .int i => .ok (.int (if i < 0 then -i else i)) h
  | _ => .bad
theorem ci_abs : CallI K mg (fun xs H Q => ∃ i, xs = [.int i] ∧ Q (.int (if i < 0 then -i else i)) H) (g1 dAbs) := ci_1 fun W σ w h H a x Q L ra hp => by
  unfold dAbs at hp
  split at hp
  · cases ra; exact ⟨_, rfl, Po.here L (.int _) hp⟩
  · exact hp.elim
def dMax2 (a b : D) (h : Ph) : R D := match a, b with
  | .int i, .int j => .ok (.int (if j > i then j else i)) h
  | _, _ => .bad
def dMin2 (a b : D) (h : Ph) : R D := match a, b with
  | .int i, .int j => .ok (.int (if j < i then j else i)) h
  | _, _ => .bad
theorem ci_max2 : CallI K mg (fun xs H Q => ∃ i j, xs = [.int i, .int j] ∧ Q (.int (if j > i then j else i)) H) (g2 dMax2) := ci_2 fun W σ w h H a b x y Q L ra rb hp => by
  unfold dMax2 at hp
  split at hp
  · cases ra; cases rb; exact ⟨_, _, rfl, Po.here L (.int _) hp⟩
  · exact hp.elim
theorem ci_min2 : CallI K mg (fun xs H Q => ∃ i j, xs = [.int i, .int j] ∧ Q (.int (if j < i then j else i)) H) (g2 dMin2) := ci_2 fun W σ w h H a b x y Q L ra rb hp => by
  unfold dMin2 at hp
  split at hp
  · cases ra; cases rb; exact ⟨_, _, rfl, Po.here L (.int _) hp⟩
  · exact hp.elim
def dInt (a : D) (h : Ph) : R D := match a with
  | .int i => .ok (.int i) h
  | .bl k => .ok (.int (if k then 1 else 0)) h
  | _ => .bad
theorem ci_int : CallI K mg (fun xs H Q => (∃ i, xs = [.int i] ∧ Q (.int i) H) ∨ ∃ k, xs = [.bl k] ∧ Q (.int (if k then 1 else 0)) H) (g1 dInt) := ci_1 fun W σ w h H a x Q L ra hp => by
  unfold dInt at hp
  split at hp
  · cases ra; exact .inl ⟨_, rfl, Po.here L (.int _) hp⟩
  · cases ra; exact .inr ⟨_, rfl, Po.here L (.int _) hp⟩
  · exact hp.elim
def dBool (a : D) (h : Ph) : R D := match a with
  | .int i => .ok (.bl (i != 0)) h
  | .bl k => .ok (.bl k) h
  | _ => .bad
theorem ci_bool : CallI K mg (fun xs H Q => (∃ i, xs = [.int i] ∧ Q (.bl (i != 0)) H) ∨ ∃ k, xs = [.bl k] ∧ Q (.bl k) H) (g1 dBool) := ci_1 fun W σ w h H a x Q L ra hp => by
  unfold dBool at hp
  split at hp
  · cases ra; exact .inl ⟨_, rfl, Po.here L (.bl _) hp⟩
  · cases ra; exact .inr ⟨_, rfl, Po.here L (.bl _) hp⟩
  · exact hp.elim
/-- str of an int -/
def dStr (a : D) (h : Ph) : R D := match a with
  | .int i => if i.natAbs.log2 < 1920 then .ok (.str (toString i)) h else .bad
  | _ => .bad
theorem ci_str : CallI K mg (fun xs H Q => ∃ i, xs = [.int i] ∧ i.natAbs.log2 < 1920 ∧ Q (.str (toString i)) H) (g1 dStr) := ci_1 fun W σ w h H a x Q L ra hp => by
  unfold dStr at hp
  split at hp
  · obtain ⟨hc, hp⟩ := Po.ite hp
    cases ra; exact ⟨_, rfl, hc, Po.here L (.str _) hp⟩
  · exact hp.elim
/-- len of lists, tuples, texts -/
def dLen (a : D) (h : Ph) : R D := match a with
  | .tup xs => .ok (.int xs.length) h
  | .str x => if x.length ≤ mostL then .ok (.int x.length) h else .bad
  | a => R.opt (lstOf a h) fun xs => .ok (.int xs.length) h
def rLenA (K : PySem.W.Frag) : List V → Hp → VK → Prop := fun xs H Q => (∃ p ys, xs = [.ref p] ∧ (SqL K H p ys ∨ SqT K H p ys) ∧ Q (.int ys.length) H) ∨ ∃ z, xs = [.str z] ∧ z.length ≤ sizeLine ∧ Q (.int z.length) H
theorem call_lenA {X : Cx} : CallR X (.builtin "len") (rLenA X.K) := call_len_seq.or call_len_str
theorem ci_len : CallI K mg (rLenA K) (g1 dLen) := ci_1 fun W σ w h H a x Q L ra hp => by
  unfold dLen at hp
  split at hp
  · cases ra with
    | tup q r =>
      refine .inl ⟨_, _, rfl, .inr (SqT.ex L q), ?_⟩
      rw [← r.length]
      exact Po.here L (.int _) hp
  · obtain ⟨hl, hp⟩ := Po.ite hp
    cases ra
    exact .inr ⟨_, rfl, mostL_le hl, Po.here L (.int _) hp⟩
  · obtain ⟨xs, e, hp⟩ := Po.some hp
    obtain ⟨a1, vs, rfl, hs, r⟩ := lstOf_ok L e ra
    refine .inl ⟨_, _, rfl, .inl hs, ?_⟩
    rw [← r.length]
    exact Po.here L (.int _) hp
/-- tuple(x) of a list or a tuple, list(x) -/
def seqOf (d : D) (h : Ph) : Option (List D) := match d with
  | .tup xs => some xs
  | d => lstOf d h
theorem seqOf_ok {w : Wd} {H : Hp} {h : Ph} (L : Lk K mg w h H) {d : D} {xs : List D} {v : V} (e : seqOf d h = some xs) (r : Rep K mg w d v) : ∃ a vs, v = .ref a ∧ (SqL K H a vs ∨ SqT K H a vs) ∧ Reps K mg w xs vs := by
  unfold seqOf at e
  split at e
  · cases e
    cases r with
    | tup q r => exact ⟨_, _, rfl, .inr (SqT.ex L q), r⟩
  · obtain ⟨a, vs, e1, h1, h2⟩ := lstOf_ok L e r
    exact ⟨a, vs, e1, .inl h1, h2⟩
def dTuple (a : D) (h : Ph) : R D := R.opt (seqOf a h) fun xs => .ok (.tup xs) h
theorem ci_tuple : CallI K mg (fun xs H Q => ∃ p ys, xs = [.ref p] ∧ ((SqL K H p ys ∧ ∀ l, H l = none → Q (.ref l) (upd H l (.tup ys))) ∨ (SqT K H p ys ∧ Q (.ref p) H))) (g1 dTuple) := ci_1 fun W σ w h H a x Q L ra hp => by
  obtain ⟨xs, e, hp⟩ := Po.some hp
  unfold seqOf at e
  split at e
  · cases e
    cases ra with
    | tup q r => exact ⟨_, _, rfl, .inr ⟨SqT.ex L q, Po.here L (.tup q r) hp⟩⟩
  · obtain ⟨a, vs, e1, h1, h2⟩ := lstOf_ok L e ra
    exact ⟨a, vs, by rw [e1], .inl ⟨h1, fun l hl => Po.tup L h2 hp hl⟩⟩
def dList (a : D) (h : Ph) : R D := R.opt (seqOf a h) fun xs => .ok (.lst xs) h
def dListM (a : D) (h : Ph) : R D := R.opt (seqOf a h) fun xs => .ok (.ref h.length) (h ++ [.lst xs])
def rList (K : PySem.W.Frag) : List V → Hp → VK → Prop := fun xs H Q => ∃ p ys, xs = [.ref p] ∧ (SqL K H p ys ∨ SqT K H p ys) ∧ ∀ l, H l = none → Q (.ref l) (upd H l (.lst ys))
theorem ci_list : CallI K mg (rList K) (g1 dList) := ci_1 fun W σ w h H a x Q L ra hp => by
  obtain ⟨xs, e, hp⟩ := Po.some hp
  obtain ⟨a, vs, e1, h1, h2⟩ := seqOf_ok L e ra
  exact ⟨a, vs, by rw [e1], h1, fun l hl => Po.lst L h2 hp hl⟩
theorem ci_listM : CallI K mg (rList K) (g1 dListM) := ci_1 fun W σ w h H a x Q L ra hp => by
  obtain ⟨xs, e, hp⟩ := Po.some hp
  obtain ⟨a, vs, e1, h1, h2⟩ := seqOf_ok L e ra
  exact ⟨a, vs, by rw [e1], h1, fun l hl => po_newO L hl (.lst h2) hp⟩
/-- the bools of a list -/
def blsOf : List D → Option (List Bool)
  | [] => some []
  | .bl i :: r => (blsOf r).map (i :: ·)
  | _ => none
theorem blsOf_ok {w : Wd} : ∀ {xs : List D} {ns : List Bool} {vs : List V}, blsOf xs = some ns → Reps K mg w xs vs → vs = ns.map V.bl
  | [], _, _, e, .nil => by cases e; rfl
  | .bl i :: r, ns, _, e, .cons h t => by
    unfold blsOf at e
    cases q : blsOf r with
    | none => rw [q] at e; cases e
    | some ms =>
      rw [q] at e
      cases e
      cases h
      rw [blsOf_ok q t]
      rfl
  | .non :: _, _, _, e, _ => by cases e
  | .int _ :: _, _, _, e, _ => by cases e
  | .str _ :: _, _, _, e, _ => by cases e
  | .tup _ :: _, _, _, e, _ => by cases e
  | .lst _ :: _, _, _, e, _ => by cases e
  | .seq _ :: _, _, _, e, _ => by cases e
  | .ref _ :: _, _, _, e, _ => by cases e
  | .glo _ :: _, _, _, e, _ => by cases e
  | .ty _ :: _, _, _, e, _ => by cases e
def dAll (a : D) (h : Ph) : R D := R.opt (lstOf a h) fun xs => R.opt (blsOf xs) fun bs => .ok (.bl (bs.all id)) h
def dAny (a : D) (h : Ph) : R D := R.opt (lstOf a h) fun xs => R.opt (blsOf xs) fun bs => .ok (.bl (bs.any id)) h
theorem ci_all : CallI K mg (rAll K) (g1 dAll) := ci_1 fun W σ w h H a x Q L ra hp => by
  obtain ⟨xs, e, hp⟩ := Po.some hp
  obtain ⟨bs, e2, hp⟩ := Po.some hp
  obtain ⟨a, vs, e1, h1, h2⟩ := lstOf_ok L e ra
  have z := blsOf_ok e2 h2
  subst z
  exact ⟨a, bs, by rw [e1], h1, Po.here L (.bl _) hp⟩
theorem ci_any : CallI K mg (rAny K) (g1 dAny) := ci_1 fun W σ w h H a x Q L ra hp => by
  obtain ⟨xs, e, hp⟩ := Po.some hp
  obtain ⟨bs, e2, hp⟩ := Po.some hp
  obtain ⟨a, vs, e1, h1, h2⟩ := lstOf_ok L e ra
  have z := blsOf_ok e2 h2
  subst z
  exact ⟨a, bs, by rw [e1], h1, Po.here L (.bl _) hp⟩
def dSum (a : D) (h : Ph) : R D := R.opt (lstOf a h) fun xs => R.opt (intsOf xs) fun bs => .ok (.int bs.sum) h
theorem ci_sum : CallI K mg (rSum K) (g1 dSum) := ci_1 fun W σ w h H a x Q L ra hp => by
  obtain ⟨xs, e, hp⟩ := Po.some hp
  obtain ⟨bs, e2, hp⟩ := Po.some hp
  obtain ⟨a, vs, e1, h1, h2⟩ := lstOf_ok L e ra
  have z := intsOf_ok e2 h2
  subst z
  exact ⟨a, bs, by rw [e1], h1, Po.here L (.int _) hp⟩
/-- the greatest, the least of a list of ints -/
def maxZ : Int → List Int → Int
  | m, [] => m
  | m, x :: r => maxZ (if x > m then x else m) r
def minZ : Int → List Int → Int
  | m, [] => m
  | m, x :: r => minZ (if x < m then x else m) r
theorem maxZ_ge : ∀ (r : List Int) (m : Int), m ≤ maxZ m r ∧ ∀ y ∈ r, y ≤ maxZ m r
  | [], m => ⟨Int.le_refl m, fun _ h => nomatch h⟩
  | x :: r, m => by
    obtain ⟨h1, h2⟩ := maxZ_ge r (if x > m then x else m)
    unfold maxZ
    have h3 : m ≤ (if x > m then x else m) ∧ x ≤ (if x > m then x else m) := by split <;> omega
    refine ⟨Int.le_trans h3.1 h1, fun y hy => ?_⟩
    rcases List.mem_cons.mp hy with q | hy
    · rw [q]; exact Int.le_trans h3.2 h1
    · exact h2 y hy
theorem minZ_le : ∀ (r : List Int) (m : Int), minZ m r ≤ m ∧ ∀ y ∈ r, minZ m r ≤ y
  | [], m => ⟨Int.le_refl m, fun _ h => nomatch h⟩
  | x :: r, m => by
    obtain ⟨h1, h2⟩ := minZ_le r (if x < m then x else m)
    unfold minZ
    have h3 : (if x < m then x else m) ≤ m ∧ (if x < m then x else m) ≤ x := by split <;> omega
    refine ⟨Int.le_trans h1 h3.1, fun y hy => ?_⟩
    rcases List.mem_cons.mp hy with q | hy
    · rw [q]; exact Int.le_trans h1 h3.2
    · exact h2 y hy
theorem maxZ_mem : ∀ (r : List Int) (m : Int), maxZ m r = m ∨ maxZ m r ∈ r
  | [], m => .inl rfl
  | x :: r, m => by
    unfold maxZ
    rcases maxZ_mem r (if x > m then x else m) with h | h
    · rw [h]
      by_cases c : x > m
      · rw [if_pos c]; exact .inr List.mem_cons_self
      · rw [if_neg c]; exact .inl rfl
    · exact .inr (List.mem_cons_of_mem _ h)
theorem minZ_mem : ∀ (r : List Int) (m : Int), minZ m r = m ∨ minZ m r ∈ r
  | [], m => .inl rfl
  | x :: r, m => by
    unfold minZ
    rcases minZ_mem r (if x < m then x else m) with h | h
    · rw [h]
      by_cases c : x < m
      · rw [if_pos c]; exact .inr List.mem_cons_self
      · rw [if_neg c]; exact .inl rfl
    · exact .inr (List.mem_cons_of_mem _ h)
def dMaxL (a : D) (h : Ph) : R D := R.opt (lstOf a h) fun xs => R.opt (intsOf xs) fun bs => match bs with
  | [] => .bad
  | m :: r => .ok (.int (maxZ m r)) h
def dMinL (a : D) (h : Ph) : R D := R.opt (lstOf a h) fun xs => R.opt (intsOf xs) fun bs => match bs with
  | [] => .bad
  | m :: r => .ok (.int (minZ m r)) h
theorem ci_maxL : CallI K mg (rMax K) (g1 dMaxL) := ci_1 fun W σ w h H a x Q L ra hp => by
  obtain ⟨xs, e, hp⟩ := Po.some hp
  obtain ⟨bs, e2, hp⟩ := Po.some hp
  obtain ⟨a, vs, e1, h1, h2⟩ := lstOf_ok L e ra
  have z := intsOf_ok e2 h2
  subst z
  cases bs with
  | nil => exact hp.elim
  | cons m r =>
    refine ⟨a, m :: r, by rw [e1], h1, Nat.succ_pos _, fun z hz hm => ?_⟩
    have : z = maxZ m r := by
      obtain ⟨k1, k2⟩ := maxZ_ge r m
      have a1 : z ≤ maxZ m r := by
        rcases List.mem_cons.mp hz with rfl | q
        · exact k1
        · exact k2 z q
      have a2 : maxZ m r ≤ z := hm _ (by
        rcases maxZ_mem r m with q | q
        · rw [q]; exact List.mem_cons_self
        · exact List.mem_cons_of_mem _ q)
      omega
    rw [this]
    exact Po.here L (.int _) hp
theorem ci_minL : CallI K mg (rMin K) (g1 dMinL) := ci_1 fun W σ w h H a x Q L ra hp => by
  obtain ⟨xs, e, hp⟩ := Po.some hp
  obtain ⟨bs, e2, hp⟩ := Po.some hp
  obtain ⟨a, vs, e1, h1, h2⟩ := lstOf_ok L e ra
  have z := intsOf_ok e2 h2
  subst z
  cases bs with
  | nil => exact hp.elim
  | cons m r =>
    refine ⟨a, m :: r, by rw [e1], h1, Nat.succ_pos _, fun z hz hm => ?_⟩
    have : z = minZ m r := by
      obtain ⟨k1, k2⟩ := minZ_le r m
      have a1 : minZ m r ≤ z := by
        rcases List.mem_cons.mp hz with rfl | q
        · exact k1
        · exact k2 z q
      have a2 : z ≤ minZ m r := hm _ (by
        rcases minZ_mem r m with q | q
        · rw [q]; exact List.mem_cons_self
        · exact List.mem_cons_of_mem _ q)
      omega
    rw [this]
    exact Po.here L (.int _) hp
/-! ### isinstance with a built-in type -/
def tyOf (d : D) (h : Ph) : Option String := match d with
  | .non => some "NoneType"
  | .bl _ => some "bool"
  | .int _ => some "int"
  | .str _ => some "str"
  | .tup _ => some "tuple"
  | .lst _ => some "list"
  | .ref n => match h[n]? with
    | some (.lst _) => some "list"
    | some (.dK _) => some "dict"
    | some (.dT _) => some "dict"
    | _ => none
  | _ => none
theorem tyOf_ok {w : Wd} {H : Hp} {h : Ph} (L : Lk K mg w h H) {d : D} {v : V} {t : String} (e : tyOf d h = some t) (r : Rep K mg w d v) : TyX K H v (.type t) := by
  cases r with
  | non => cases e; exact .base .non
  | bl b => cases e; exact .base (.bl b)
  | int i => cases e; exact .base (.int i)
  | str x => cases e; exact .base (.str x)
  | tup q r =>
    cases e
    rcases SqT.ex L q with (q | ⟨o, q⟩) | ⟨o, _, _, hk, hc, _⟩
    · exact .base (.tup q)
    · exact .fTuple q
    · exact .kTuple hk hc
  | lst q r => cases e; exact .base (.lst (L.ex _ _ q))
  | ref q =>
    obtain ⟨o, u, h1, h2, r'⟩ := L.there q
    unfold tyOf at e
    simp only [h1] at e
    cases r' with
    | lst _ => cases e; exact .base (.lst h2)
    | dK _ => cases e; exact .base (.dK h2)
    | dT _ => cases e; exact .base (.dT h2)
    | ins _ _ => cases e
    | dead => cases e
  | seq _ _ => cases e
  | glo _ => cases e
  | ty _ => cases e
def dIsi (a b : D) (h : Ph) : R D := match b with
  | .ty n => R.opt (tyOf a h) fun t => R.opt (kitB t n) fun k => .ok (.bl k) h
  | _ => .bad
theorem ci_isi : CallI K mg (rIsi K) (g2 dIsi) := ci_2 fun W σ w h H a b x y Q L ra rb hp => by
  unfold dIsi at hp
  split at hp
  · obtain ⟨t, e1, hp⟩ := Po.some hp
    obtain ⟨k, e2, hp⟩ := Po.some hp
    cases rb
    exact ⟨x, _, _, _, k, rfl, .ty _, tyOf_ok L e1 ra, kit_ty e2, Po.here L (.bl _) hp⟩
  · exact hp.elim
end
end Pd

namespace Pd
open PySem L2 Evl
/-! ### targets -/
abbrev SG := D → Pe → Ph → R Pe
abbrev SGs := List D → Pe → Ph → R Pe
/-- only the slots S are stored -/
def Only (S : List Nat) (σ σ' : St) : Prop := σ'.length = σ.length ∧ ∀ i, i ∉ S → σ'[i]? = σ[i]?
theorem Only.refl (S : List Nat) (σ : St) : Only S σ σ := ⟨rfl, fun _ _ => rfl⟩
theorem Only.trans {S S' : List Nat} {a b c : St} (h : Only S a b) (k : Only S' b c) : Only (S ++ S') a c := ⟨k.1.trans h.1, fun i hi => (k.2 i fun z => hi (List.mem_append_right _ z)).trans (h.2 i fun z => hi (List.mem_append_left _ z))⟩
theorem Only.set (i : Nat) (σ : St) (o : Option V) : Only [i] σ (σ.set i o) := ⟨by simp, fun j hj => by
  have : i ≠ j := fun z => hj (by simp [z])
  rw [List.getElem?_set_ne this]⟩
section
variable (K : PySem.W.Frag) (mg : Str → Option Value)
def PoG (S : List Nat) (σ : St) (w : Wd) (H : Hp) (r : R Pe) (Q : St → Hp → Prop) : Prop := match r with
  | .ok e' h' => ∀ w' H' σ', Step w H w' H' → Lk K mg w' h' H' → En K mg w' e' σ' → Only S σ σ' → Q σ' H'
  | _ => False
def SnG (S : List Nat) (t : TG) (g : SG) : Prop := ∀ (σ : St) (e : Pe) (w : Wd) (h : Ph) (H : Hp) (x : D) (v : V) (Q : St → Hp → Prop), En K mg w e σ → Lk K mg w h H → Rep K mg w x v → PoG K mg S σ w H (g x e h) Q → t v σ H Q
def SnGs (S : List Nat) (t : TGs) (g : SGs) : Prop := ∀ (σ : St) (e : Pe) (w : Wd) (h : Ph) (H : Hp) (x : List D) (v : List V) (Q : St → Hp → Prop), En K mg w e σ → Lk K mg w h H → Reps K mg w x v → PoG K mg S σ w H (g x e h) Q → t v σ H Q
end
theorem PoG.step {K : PySem.W.Frag} {mg : Str → Option Value} {S : List Nat} {σ : St} {w w1 : Wd} {H H1 : Hp} {r : R Pe} {Q : St → Hp → Prop} (st : Step w H w1 H1) (h : PoG K mg S σ w H r Q) : PoG K mg S σ w1 H1 r Q := by
  cases r with
  | ok a h' => exact fun w' H' v s => h w' H' v (st.trans s)
  | exc c fs h' => exact h
  | bad => exact h
section
variable {ι : Type} {Z : Cz} {Y : ι → Cy} {W : WX}
def GI (Z : Cz) (Y : ι → Cy) (S : List Nat) (tg : Expr) (g : SG) : Prop := ∃ t, (∀ i, PG (cx Z (Y i)) tg t) ∧ SnG Z.K Z.mg S t g
def GIs (Z : Cz) (Y : ι → Cy) (S : List Nat) (tg : List Expr) (g : SGs) : Prop := ∃ t, (∀ i, PGs (cx Z (Y i)) tg t) ∧ SnGs Z.K Z.mg S t g
def gNm (i : Nat) : SG := fun x e h => .ok (e.set i (some x)) h
theorem gi_name (i : Nat) {x : Str} {pos : Pos} (hN : Z.N.Nodup) (hi : Z.N[i]? = some x) (hx : ∀ i, Loc (Y i).env.scope x) (hf : ∀ i, (Y i).fn x = true ∨ (Y i).env.scope.names.lookup x = some .local) : GI Z Y [i] (.Name x pos) (gNm i) :=
  ⟨gName i, fun j => pg_name (X := cx Z (Y j)) hN hi (hx j) (hf j), fun σ e w h H x v Q E L r hp => hp w H _ (Step.refl w H) L (E.set r i) (Only.set i σ _)⟩
def gNilS : SGs := fun xs e h => match xs with
  | [] => .ok e h
  | _ => .bad
def gConsS (g : SG) (gs : SGs) : SGs := fun xs e h => match xs with
  | x :: r => (g x e h).bind fun e1 h1 => gs r e1 h1
  | [] => .bad
theorem gis_nil : GIs Z Y [] [] gNilS := ⟨gNil, fun _ => pgs_nil, fun σ e w h H x v Q E L r hp => by
  cases r with
  | nil => exact ⟨rfl, hp w H σ (Step.refl w H) L E (Only.refl _ _)⟩
  | cons _ _ => exact hp.elim⟩
theorem gis_cons {S S' : List Nat} {a : Expr} {es : List Expr} {g : SG} {gs : SGs} (h1 : GI Z Y S a g) (h2 : GIs Z Y S' es gs) (hs : ∀ i, (assignEach (a :: es) (Y i).env).map (·.2) = assign a (Y i).env :: (assignEach es (Y i).env).map (·.2) := by intro _; rfl) : GIs Z Y (S ++ S') (a :: es) (gConsS g gs) := by
  obtain ⟨t, p, s⟩ := h1
  obtain ⟨t', p', s'⟩ := h2
  refine ⟨_, fun i => pgs_cons (p i) (p' i) (hs i), fun σ e w h H x v Q E L r hp => ?_⟩
  cases r with
  | nil => exact hp.elim
  | cons r1 rr =>
    rename_i d ds u us
    refine ⟨_, _, rfl, s σ e w h H _ _ _ E L r1 ?_⟩
    have hp' : PoG Z.K Z.mg (S ++ S') σ w H ((g d e h).bind fun e1 h1 => gs ds e1 h1) Q := hp
    cases q : g d e h with
    | ok e1 h1 =>
      rw [q] at hp'
      intro w1 H1 σ1 st1 L1 E1 o1
      refine s' σ1 e1 w1 h1 H1 _ _ _ E1 L1 (rr.mono st1.le) ?_
      have hp1 : PoG Z.K Z.mg (S ++ S') σ w1 H1 (gs ds e1 h1) Q := PoG.step st1 hp'
      cases q2 : gs ds e1 h1 with
      | ok e2 h2 =>
        rw [q2] at hp1
        exact fun w2 H2 σ2 st2 L2 E2 o2 => hp1 w2 H2 σ2 st2 L2 E2 (o1.trans o2)
      | exc _ _ _ => rw [q2] at hp1; exact hp1.elim
      | bad => rw [q2] at hp1; exact hp1.elim
    | exc _ _ _ => rw [q] at hp'; exact hp'.elim
    | bad => rw [q] at hp'; exact hp'.elim
def gTp (n : Nat) (gs : SGs) : SG := fun x e h => match x with
  | .tup xs => if xs.length = n then gs xs e h else .bad
  | _ => .bad
theorem PoG.ite {K : PySem.W.Frag} {mg : Str → Option Value} {S : List Nat} {σ : St} {w : Wd} {H : Hp} {Q : St → Hp → Prop} {c : Prop} [Decidable c] {f : R Pe} (hp : PoG K mg S σ w H (if c then f else .bad) Q) : c ∧ PoG K mg S σ w H f Q := by
  by_cases hc : c
  · rw [if_pos hc] at hp; exact ⟨hc, hp⟩
  · rw [if_neg hc] at hp; exact hp.elim
theorem gi_tup {S : List Nat} {es : List Expr} {k : Nat} {pos : Pos} {n : Nat} {gs : SGs} (hc : ∀ i, (Y i).calm = true) (h : GIs Z Y S es gs) (hn : ∀ i, (assignEach es (Y i).env).length = n := by intro _; rfl) (hst : ∀ i, (assignEach es (Y i).env).findIdx? (·.1) = none := by intro _; rfl) : GI Z Y S (.Tuple es k pos) (gTp n gs) := by
  obtain ⟨t, p, s⟩ := h
  refine ⟨gTup Z.K n t, fun i => pg_tup (X := cx Z (Y i)) (hc i) (p i) (hn i) (hst i), fun σ e w h H x v Q E L r hp => ?_⟩
  unfold gTp at hp
  split at hp
  · obtain ⟨hl, hp⟩ := PoG.ite hp
    cases r with
    | tup q r => exact ⟨_, _, rfl, SqT.ex L q, by rw [← r.length]; exact hl, s σ e w h H _ _ _ E L r hp⟩
  · exact hp.elim
/-- o[i] = x, o a list that changes -/
def setIx (o i x : D) (h : Ph) : R Unit := match o, i with
  | .ref n, .int k => match h[n]? with
    | some (.lst xs) => match ixN xs.length k with
      | some j => .ok () (h.set n (.lst (xs.set j x)))
      | none => .bad
    | _ => .bad
  | _, _ => .bad
/-! ### statements -/
def R.toG (r : R Pe) : F := match r with
  | .ok e h => .nx e h
  | _ => .bad
def sAsg (f : SE) (g : SG) : SS := fun e h => (f e h).toF e fun x h1 => (g x e h1).toG
theorem PoG.of {K : PySem.W.Frag} {mg : Str → Option Value} {S : List Nat} {σ : St} {w : Wd} {H : Hp} {r : R Pe} {D : Ends} (hp : PoF K mg W w H r.toG D) : PoG K mg S σ w H r D.nx := by
  cases r with
  | ok e h => exact fun w' H' σ' st L E _ => hp w' H' σ' st L E
  | exc _ _ _ => exact hp
  | bad => exact hp
theorem sn_asg {K : PySem.W.Frag} {mg : Str → Option Value} {S : List Nat} {te : TE} {t : TG} {f : SE} {g : SG} (sf : SnE K mg W te f) (sg : SnG K mg S t g) : SnS K mg W (tAsg te t) (sAsg f g) := fun σ e w h H D E L hp =>
  sf σ e w h H _ E L (Po.toF (Rp := Rep K mg) E hp fun a h1 w1 H1 v _ st1 L1 r1 hp1 => sg σ e w1 h1 H1 a v D.nx (E.mono st1.le) L1 r1 (PoG.of hp1))
theorem si_asg {S : List Nat} {tg e : Expr} {f : SE} {g : SG} {pos : Pos} (hf : EI Z Y W e f) (hg : GI Z Y S tg g) (hs : ∀ i, swapsWithSole [tg] e pos.line (Y i).env = pure false := by intro _; rfl) (hw : ∀ i, swappedStores [tg] e (Y i).env = pure none := by intro _; rfl)
    (h1 : ∀ i, (assignEach [tg] (Y i).env).map (·.2) = [assign tg (Y i).env] := by intro _; rfl) : SI Z Y W (.Assign [tg] e pos) (sAsg f g) := by
  obtain ⟨te, pe, se⟩ := hf
  obtain ⟨tg', pg, sg⟩ := hg
  exact ⟨_, fun i => ps_asg (pe i) (pg i) (hs i) (hw i) (h1 i), sn_asg se sg⟩
theorem sn_name {K : PySem.W.Frag} {mg : Str → Option Value} (i : Nat) : SnG K mg [i] (gName i) (gNm i) := fun σ e w h H x v Q E L r hp => hp w H _ (Step.refl w H) L (E.set r i) (Only.set i σ _)
theorem si_set (i : Nat) {x : Str} {e : Expr} {f : SE} {pos pos' : Pos} (hN : Z.N.Nodup) (hi : Z.N[i]? = some x) (hx : ∀ i, Loc (Y i).env.scope x) (hfn : ∀ i, (Y i).fn x = true ∨ (Y i).env.scope.names.lookup x = some .local) (hf : EI Z Y W e f) (hs : ∀ i, swapsWith e (some (.Name x pos')) pos.line (Y i).env = pure false := by intro _; rfl) :
    SI Z Y W (.Assign [.Name x pos'] e pos) (sAsg f (gNm i)) := by
  obtain ⟨te, pe, se⟩ := hf
  exact ⟨_, fun j => ps_set (X := cx Z (Y j)) hN hi (hx j) (pe j) (hs j) (hfn j), sn_asg se (sn_name i)⟩
/-- a, b = x, y -/
def sPar (i j : Nat) (f : SA) : SS := fun e h => (f e h).toF e fun xs h1 => match xs with
  | [x, y] => .nx ((e.set i (some x)).set j (some y)) h1
  | _ => .bad
theorem si_par {i j : Nat} {x y : Str} {a b : Expr} {f : SA} {px py pt pt2 pos : Pos} {kt k2} (hc : ∀ i, (Y i).calm = true) (hN : Z.N.Nodup) (hi : Z.N[i]? = some x) (hj : Z.N[j]? = some y) (hij : i ≠ j)
    (hx : ∀ i, (Y i).env.scope.names.lookup x = some .local) (hy : ∀ i, (Y i).env.scope.names.lookup y = some .local) (ha : AI Z Y W [a, b] f)
    (hw : ∀ i, swappedStores [.Tuple [.Name x px, .Name y py] kt pt] (.Tuple [a, b] k2 pt2) (Y i).env = pure (some [x, y]))
    (hs : ∀ i, swapsWithSole [.Tuple [.Name x px, .Name y py] kt pt] (.Tuple [a, b] k2 pt2) pos.line (Y i).env = pure false := by intro _; rfl) :
    SI Z Y W (.Assign [.Tuple [.Name x px, .Name y py] kt pt] (.Tuple [a, b] k2 pt2) pos) (sPar i j f) := by
  obtain ⟨ta, pa, sa⟩ := ha
  refine ⟨_, fun q => ps_par (X := cx Z (Y q)) (hc q) hN hi hj hij (hx q) (hy q) (pa q) (hw q) (hs q), fun σ e w h H D E L hp => sa σ e w h H _ E L (Po.toF (Rp := Reps Z.K Z.mg) E hp fun xs h1 w1 H1 v _ st1 L1 r1 hp1 => ?_)⟩
  split at hp1
  · obtain ⟨u1, u2, rfl, q1, q2⟩ := r1.two
    exact ⟨u1, u2, rfl, hp1 w1 H1 _ (Step.refl _ _) L1 (((E.mono st1.le).set q1 i).set q2 j)⟩
  · exact hp1.elim
/-- x op= e -/
def sAug (i : Nat) (g : D → D → Ph → R D) (f : SE) : SS := fun e h => match e[i]? with
  | some (some a) => (f e h).toF e fun b h1 => (g a b h1).toF e fun c h2 => .nx (e.set i (some c)) h2
  | _ => .bad
theorem si_aug (i : Nat) {x : Str} {e : Expr} {f : SE} {g : D → D → Ph → R D} {op : Operator} {r : R2} {pos pos' : Pos} (hN : Z.N.Nodup) (hi : Z.N[i]? = some x) (hx : ∀ i, Loc (Y i).env.scope x) (hfn : ∀ i, (Y i).fn x = true ∨ (Y i).env.scope.names.lookup x = some .local)
    (o : OpF Z Y (inplaceOp op) r) (ho : OpI Z.K Z.mg r g) (hf : EI Z Y W e f) : SI Z Y W (.AugAssign (.Name x pos') op e pos) (sAug i g f) := by
  obtain ⟨te, pe, se⟩ := hf
  refine ⟨_, fun j => ps_aug (X := cx Z (Y j)) hN hi (hx j) (pe j) (o j) (hfn j), fun σ e w h H D E L hp => ?_⟩
  unfold sAug at hp
  split at hp
  · rename_i a he
    obtain ⟨v, h1, r1⟩ := E.get i a he
    refine ⟨v, h1, se σ e w h H _ E L (Po.toF (Rp := Rep Z.K Z.mg) E hp fun b h1 w1 H1 y _ st1 L1 r2 hp1 => ho W σ w1 h1 H1 a b v y _ L1 (r1.mono st1.le) r2 (Po.toF (Rp := Rep Z.K Z.mg) (E.mono st1.le) hp1 fun c h2 w2 H2 z _ st2 L2 r3 hp2 => ?_))⟩
    exact hp2 w2 H2 _ (Step.refl _ _) L2 ((E.mono (st1.le.trans st2.le)).set r3 i)
  · exact hp.elim
def sDrop (f : SE) : SS := fun e h => (f e h).toF e fun _ h1 => .nx e h1
theorem si_expr {e : Expr} {f : SE} {pos : Pos} (hf : EI Z Y W e f) (hs : ∀ i, swapsWith e none pos.line (Y i).env = pure false := by intro _; rfl) : SI Z Y W (.Expr e pos) (sDrop f) := by
  obtain ⟨te, pe, se⟩ := hf
  exact ⟨_, fun i => ps_expr (pe i) (hs i), fun σ e w h H D E L hp => se σ e w h H _ E L (Po.toF (Rp := Rep Z.K Z.mg) E hp fun a h1 w1 H1 v _ st1 L1 r1 hp1 => hp1 w1 H1 σ (Step.refl _ _) L1 (E.mono st1.le))⟩
def sRet (f : SE) : SS := fun e h => (f e h).toF e fun x h1 => .ret x h1
theorem si_ret {e : Expr} {f : SE} {pos : Pos} (hf : EI Z Y W e f) : SI Z Y W (.Return (some e) pos) (sRet f) := by
  obtain ⟨te, pe, se⟩ := hf
  exact ⟨_, fun i => ps_ret (pe i), fun σ e w h H D E L hp => se σ e w h H _ E L (Po.toF (Rp := Rep Z.K Z.mg) E hp fun a h1 w1 H1 v _ st1 L1 r1 hp1 => hp1 w1 H1 v (Step.refl _ _) L1 r1)⟩
def sRetN : SS := fun _ h => .ret .non h
theorem si_retN {pos : Pos} : SI Z Y W (.Return none pos) sRetN := ⟨_, fun _ => ps_retN, fun σ e w h H D E L hp => hp w H _ (Step.refl _ _) L .non⟩
def sNx : SS := fun e h => .nx e h
def sBrk : SS := fun e h => .brk e h
def sCnt : SS := fun e h => .cnt e h
def sBad : SS := fun _ _ => .bad
theorem si_pass {pos : Pos} : SI Z Y W (.Pass pos) sNx := ⟨_, fun _ => ps_pass, fun σ e w h H D E L hp => hp w H _ (Step.refl _ _) L E⟩
theorem si_break {pos : Pos} : SI Z Y W (.Break pos) sBrk := ⟨_, fun _ => ps_break, fun σ e w h H D E L hp => hp w H _ (Step.refl _ _) L E⟩
theorem si_continue {pos : Pos} : SI Z Y W (.Continue pos) sCnt := ⟨_, fun _ => ps_continue, fun σ e w h H D E L hp => hp w H _ (Step.refl _ _) L E⟩
theorem si_never {st : Stmt} : SI Z Y W st sBad := ⟨_, fun _ => ps_never, fun σ e w h H D E L hp => hp.elim⟩
theorem bi_nil : BI Z Y W [] sNx := ⟨_, fun _ => pss_nil, fun σ e w h H D E L hp => hp w H _ (Step.refl _ _) L E⟩
/-- one statement, then the rest -/
def F.seq (r : F) (k : Pe → Ph → F) : F := match r with
  | .nx e h => k e h
  | .ret d h => .ret d h
  | .brk e h => .brk e h
  | .cnt e h => .cnt e h
  | .exc c fs e h => .exc c fs e h
  | .bad => .bad
def sSeq (f g : SS) : SS := fun e h => (f e h).seq g
theorem PoF.seq {K : PySem.W.Frag} {mg : Str → Option Value} {w : Wd} {H : Hp} {r : F} {k : Pe → Ph → F} {D : Ends} {N : St → Hp → Prop} (hp : PoF K mg W w H (r.seq k) D)
    (hk : ∀ e h1 w1 H1 σ', r = .nx e h1 → Step w H w1 H1 → Lk K mg w1 h1 H1 → En K mg w1 e σ' → PoF K mg W w1 H1 (k e h1) D → N σ' H1) : PoF K mg W w H r { D with nx := N } := by
  cases r with
  | nx e h => exact fun w1 H1 σ' st L E => hk e h w1 H1 σ' rfl st L E (PoF.step st hp)
  | ret d h => exact hp
  | brk e h => exact hp
  | cnt e h => exact hp
  | exc c fs e h => exact hp
  | bad => exact hp
theorem bi_cons {st : Stmt} {rest : List Stmt} {f g : SS} (h1 : SI Z Y W st f) (h2 : BI Z Y W rest g) : BI Z Y W (st :: rest) (sSeq f g) := by
  obtain ⟨t, p, s⟩ := h1
  obtain ⟨t', p', s'⟩ := h2
  exact ⟨_, fun i => pss_cons (p i) (p' i), fun σ e w h H D E L hp => s σ e w h H _ E L (PoF.seq hp fun e1 h1 w1 H1 σ' _ st1 L1 E1 hp1 => s' σ' e1 w1 h1 H1 D E1 L1 hp1)⟩
theorem bi_one {st : Stmt} {f : SS} (h1 : SI Z Y W st f) : BI Z Y W [st] f := by
  obtain ⟨t, p, s⟩ := h1
  exact ⟨_, fun i => pss_one (p i), s⟩
def sIte (c : ST) (f g : SS) : SS := fun e h => (c e h).toF e fun b h1 => br b (f e h1) (g e h1)
theorem si_if {c : Expr} {a b : List Stmt} {fc : ST} {f g : SS} {pos : Pos} (hc : TI Z Y W c fc) (ha : BI Z Y W a f) (hb : BI Z Y W b g) : SI Z Y W (.If c a b pos) (sIte fc f g) := by
  obtain ⟨tc, pc, sc⟩ := hc
  obtain ⟨ta, pa, sa⟩ := ha
  obtain ⟨tb, pb, sb⟩ := hb
  refine ⟨_, fun i => ps_if (pc i) (pa i) (pb i), fun σ e w h H D E L hp => sc σ e w h H _ E L (Po.toF (Rp := RpB) E hp fun a h1 w1 H1 v _ st1 L1 r1 hp1 => ?_)⟩
  cases r1
  cases a with
  | true => exact sa σ e w1 h1 H1 D (E.mono st1.le) L1 hp1
  | false => exact sb σ e w1 h1 H1 D (E.mono st1.le) L1 hp1
/-! ### while -/
/-- behind a loop's turn: again, out, or an end -/
def F.turn (r : F) (again : Pe → Ph → F) : F := match r with
  | .nx e h => again e h
  | .cnt e h => again e h
  | .brk e h => .nx e h
  | .ret d h => .ret d h
  | .exc c fs e h => .exc c fs e h
  | .bad => .bad
def sWhile : Nat → ST → SS → SS
  | 0, _, _ => fun _ _ => .bad
  | n + 1, c, f => fun e h => (c e h).toF e fun b h1 => br b ((f e h1).turn fun e2 h2 => sWhile n c f e2 h2) (.nx e h1)
theorem PoF.turn {K : PySem.W.Frag} {mg : Str → Option Value} {w : Wd} {H : Hp} {r : F} {k : Pe → Ph → F} {D : Ends} {N : St → Hp → Prop} (hp : PoF K mg W w H (r.turn k) D)
    (hk : ∀ e h1 w1 H1 σ', Step w H w1 H1 → Lk K mg w1 h1 H1 → En K mg w1 e σ' → PoF K mg W w1 H1 (k e h1) D → N σ' H1) : PoF K mg W w H r { D with nx := N, ct := N, bk := D.nx } := by
  cases r with
  | nx e h => exact fun w1 H1 σ' st L E => hk e h w1 H1 σ' st L E (PoF.step st hp)
  | ret d h => exact hp
  | brk e h => exact hp
  | cnt e h => exact fun w1 H1 σ' st L E => hk e h w1 H1 σ' st L E (PoF.step st hp)
  | exc c fs e h => exact hp
  | bad => exact hp
theorem sn_while {K : PySem.W.Frag} {mg : Str → Option Value} {tc : TT} {tb : TS} {c : ST} {f : SS} (sc : SnT K mg W tc c) (sf : SnS K mg W tb f) (n : Nat) : SnS K mg W (tWhile tc tb) (sWhile n c f) := fun σ e w h H D E L hp => by
  refine ⟨fun m σ H => ∃ e w h, En K mg w e σ ∧ Lk K mg w h H ∧ PoF K mg W w H (sWhile m c f e h) D, ⟨n, e, w, h, E, L, hp⟩, ?_⟩
  rintro m σ H ⟨e, w, h, E, L, hp⟩
  cases m with
  | zero => exact hp.elim
  | succ m =>
    refine sc σ e w h H _ E L (Po.toF (Rp := RpB) E hp fun b h1 w1 H1 v _ st1 L1 r1 hp1 => ?_)
    cases r1
    cases b with
    | true =>
      rw [if_pos rfl]
      exact ⟨fun σ' H' => ∃ e w h, En K mg w e σ' ∧ Lk K mg w h H' ∧ PoF K mg W w H' (sWhile m c f e h) D, fun σ' H' ⟨e, w, h, q⟩ => ⟨m, Nat.lt_succ_self m, e, w, h, q⟩,
        sf σ e w1 h1 H1 _ (E.mono st1.le) L1 (PoF.turn hp1 fun e2 h2 w2 H2 σ' st2 L2 E2 hp2 => ⟨e2, w2, h2, E2, L2, hp2⟩)⟩
    | false =>
      rw [if_neg Bool.false_ne_true]
      exact hp1 w1 H1 σ (Step.refl _ _) L1 (E.mono st1.le)
theorem si_while (n : Nat) {c : Expr} {body : List Stmt} {fc : ST} {f : SS} {pos : Pos} (hp : ∀ i, PassesOwn (model Z.P Z.w) (Y i).A (Y i).env (Y i).xe) (hc : TI Z Y W c fc) (hb : BI Z Y W body f) : SI Z Y W (.While c body [] pos) (sWhile n fc f) := by
  obtain ⟨tc, pc, sc⟩ := hc
  obtain ⟨tb, pb, sb⟩ := hb
  exact ⟨_, fun i => ps_while (X := cx Z (Y i)) (hp i) (pc i) (pb i), sn_while sc sb n⟩
end
/-! ### what a loop walks -/
/-- an iterator that goes over xs, whatever happens -/
structure ItOk (K : PySem.W.Frag) (mg : Str → Option Value) (w : Wd) (J : It) (xs : List D) : Prop where
  go : ∀ (w' : Wd) (h' : Ph) (H' : Hp) (i : Nat) (d : D), Le w w' → Lk K mg w' h' H' → xs[i]? = some d → J.go i H' ∧ ∀ x H'', J.yld i H' x H'' → ∃ w'', Step w' H' w'' H'' ∧ Lk K mg w'' h' H'' ∧ Rep K mg w'' d x
  stop : ∀ (w' : Wd) (h' : Ph) (H' : Hp) (i : Nat), Le w w' → Lk K mg w' h' H' → xs.length ≤ i → J.stop i H'
abbrev SIt := Pe → Ph → R (List D)
section
variable (K : PySem.W.Frag) (mg : Str → Option Value)
abbrev PoI := Po (α := List D) (β := It) K mg (fun w xs J => ItOk K mg w J xs)
def SnI (W : WX) (t : L2.TI) (f : SIt) : Prop := ∀ (σ : St) (e : Pe) (w : Wd) (h : Ph) (H : Hp) (Q : It → Hp → Prop), En K mg w e σ → Lk K mg w h H → PoI K mg W σ w H (f e h) Q → t σ H Q
end
section
variable {ι : Type} {Z : Cz} {Y : ι → Cy} {W : WX}
def II (Z : Cz) (Y : ι → Cy) (W : WX) (tg iter : Expr) (f : SIt) : Prop := ∃ t, (∀ i, PI (cx Z (Y i)) tg iter t) ∧ SnI Z.K Z.mg W t f
/-- the items of a list that changes no more -/
def iLst (f : SE) : SIt := fun e h => (f e h).bind fun a h1 => match a with
  | .lst xs => .ok xs h1
  | .seq xs => .ok xs h1
  | _ => .bad
theorem itOk_list {K : PySem.W.Frag} {mg : Str → Option Value} {w : Wd} {a : Addr} {xs : List D} {vs : List V} (q : SqL K w.G a vs) (r : Reps K mg w xs vs) (inj : ∀ (H : Hp) (ys : List V), SqL K H a vs → SqL K H a ys → ys = vs) : ItOk K mg w (Itl K a) xs where
  go := fun w' h' H' i d le L e => by
    obtain ⟨v, hv, rv⟩ := r.get e
    have s := ex_l L.ex (ex_l le.ex q)
    refine ⟨⟨vs, v, s, hv⟩, fun x H'' y => ?_⟩
    obtain ⟨rfl, y⟩ := y
    have z := y vs s
    rw [hv] at z
    cases z
    exact ⟨w', Step.refl _ _, L, rv.mono le⟩
  stop := fun w' h' H' i le L hl => ⟨vs, ex_l L.ex (ex_l le.ex q), by rw [← r.length]; exact hl⟩
theorem ii_lst {tg l : Expr} {f : SE} (hf : EI Z Y W l f) : II Z Y W tg l (iLst f) := by
  obtain ⟨t, p, s⟩ := hf
  refine ⟨iList Z.K t, fun i => pi_list (X := cx Z (Y i)) (p i), fun σ e w h H Q E L hp => s σ e w h H _ E L (Po.bind (Rp := Rep Z.K Z.mg) hp fun a h1 w1 H1 x _ st1 L1 r1 hp1 => ?_)⟩
  have key : ∀ (a1 : Addr) (xs : List D) (vs : List V), SqL Z.K w1.G a1 vs → Reps Z.K Z.mg w1 xs vs → PoI Z.K Z.mg W σ w1 H1 (.ok xs h1) Q → ∃ a, (V.ref a1) = V.ref a ∧ (∃ xs, SqL Z.K H1 a xs) ∧ Q (Itl Z.K a) H1 := fun a1 xs vs q r hq =>
    ⟨a1, rfl, ⟨vs, ex_l L1.ex q⟩, hq w1 H1 _ (Step.refl _ _) L1 ⟨fun w' h' H' i d le L e => by
      obtain ⟨v, hv, rv⟩ := r.get e
      have s := ex_l L.ex (ex_l le.ex q)
      refine ⟨⟨vs, v, s, hv⟩, fun x H'' y => ?_⟩
      obtain ⟨rfl, y⟩ := y
      have z := y vs s
      rw [hv] at z
      cases z
      exact ⟨w', Step.refl _ _, L, rv.mono le⟩, fun w' h' H' i le L hl => ⟨vs, ex_l L.ex (ex_l le.ex q), by rw [← r.length]; exact hl⟩⟩⟩
  cases r1 with
  | lst q r => exact key _ _ _ (.inl (.inl q)) r hp1
  | seq q r => exact key _ _ _ q r hp1
  | _ => exact hp1.elim
def iTupS (f : SE) : SIt := fun e h => (f e h).bind fun a h1 => match a with
  | .tup xs => .ok xs h1
  | _ => .bad
theorem ii_tup {tg l : Expr} {f : SE} (hf : EI Z Y W l f) : II Z Y W tg l (iTupS f) := by
  obtain ⟨t, p, s⟩ := hf
  refine ⟨iTup Z.K t, fun i => pi_tup (X := cx Z (Y i)) (p i), fun σ e w h H Q E L hp => s σ e w h H _ E L (Po.bind (Rp := Rep Z.K Z.mg) hp fun a h1 w1 H1 x _ st1 L1 r1 hp1 => ?_)⟩
  cases r1 with
  | @tup a1 vs xs q r =>
    exact ⟨_, rfl, ⟨_, SqT.ex L1 q⟩, hp1 w1 H1 _ (Step.refl _ _) L1 ⟨fun w' h' H' i d le L e => by
      obtain ⟨v, hv, rv⟩ := r.get e
      have s := ex_t L.ex (ex_t le.ex q)
      refine ⟨⟨vs, v, s, hv⟩, fun x H'' y => ?_⟩
      obtain ⟨rfl, y⟩ := y
      have z := y vs s
      rw [hv] at z
      cases z
      exact ⟨w', Step.refl _ _, L, rv.mono le⟩, fun w' h' H' i le L hl => ⟨vs, ex_t L.ex (ex_t le.ex q), by rw [← r.length]; exact hl⟩⟩⟩
  | _ => exact hp1.elim
/-- lo, lo + 1, .. as data -/
def rangeD (lo : Int) (n : Nat) : List D := (List.range n).map fun (k : Nat) => D.int (lo + (k : Int))
theorem itOk_range {K : PySem.W.Frag} {mg : Str → Option Value} {w : Wd} (lo : Int) (n : Nat) : ItOk K mg w (Itr lo n) (rangeD lo n) where
  go := fun w' h' H' i d le L e => by
    unfold rangeD at e
    rw [List.getElem?_map] at e
    cases q : (List.range n)[i]? with
    | none => rw [q] at e; cases e
    | some j =>
      rw [q] at e
      cases e
      have hj := List.getElem?_eq_some_iff.mp q
      obtain ⟨h1, h2⟩ := hj
      rw [List.length_range] at h1
      have hij : i = j := by rw [← h2]; simp
      refine ⟨h1, fun x H'' y => ?_⟩
      obtain ⟨rfl, rfl⟩ := y
      subst hij
      exact ⟨w', Step.refl _ _, L, .int _⟩
  stop := fun w' h' H' i le L hl => by
    unfold rangeD at hl
    rw [List.length_map, List.length_range] at hl
    exact hl
def iRange1 (f : SA) : SIt := fun e h => (f e h).bind fun as h1 => match as with
  | [.int n] => if -(2 ^ 62) ≤ n ∧ n < 2 ^ 62 then .ok (rangeD 0 n.toNat) h1 else .bad
  | _ => .bad
def iRange2 (f : SA) : SIt := fun e h => (f e h).bind fun as h1 => match as with
  | [.int m, .int n] => if -(2 ^ 62) ≤ m ∧ m < 2 ^ 62 ∧ -(2 ^ 62) ≤ n ∧ n < 2 ^ 62 then .ok (rangeD m (n - m).toNat) h1 else .bad
  | _ => .bad
theorem ii_range1 {tg a : Expr} {f : SA} {p pos : Pos} (hg : GlF Y "range") (hm : Z.mg "range" = none) (ha : AI Z Y W [a] f) (hs : ∀ i, starEach [a] (Y i).env = [(false, eval a (Y i).env)] := by intro _; rfl) : II Z Y W tg (.Call (.Name "range" p) [a] [] pos) (iRange1 f) := by
  obtain ⟨t, pa, s⟩ := ha
  refine ⟨_, fun i => pi_range1 (X := cx Z (Y i)) (hg i) hm (pa i) (hs i), fun σ e w h H Q E L hp => s σ e w h H _ E L (Po.bind (Rp := Reps Z.K Z.mg) hp fun a h1 w1 H1 x _ st1 L1 r1 hp1 => ?_)⟩
  split at hp1
  · obtain ⟨hc, hp1⟩ := Po.ite hp1
    obtain ⟨y, rfl, r⟩ := r1.one
    cases r
    exact ⟨_, rfl, hc.1, hc.2, hp1 w1 H1 _ (Step.refl _ _) L1 (itOk_range 0 _)⟩
  · exact hp1.elim
theorem ii_range2 {tg a b : Expr} {f : SA} {p pos : Pos} (hg : GlF Y "range") (hm : Z.mg "range" = none) (ha : AI Z Y W [a, b] f) (hs : ∀ i, starEach [a, b] (Y i).env = [(false, eval a (Y i).env), (false, eval b (Y i).env)] := by intro _; rfl) (hs2 : ∀ i, starEach [b] (Y i).env = [(false, eval b (Y i).env)] := by intro _; rfl) :
    II Z Y W tg (.Call (.Name "range" p) [a, b] [] pos) (iRange2 f) := by
  obtain ⟨t, pa, s⟩ := ha
  refine ⟨_, fun i => pi_range2 (X := cx Z (Y i)) (hg i) hm (pa i) (hs i) (hs2 i), fun σ e w h H Q E L hp => s σ e w h H _ E L (Po.bind (Rp := Reps Z.K Z.mg) hp fun a h1 w1 H1 x _ st1 L1 r1 hp1 => ?_)⟩
  split at hp1
  · obtain ⟨hc, hp1⟩ := Po.ite hp1
    obtain ⟨y, z, rfl, r, r'⟩ := r1.two
    cases r; cases r'
    exact ⟨_, _, rfl, hc, hp1 w1 H1 _ (Step.refl _ _) L1 (itOk_range _ _)⟩
  · exact hp1.elim
/-! ### for -/
def forGo (g : SG) (f : SS) : List D → Pe → Ph → F
  | [], e, h => .nx e h
  | x :: r, e, h => match g x e h with
    | .ok e1 h1 => (f e1 h1).turn fun e2 h2 => forGo g f r e2 h2
    | _ => .bad
def sFor (it : SIt) (g : SG) (f : SS) : SS := fun e h => (it e h).toF e fun xs h1 => forGo g f xs e h1
theorem sn_for {K : PySem.W.Frag} {mg : Str → Option Value} {S : List Nat} {ti : L2.TI} {tg : TG} {tb : TS} {it : SIt} {g : SG} {f : SS} (si : SnI K mg W ti it) (sg : SnG K mg S tg g) (sf : SnS K mg W tb f) : SnS K mg W (tFor ti tg tb) (sFor it g f) := fun σ e w h H D E L hp => by
  refine si σ e w h H _ E L (Po.toF (Rp := fun w xs J => ItOk K mg w J xs) E hp fun xs h1 w1 H1 J _ st1 L1 ok hp1 => ?_)
  refine ⟨fun i m σ H => m = xs.length - i ∧ i ≤ xs.length ∧ ∃ e w h, Le w1 w ∧ En K mg w e σ ∧ Lk K mg w h H ∧ PoF K mg W w H (forGo g f (xs.drop i) e h) D, ⟨xs.length, rfl, Nat.zero_le _, e, w1, h1, Le.refl _, E.mono st1.le, L1, hp1⟩, ?_⟩
  rintro i m σ H ⟨rfl, hi, e, w, h, le, E, L, hp⟩
  by_cases hlt : i < xs.length
  · have hx : xs[i]? = some xs[i] := by simp [hlt]
    obtain ⟨go, yl⟩ := ok.go w h H i xs[i] le L hx
    refine .inr ⟨go, fun σ' H' => ∃ e w h, Le w1 w ∧ En K mg w e σ' ∧ Lk K mg w h H' ∧ PoF K mg W w H' (forGo g f (xs.drop (i + 1)) e h) D, fun σ' H' q => ⟨xs.length - (i + 1), by omega, rfl, hlt, q⟩, fun x H' y => ?_⟩
    obtain ⟨w2, st2, L2, r2⟩ := yl x H' y
    have ed : xs.drop i = xs[i] :: xs.drop (i + 1) := (List.drop_eq_getElem_cons hlt)
    rw [ed] at hp
    unfold forGo at hp
    refine sg σ e w2 h H' xs[i] x _ (E.mono st2.le) L2 r2 ?_
    cases q : g xs[i] e h with
    | ok e1 h3 =>
      rw [q] at hp
      intro w3 H3 σ3 st3 L3 E3 _
      exact sf σ3 e1 w3 h3 H3 _ E3 L3 (PoF.turn (PoF.step (st2.trans st3) hp) fun e4 h4 w4 H4 σ4 st4 L4 E4 hp4 => ⟨e4, w4, h4, ((le.trans st2.le).trans st3.le).trans st4.le, E4, L4, hp4⟩)
    | exc _ _ _ => rw [q] at hp; exact hp.elim
    | bad => rw [q] at hp; exact hp.elim
  · have e0 : xs.drop i = [] := List.drop_eq_nil_of_le (by omega)
    rw [e0] at hp
    exact .inl ⟨ok.stop w h H i le L (by omega), hp w H σ (Step.refl _ _) L E⟩
theorem si_for {S : List Nat} {tg iter : Expr} {body : List Stmt} {it : SIt} {g : SG} {f : SS} {pos : Pos} (hp : ∀ i, PassesOwn (model Z.P Z.w) (Y i).A (Y i).env (Y i).xe) (hc : ∀ i, (Y i).calm = true) (hi : II Z Y W tg iter it) (hg : GI Z Y S tg g) (hb : BI Z Y W body f)
    (hs : ∀ i x, foldedSetIterable iter (Y i).env x = pure x := by intro _ _; rfl) : SI Z Y W (.For tg iter body [] pos) (sFor it g f) := by
  obtain ⟨ti, pi, si⟩ := hi
  obtain ⟨tg', pg, sg⟩ := hg
  obtain ⟨tb, pb, sb⟩ := hb
  exact ⟨_, fun i => ps_for (X := cx Z (Y i)) (hp i) (hc i) (pi i) (pg i) (pb i) (hs i), sn_for si sg sb⟩
end
end Pd

namespace Pd
open PySem L2 Evl
open PyProof.Rows (envOfC)
/-! ### comprehensions -/
/-- the next, where no exception may come -/
def R.bd {α β : Type} (r : R α) (k : α → Ph → R β) : R β := match r with
  | .ok a h => k a h
  | _ => .bad
def compGo (g : SG) (tt : ST) (te : SE) : List D → Pe → Ph → R (List D)
  | [], _, h => .ok [] h
  | x :: r, e0, h => (g x e0 h).bd fun e1 h1 => (tt e1 h1).bd fun b h2 => br b ((te e1 h2).bd fun y h3 => (compGo g tt te r e0 h3).bd fun ys h4 => .ok (y :: ys) h4) (compGo g tt te r e0 h2)
def wipeD (e : Pe) : List Nat → Pe
  | [] => e
  | v :: vs => (wipeD e vs).set v none
/-- [te for g in it if tt] -/
def sLc (it : SIt) (g : SG) (tt : ST) (te : SE) (vs : List Nat) : SE := fun e h => (it e h).bind fun xs h1 => if xs.length ≤ mostL then (compGo g tt te xs (wipeD e vs) h1).bd fun ys h2 => .ok (.lst ys) h2 else .bad
abbrev WF : WX := fun _ _ _ _ => False
theorem En.wipe {K : PySem.W.Frag} {mg : Str → Option Value} {w : Wd} {e : Pe} {σ : St} (E : En K mg w e σ) : ∀ vs : List Nat, En K mg w (wipeD e vs) (L2.wipe σ vs)
  | [] => E
  | v :: vs => by
    unfold wipeD L2.wipe
    exact (En.wipe E vs).unset v none
theorem wipe_get {σ : St} {i : Nat} : ∀ {vs : List Nat}, (L2.wipe σ vs)[i]? = if i ∈ vs then (if i < σ.length then some none else none) else σ[i]?
  | [] => by simp [L2.wipe]
  | v :: vs => by
    unfold L2.wipe
    by_cases hi : v = i
    · subst hi
      rw [if_pos List.mem_cons_self]
      by_cases hv : v < σ.length
      · rw [if_pos hv, List.getElem?_set_self (by rw [wipe_length]; exact hv)]
      · rw [if_neg hv, List.getElem?_eq_none (by rw [List.length_set, wipe_length]; omega)]
    · rw [List.getElem?_set_ne hi, wipe_get]
      by_cases hm : i ∈ vs
      · rw [if_pos hm, if_pos (List.mem_cons_of_mem _ hm)]
      · rw [if_neg hm, if_neg (by simp only [List.mem_cons, not_or]; exact ⟨fun z => hi z.symm, hm⟩)]
theorem wipe_only {σ σ' : St} {S vs : List Nat} (o : Only S (L2.wipe σ vs) σ') (hS : ∀ i ∈ S, i ∈ vs) : L2.wipe σ' vs = L2.wipe σ vs := by
  apply List.ext_getElem?
  intro i
  rw [wipe_get, wipe_get, o.1, wipe_length]
  by_cases hm : i ∈ vs
  · rw [if_pos hm, if_pos hm]
  · rw [if_neg hm, if_neg hm, o.2 i (fun z => hm (hS i z)), wipe_get, if_neg hm]
section
variable {K : PySem.W.Frag} {mg : Str → Option Value} {w : Wd} {h : Ph} {H : Hp}
/-- an object that the world does not know changes -/
theorem Lk.aside (L : Lk K mg w h H) {p : Addr} (nm : p ∉ w.ms) (ng : w.G p = none) (o : HO) : Lk K mg w h (upd H p o) :=
  ⟨fun a u e => by rw [upd_ne (ne_of_none e ng)]; exact L.ex a u e, L.len, fun n a o' e1 e2 => by
    obtain ⟨u, hu, r⟩ := L.obj n a o' e1 e2
    exact ⟨u, by rw [upd_ne (fun z => nm (by rw [← z]; exact List.mem_of_getElem? e1))]; exact hu, r⟩, L.inj, L.out⟩
end
theorem Step.aside {w1 w : Wd} {H1 H : Hp} (st : Step w1 H1 w H) {p : Addr} (np : H1 p = none) (o : HO) : Step w1 H1 w (upd H p o) :=
  ⟨st.le, fun a u e m => by rw [upd_ne (ne_of_none e np)]; exact st.frm a u e m, st.newM, st.newG⟩
section
variable {K : PySem.W.Frag} {mg : Str → Option Value} {W : WX}
theorem sn_lc {S : List Nat} {ti : L2.TI} {tg : TG} {tt : TT} {te : TE} {vs : List Nat} {it : SIt} {g : SG} {ft : ST} {fe : SE} (si : SnI K mg W ti it) (sg : SnG K mg S tg g) (st : SnT K mg WF tt ft) (se : SnE K mg WF te fe) (hS : ∀ i ∈ S, i ∈ vs) :
    SnE K mg W (tLc ti tg tt te vs) (sLc it g ft fe vs) := fun σ e w h H Q E L hp => by
  refine si σ e w h H _ E L (Po.bind (Rp := fun w xs J => ItOk K mg w J xs) hp fun xs h1 w1 H1 J _ st1 L1 ok hp1 => ?_)
  obtain ⟨hlen, hp1⟩ := Po.ite hp1
  intro Dl hD
  have E0 : En K mg w1 (wipeD e vs) (L2.wipe σ vs) := (E.mono st1.le).wipe vs
  generalize hfull : ((compGo g ft fe xs (wipeD e vs) h1).bd fun ys h2 => R.ok (D.lst ys) h2) = full at hp1
  refine ⟨fun i m H => m = xs.length - i ∧ i ≤ xs.length ∧ ∃ acc us w h, Step w1 H1 w H ∧ Lk K mg w h H ∧ Dl ∉ w.ms ∧ w.G Dl = none ∧ H Dl = some (.lst us) ∧ Reps K mg w acc us ∧ acc.length ≤ i ∧
      ((compGo g ft fe (xs.drop i) (wipeD e vs) h).bd fun ys h2 => R.ok (D.lst (acc ++ ys)) h2) = full,
    ⟨xs.length, rfl, Nat.zero_le _, [], [], w1, h1, (Step.refl w1 H1).aside hD _, ?_⟩, ?_⟩
  · have nm : Dl ∉ w1.ms := fun z => by
      obtain ⟨u, hu⟩ := L1.mem z
      rw [hD] at hu; cases hu
    exact ⟨L1.aside nm (fresh_back L1.ex hD) _, nm, fresh_back L1.ex hD, upd_same, .nil, Nat.le_refl _, hfull⟩
  rintro i m H ⟨rfl, hi, acc, us, w, h, stp, L, nm, ng, hus, racc, hacc, hf⟩
  by_cases hlt : i < xs.length
  · have hx : xs[i]? = some xs[i] := by simp [hlt]
    obtain ⟨go, yl⟩ := ok.go w h H i xs[i] stp.le L hx
    refine .inr ⟨go, fun H' => ∃ acc us w h, Step w1 H1 w H' ∧ Lk K mg w h H' ∧ Dl ∉ w.ms ∧ w.G Dl = none ∧ H' Dl = some (.lst us) ∧ Reps K mg w acc us ∧ acc.length ≤ i + 1 ∧
      ((compGo g ft fe (xs.drop (i + 1)) (wipeD e vs) h).bd fun ys h2 => R.ok (D.lst (acc ++ ys)) h2) = full, fun H' q => ⟨xs.length - (i + 1), by omega, rfl, hlt, q⟩, fun x H' y => ?_⟩
    -- what stays of the new list through a step
    have keep : ∀ {wa wb : Wd} {Ha Hb : Hp} {us : List V}, Step wa Ha wb Hb → Dl ∉ wa.ms → wa.G Dl = none → Ha Dl = some (.lst us) → Dl ∉ wb.ms ∧ wb.G Dl = none ∧ Hb Dl = some (.lst us) := fun {wa wb Ha Hb us} s k1 k2 k3 =>
      ⟨fun z => (s.newM Dl z).elim k1 fun q => (by rw [k3] at q; cases q), by rw [s.newG Dl (by rw [k3]; simp) k1]; exact k2, s.frm Dl _ k3 k1⟩
    obtain ⟨w2, st2, L2', r2⟩ := yl x H' y
    obtain ⟨a1, a2, a3⟩ := keep st2 nm ng hus
    have ed : xs.drop i = xs[i] :: xs.drop (i + 1) := List.drop_eq_getElem_cons hlt
    rw [ed] at hf
    unfold compGo at hf
    refine sg (L2.wipe σ vs) (wipeD e vs) w2 h H' xs[i] x _ (E0.mono (stp.le.trans st2.le)) L2' r2 ?_
    have nofull : full ≠ .bad := fun z => by rw [z] at hp1; exact hp1
    cases q : g xs[i] (wipeD e vs) h with
    | ok e1 h3 =>
      rw [q] at hf
      intro w3 H3 σ3 st3 L3 E3 o3
      obtain ⟨b1, b2, b3⟩ := keep st3 a1 a2 a3
      refine ⟨wipe_only o3 hS, st σ3 e1 w3 h3 H3 _ E3 L3 ?_⟩
      have hf : (((ft e1 h3).bd fun b h2 => br b ((fe e1 h2).bd fun y h3 => (compGo g ft fe (xs.drop (i + 1)) (wipeD e vs) h3).bd fun ys h4 => .ok (y :: ys) h4) (compGo g ft fe (xs.drop (i + 1)) (wipeD e vs) h2)).bd fun ys h2 => R.ok (D.lst (acc ++ ys)) h2) = full := hf
      cases q2 : ft e1 h3 with
      | ok b h4 =>
        rw [q2] at hf
        intro w4 H4 b' st4 L4 rb
        cases rb
        obtain ⟨c1, c2, c3⟩ := keep st4 b1 b2 b3
        cases b with
        | false =>
          rw [if_neg Bool.false_ne_true]
          exact ⟨acc, us, w4, h4, ((stp.trans st2).trans st3).trans st4, L4, c1, c2, c3, racc.mono ((st2.le.trans st3.le).trans st4.le), by omega, hf⟩
        | true =>
          rw [if_pos rfl]
          have hf : (((fe e1 h4).bd fun y h3 => (compGo g ft fe (xs.drop (i + 1)) (wipeD e vs) h3).bd fun ys h4 => .ok (y :: ys) h4).bd fun ys h2 => R.ok (D.lst (acc ++ ys)) h2) = full := hf
          refine se σ3 e1 w4 h4 H4 _ (E3.mono st4.le) L4 ?_
          cases q3 : fe e1 h4 with
          | ok y h5 =>
            rw [q3] at hf
            intro w5 H5 yv st5 L5 ry
            obtain ⟨d1, d2, d3⟩ := keep st5 c1 c2 c3
            have racc5 := racc.mono (((st2.le.trans st3.le).trans st4.le).trans st5.le)
            refine ⟨us, d3, ?_, acc ++ [y], us ++ [yv], w5, h5, ((((stp.trans st2).trans st3).trans st4).trans st5).aside hD _, L5.aside d1 d2 _, d1, d2, upd_same, racc5.append (.cons ry .nil), by rw [List.length_append, List.length_singleton]; omega, ?_⟩
            · rw [← racc.length]
              have := mostL_eq
              omega
            · rw [← hf]
              show _ = (((compGo g ft fe (xs.drop (i + 1)) (wipeD e vs) h5).bd fun ys h4 => R.ok (y :: ys) h4).bd fun ys h2 => R.ok (D.lst (acc ++ ys)) h2)
              cases compGo g ft fe (xs.drop (i + 1)) (wipeD e vs) h5 with
              | ok ys h6 =>
                show R.ok (D.lst (acc ++ [y] ++ ys)) h6 = R.ok (D.lst (acc ++ y :: ys)) h6
                rw [List.append_assoc]
                rfl
              | exc _ _ _ => rfl
              | bad => rfl
          | exc _ _ _ => rw [q3] at hf; exact absurd hf.symm nofull
          | bad => rw [q3] at hf; exact absurd hf.symm nofull
      | exc _ _ _ => rw [q2] at hf; exact absurd hf.symm nofull
      | bad => rw [q2] at hf; exact absurd hf.symm nofull
    | exc _ _ _ => rw [q] at hf; exact absurd hf.symm nofull
    | bad => rw [q] at hf; exact absurd hf.symm nofull
  · have e0 : xs.drop i = [] := List.drop_eq_nil_of_le (by omega)
    rw [e0] at hf
    have hf : R.ok (D.lst (acc ++ [])) h = full := hf
    rw [List.append_nil] at hf
    rw [← hf] at hp1
    refine .inl ⟨ok.stop w h H i stp.le L (by omega), ?_⟩
    have lew : Le w ⟨w.ms, upd w.G Dl (.lst us)⟩ := ⟨⟨[], by simp⟩, Ex.new ng⟩
    refine hp1 ⟨w.ms, upd w.G Dl (.lst us)⟩ H _ ⟨stp.le.trans lew, stp.frm, stp.newM, fun a ha hm => ?_⟩ ⟨fun a u q => ?_, L.len, fun n a o q1 q2 => ?_, L.inj, fun n a o q q2 q3 => ?_⟩ (.lst upd_same (racc.mono lew))
    · show upd w.G Dl (.lst us) a = w1.G a
      rw [upd_ne (fun z => ha (by rw [z]; exact hD))]
      exact stp.newG a ha hm
    · by_cases z : a = Dl
      · subst z
        rw [show (⟨w.ms, upd w.G a (.lst us)⟩ : Wd).G a = some (.lst us) from upd_same] at q
        rw [hus]; exact q
      · rw [show (⟨w.ms, upd w.G Dl (.lst us)⟩ : Wd).G a = w.G a from upd_ne z] at q
        exact L.ex a u q
    · obtain ⟨u, hu, r⟩ := L.obj n a o q1 q2
      exact ⟨u, hu, r.mono lew⟩
    · show upd w.G Dl (.lst us) a = none
      rw [upd_ne (fun z => nm (by rw [← z]; exact List.mem_of_getElem? q))]
      exact L.out n a o q q2 q3
end
section
variable {ι : Type} {Z : Cz} {Y : ι → Cy} {W : WX}
/-- the contexts of a comprehension's block -/
abbrev BlkI (ι : Type) : Type := ι × (Shared × Hp × Addr × List (Str × Addr) × List Addr)
abbrev blkY (Z : Cz) (Y : ι → Cy) (scope : Scope) : BlkI ι → Cy := fun p => { A := (Y p.1).A, s_0 := p.2.1, H_0 := p.2.2.1, env := compEnvC scope p.2.2.2.2.1 p.2.2.2.1 (Y p.1).env, outer := (Y p.1).stack, stack := (Y p.1).stack, ex := p.2.2.2.2.2, fn := fun x => scope.names.lookup x == some .cell, calm := (Y p.1).calm, pn := [], xe := fun _ _ => False }
def TsI (Z : Cz) (Y : ι → Cy) (W : WX) (es : List Expr) (f : ST) : Prop := ∃ t, (∀ i, PTs (cx Z (Y i)) es t) ∧ SnT Z.K Z.mg W t f
def qYes : ST := fun _ h => .ok true h
theorem tsi_nil : TsI Z Y W [] qYes := ⟨_, fun _ => pts_nil, fun σ e w h H Q E L hp => Po.here L rfl hp⟩
theorem tsi_one {c : Expr} {f : ST} (h : TI Z Y W c f) : TsI Z Y W [c] f := by
  obtain ⟨t, p, s⟩ := h
  exact ⟨_, fun i => pts_one (p i), s⟩
theorem ei_lc {S : List Nat} {elt tg iter : Expr} {ifs : List Expr} {scope : Scope} {own : List (Str × Nat)} {pos : Pos} {it : SIt} {g : SG} {ft : ST} {fe : SE} (hc : ∀ i, (Y i).calm = true) (hN : Z.N.Nodup) (hi : II Z Y W tg iter it) (ok : ∀ i, blkC Z.N (Y i).env.scope scope own = true)
    (hg : GI Z (blkY Z Y scope) S tg g) (ht : TsI Z (blkY Z Y scope) WF ifs ft) (he : EI Z (blkY Z Y scope) WF elt fe) (hS : ∀ i ∈ S, i ∈ own.map (·.2)) (hs : ∀ i x, foldedSetIterable iter (Y i).env x = pure x := by intro _ _; rfl) :
    EI Z Y W (.ListComp elt [⟨tg, iter, ifs, 0⟩] scope pos) (sLc it g ft fe (own.map (·.2))) := by
  obtain ⟨ti, pi, si⟩ := hi
  obtain ⟨tg', pg, sg⟩ := hg
  obtain ⟨tt, pt, st⟩ := ht
  obtain ⟨te, pe, se⟩ := he
  exact ⟨_, fun i => pe_lc (X := cx Z (Y i)) (hc i) hN (pi i) (blkOk_by (ok i)) (fun s H C cl fp => pg (i, s, H, C, cl, fp)) (fun s H C cl fp => pt (i, s, H, C, cl, fp)) (fun s H C cl fp => pe (i, s, H, C, cl, fp)) (hs i), sn_lc si sg st se hS⟩
/-- y = [..] -/
theorem si_setLc (j : Nat) {y : Str} {py spos : Pos} {S : List Nat} {elt tg iter : Expr} {ifs : List Expr} {scope : Scope} {own : List (Str × Nat)} {pos : Pos} {it : SIt} {g : SG} {ft : ST} {fe : SE} (hc : ∀ i, (Y i).calm = true) (hN : Z.N.Nodup) (hy : Z.N[j]? = some y) (hyl : ∀ i, (Y i).env.scope.names.lookup y = some .local)
    (hk : ∀ i, (Y i).env.scope.kind = .function) (hl : (py.line == pos.line) = true) (hns : (scope.names.any fun (n, k) => n == y && (k == .local || k == .cell)) = false)
    (hi : II Z Y W tg iter it) (ok : ∀ i, blkC Z.N (Y i).env.scope scope own = true)
    (hg : GI Z (blkY Z Y scope) S tg g) (ht : TsI Z (blkY Z Y scope) WF ifs ft) (he : EI Z (blkY Z Y scope) WF elt fe) (hS : ∀ i ∈ S, i ∈ own.map (·.2)) (hs : ∀ i x, foldedSetIterable iter (Y i).env x = pure x := by intro _ _; rfl) :
    SI Z Y W (.Assign [.Name y py] (.ListComp elt [⟨tg, iter, ifs, 0⟩] scope pos) spos) (sAsg (sLc it g ft fe (own.map (·.2))) (gNm j)) := by
  obtain ⟨ti, pi, si⟩ := hi
  obtain ⟨tg', pg, sg⟩ := hg
  obtain ⟨tt, pt, st⟩ := ht
  obtain ⟨te, pe, se⟩ := he
  exact ⟨_, fun i => ps_setLc (X := cx Z (Y i)) (hc i) hN hy (hyl i) (sw_true (hk i) (hyl i) hl hns) (pi i) (blkOk_by (ok i)) (fun s H C cl fp => pg (i, s, H, C, cl, fp)) (fun s H C cl fp => pt (i, s, H, C, cl, fp)) (fun s H C cl fp => pe (i, s, H, C, cl, fp)) (hs i), sn_asg (sn_lc si sg st se hS) (sn_name j)⟩
end
/-! ### defs -/
abbrev Fn := List D → Ph → R D
def F.end (r : F) : R D := match r with
  | .nx _ h => .ok .non h
  | .ret d h => .ok d h
  | .exc c fs _ h => .exc c fs h
  | _ => .bad
/-- a def of n names, called -/
def runDef (n : Nat) (body : SS) : Fn := fun as h => (body (as.map some ++ List.replicate (n - as.length) none) h).end
section
variable (K : PySem.W.Frag) (mg : Str → Option Value)
def PoC (Q : VK) (E : XK) (w : Wd) (H : Hp) (r : R D) : Prop := match r with
  | .ok d h' => ∀ w' H' v, Step w H w' H' → Lk K mg w' h' H' → Rep K mg w' d v → Q v H'
  | .exc c fs h' => ∀ w' H' C d, Step w H w' H' → Lk K mg w' h' H' → RepX K mg w' c fs C d → E C d H'
  | .bad => False
/-- the promise: it does what fn says -/
def spI (n : Nat) (fn : Fn) : Sp := fun vs H Q E => ∃ w h as, vs.length = n ∧ Lk K mg w h H ∧ Reps K mg w as vs ∧ PoC K mg Q E w H (fn as h)
end
/-- a text behind its top -/
structure Cb where
  P : Program
  w : World
  K : PySem.W.Frag
  mg : Str → Option Value
  base : Heap
abbrev Cb.z (B : Cb) (N : List Str) : Cz := ⟨B.P, B.w, B.K, B.mg, B.base, N⟩
/-- a def of the text, by what it does; k: how deep it calls -/
structure Def (B : Cb) (k : Nat) (x : Str) (n : Nat) (fn : Fn) : Prop where
  ex : ∃ (a : Addr) (fd : FuncData) (ps : List Str), FnOk B.P B.w B.K B.mg B.base (L2.CX B.P B.w) k a fd ps (spI B.K B.mg n fn) ∧ B.mg x = some (.ref a) ∧ PySem.W.keepIn B.K (.ref a) = true ∧ Binds B.K fd ps []
section
variable {ι : Type} {B : Cb} {N : List Str} {Y : ι → Cy} {W : WX}
def sFn (fn : Fn) (f : SA) : SE := fun e h => (f e h).bind fun as h1 => fn as h1
theorem ei_call {k n : Nat} {x : Str} {fn : Fn} {a : Expr} {es : List Expr} {f : SA} {p pos : Pos} (d : Def B k x n fn) (hr : ∀ i, Room k (Y i).A) (tk : ∀ i, Takes (cx (B.z N) (Y i)) W) (hg : GlF Y x) (hn : (a :: es).length = n) (ha : AI (B.z N) Y W (a :: es) f)
    (hlen : ∀ e h as h1, f e h = .ok as h1 → as.length = n)
    (hdb : (x == ("__debug__" : Str)) = false := by decide) (he : ∀ i, starEach (a :: es) (Y i).env = (false, eval a (Y i).env) :: starEach es (Y i).env := by intro _; rfl) (hpl : ∀ i, (backTo pos (starEach es (Y i).env)).any (·.1) = false := by intro _; rfl) :
    EI (B.z N) Y W (.Call (.Name x p) (a :: es) [] pos) (sFn fn f) := by
  obtain ⟨ad, fd, ps, F, hm, hk, hb⟩ := d.ex
  obtain ⟨t, pa, s⟩ := ha
  refine ⟨_, fun i => pe_callS (X := cx (B.z N) (Y i)) F (hr i) (hg i) hm hk hb (fun σ => passAt (tk i) σ) (pa i) hdb (he i) (hpl i), fun σ e w h H Q E L hp => s σ e w h H _ E L (Po.bind (Rp := Reps B.K B.mg) hp fun as h1 w1 H1 vs q st1 L1 r1 hp1 => ?_)⟩
  refine ⟨w1, h1, as, by rw [← r1.length]; exact hlen _ _ _ _ q, L1, r1, ?_⟩
  cases q2 : fn as h1 with
  | ok d h2 => rw [q2] at hp1; exact hp1
  | exc c fs h2 => rw [q2] at hp1; exact hp1
  | bad => rw [q2] at hp1; exact hp1
/-- how many arguments there are -/
theorem len_nil {e : Pe} {h : Ph} {as : List D} {h1 : Ph} (q : sNil e h = .ok as h1) : as.length = 0 := by
  cases q; rfl
theorem len_cons {n : Nat} {f : SE} {g : SA} (hg : ∀ e h as h1, g e h = .ok as h1 → as.length = n) : ∀ e h as h1, sCons f g e h = .ok as h1 → as.length = n + 1 := fun e h as h1 q => by
  unfold sCons at q
  cases z : f e h with
  | ok a h2 =>
    rw [z] at q
    have q : ((g e h2).bind fun r h2 => R.ok (a :: r) h2) = R.ok as h1 := q
    cases z2 : g e h2 with
    | ok r h3 =>
      rw [z2] at q
      cases q
      rw [List.length_cons, hg _ _ _ _ z2]
    | exc _ _ _ => rw [z2] at q; cases q
    | bad => rw [z2] at q; cases q
  | exc _ _ _ => rw [z] at q; cases q
  | bad => rw [z] at q; cases q
end
/-- the context of a def's body -/
abbrev cyOf (Z : Cz) (qual : Str) (scope : Scope) (f : Addr) (cd : Value) (A : Around) (outer : List Env) (s : Shared) (H : Hp) (E : XK) : Cy where
  A := A.deeper (envOfC qual scope s.heap.objs.size f cd)
  s_0 := s
  H_0 := H
  env := envOfC qual scope s.heap.objs.size f cd
  outer := outer
  stack := envOfC qual scope s.heap.objs.size f cd :: outer
  ex := []
  fn := (cxOf (L2.CX Z.P Z.w) Z.P Z.w Z.K Z.mg Z.base Z.N qual scope f cd A outer s H E).fn
  calm := true
  pn := []
  xe := (cxOf (L2.CX Z.P Z.w) Z.P Z.w Z.K Z.mg Z.base Z.N qual scope f cd A outer s H E).xe
abbrev WE' (E : XK) : WX := fun cls d _ H => E cls d H
theorem cy_takes {Z : Cz} {qual : Str} {scope : Scope} {f : Addr} {cd : Value} {A : Around} {outer : List Env} {s : Shared} {H : Hp} {E : XK} : Takes (cx Z (cyOf Z qual scope f cd A outer s H E)) (WE' E) := takes_of rfl rfl rfl rfl
theorem cy_passes {Z : Cz} {qual : Str} {scope : Scope} {f : Addr} {cd : Value} {A : Around} {outer : List Env} {s : Shared} {H : Hp} {E : XK} : PassesOwn (model Z.P Z.w) (cyOf Z qual scope f cd A outer s H E).A (cyOf Z qual scope f cd A outer s H E).env (cyOf Z qual scope f cd A outer s H E).xe := passes_of (X := cx Z (cyOf Z qual scope f cd A outer s H E)) rfl
theorem start_en {K : PySem.W.Frag} {mg : Str → Option Value} {w : Wd} {N : List Str} {as : List D} {vs : List V} (r : Reps K mg w as vs) : En K mg w (as.map some ++ List.replicate (N.length - as.length) none) (L2.start N vs) := by
  unfold L2.start
  refine ⟨?_, fun i d h => ?_⟩
  · simp [r.length]
  · by_cases hi : i < as.length
    · rw [List.getElem?_append_left (by simpa using hi)] at h
      rw [List.getElem?_map] at h
      cases q : as[i]? with
      | none => rw [q] at h; cases h
      | some x =>
        rw [q] at h
        cases h
        obtain ⟨y, h1, h2⟩ := r.get q
        have hv : i < vs.length := (List.getElem?_eq_some_iff.mp h1).1
        exact ⟨y, by rw [List.getElem?_append_left (by simpa using hv), List.getElem?_map, h1]; rfl, h2⟩
    · rw [List.getElem?_append_right (by simpa using hi), List.getElem?_replicate] at h
      split at h
      · cases h
      · cases h
/-- THE RULE for a def -/
theorem def_ok {B : Cb} {N : List Str} {x qual : Str} {params : Arguments} {sbody : List Stmt} {scope : Scope} {a : Addr} {fd : FuncData} {ps : List Str} {k : Nat} {body : SS} (F : FunD B.K x qual params sbody scope [] [] a fd) (S : FnScope N ps scope)
    (hb : ∀ (cdv : Value) (A : Around) (outer : List Env) (s : Shared) (H : Hp) (E : XK), Room k (A.deeper (envOfC qual scope s.heap.objs.size a cdv)) → BI (B.z N) (fun _ : Unit => cyOf (B.z N) qual scope a cdv A outer s H E) (WE' E) sbody body) :
    FnOk B.P B.w B.K B.mg B.base (L2.CX B.P B.w) (k + 1) a fd ps (spI B.K B.mg ps.length (runDef N.length body)) := by
  refine F.ok S (fun vs H Q E h => ?_) (fun cdv A outer s H vs Q E hr h => ?_)
  · obtain ⟨_, _, _, e, _⟩ := h
    exact e
  · obtain ⟨w, h, as, el, L, r, hp⟩ := h
    obtain ⟨t, p, sn⟩ := hb cdv A outer s H E hr
    refine ⟨t, p (), sn _ (as.map some ++ List.replicate (N.length - as.length) none) w h H _ (start_en r) L ?_⟩
    unfold runDef at hp
    cases q : body (as.map some ++ List.replicate (N.length - as.length) none) h with
    | nx e' h' => rw [q] at hp; exact fun w' H' σ' st L' E' => hp w' H' .non st L' .non
    | ret d h' => rw [q] at hp; exact hp
    | brk e' h' => rw [q] at hp; exact hp.elim
    | cnt e' h' => rw [q] at hp; exact hp.elim
    | exc c fs e' h' => rw [q] at hp; exact fun w' H' σ' C d st L' E' rx => hp w' H' C d st L' rx
    | bad => rw [q] at hp; exact hp.elim
/-- .. of a global name -/
theorem Def.mk' {B : Cb} {N : List Str} {y x qual : Str} {params : Arguments} {sbody : List Stmt} {scope : Scope} {a : Addr} {fd : FuncData} {ps : List Str} {k : Nat} {body : SS} (F : FunD B.K x qual params sbody scope [] [] a fd) (hm : B.mg y = some (.ref a)) (S : FnScope N ps scope)
    (hbi : ∀ (kV doc pm : Value) (an : Option Addr) (cdv ct : Value) (us : List Value), us.length = ps.length → bindArgs (PySem.W.fnOf x qual params sbody scope .none kV doc pm an cdv ct) ⟨us, []⟩ = pure (ps.zip us))
    (hb : ∀ (cdv : Value) (A : Around) (outer : List Env) (s : Shared) (H : Hp) (E : XK), Room k (A.deeper (envOfC qual scope s.heap.objs.size a cdv)) → BI (B.z N) (fun _ : Unit => cyOf (B.z N) qual scope a cdv A outer s H E) (WE' E) sbody body) :
    Def B (k + 1) y ps.length (runDef N.length body) := ⟨a, fd, ps, def_ok F S hb, hm, F.kp, F.bindsN hbi⟩
theorem Def.lift {B : Cb} {j k : Nat} {x : Str} {n : Nat} {fn : Fn} (d : Def B j x n fn) (h : j ≤ k) : Def B k x n fn := by
  obtain ⟨a, fd, ps, F, hm, hk, hb⟩ := d.ex
  exact ⟨a, fd, ps, F.mono h, hm, hk, hb⟩
/-- the law's own promise -/
theorem law_sp {K : PySem.W.Frag} {mg : Str → Option Value} {fn : Fn} {H : Hp} {a : Addr} {ns : List Int} (hS : SqL K H a (ns.map V.int)) (ok : ∃ h', fn [.seq (ns.map D.int)] [] = .ok (.bl true) h') :
    spI K mg 1 fn [.ref a] H (fun v _ => v = .bl true) fun _ _ _ => False := by
  obtain ⟨h', e⟩ := ok
  have hr : ∀ w : Wd, ∀ ns : List Int, Reps K mg w (ns.map D.int) (ns.map V.int) := fun w ns => by
    induction ns with
    | nil => exact .nil
    | cons n ns ih => exact .cons (.int n) ih
  refine ⟨⟨[], H⟩, [], [.seq (ns.map D.int)], rfl, ⟨Ex.refl _, rfl, fun n a o e => ?_, fun i j a e => ?_, fun n a o e => ?_⟩, .cons (.seq hS (hr _ ns)) .nil, ?_⟩
  · simp at e
  · simp at e
  · simp at e
  · rw [e]
    intro w' H' v st L r
    cases r
    rfl
end Pd

namespace Pd
open PySem L2 Evl
section
variable {ι : Type} {Z : Cz} {Y : ι → Cy} {W : WX}
/-! ### a list or a tuple, walked -/
def iSq (K : PySem.W.Frag) (tl : TE) : L2.TI := fun σ H R => tl σ H fun x H1 => ∃ a, x = .ref a ∧ (((∃ xs, SqL K H1 a xs) ∧ R (Itl K a) H1) ∨ ((∃ xs, SqT K H1 a xs) ∧ R (Itt K a) H1))
theorem pi_sq {X : Cx} {tg l : Expr} {tl : TE} (hl : PE X l tl) : PI X tg l (iSq X.K tl) := by
  refine ⟨fun pins s σ H R I h => ?_⟩
  refine thn (hl.run pins s σ H _ I h) fun v s1 ⟨x, H1, I1, r1, q1⟩ => ?_
  obtain ⟨a, e, q1⟩ := q1
  subst e
  cases r1
  rcases q1 with ⟨⟨xs, hq⟩, q⟩ | ⟨⟨xs, hq⟩, q⟩
  · obtain ⟨its, rv, p, hz⟩ := I1.list hq
    refine wpAny_pyIter_list p.isList ?_
    refine ⟨s1.heap.objs.size, [s1.heap.objs.size], _, _, H1, rfl, I1.kept (t' := s1.toks) fun b o e => Heap.get?_push_of_some _ e, turn_list a _, ⟨_, Heap.get?_push_size _ rfl, rfl, rfl⟩, fun b hb => ?_, q⟩
    have e : b = s1.heap.objs.size := by simpa using hb
    subst e
    exact I1.fpOk (Nat.le_refl _) (I1.hok.fresh (Nat.le_refl _))
  · obtain ⟨its, rv, p, hz⟩ := I1.tuple hq
    refine wpAny_pyIter_tuple (show s1.heap.IsTuple a its.toArray from p) ?_
    refine ⟨s1.heap.objs.size, [s1.heap.objs.size], _, _, H1, rfl, I1.kept (t' := s1.toks) fun b o e => Heap.get?_push_of_some _ e, turn_tuple a _, ⟨_, Heap.get?_push_size _ rfl, rfl, rfl⟩, fun b hb => ?_, q⟩
    have e : b = s1.heap.objs.size := by simpa using hb
    subst e
    exact I1.fpOk (Nat.le_refl _) (I1.hok.fresh (Nat.le_refl _))
/-- the items of what changes no more -/
def iSeq (f : SE) : SIt := fun e h => (f e h).bind fun a h1 => match a with
  | .lst xs => .ok xs h1
  | .seq xs => .ok xs h1
  | .tup xs => .ok xs h1
  | _ => .bad
theorem ii_seq {tg l : Expr} {f : SE} (hf : EI Z Y W l f) : II Z Y W tg l (iSeq f) := by
  obtain ⟨t, p, s⟩ := hf
  refine ⟨iSq Z.K t, fun i => pi_sq (X := cx Z (Y i)) (p i), fun σ e w h H Q E L hp => s σ e w h H _ E L (Po.bind (Rp := Rep Z.K Z.mg) hp fun a h1 w1 H1 x _ st1 L1 r1 hp1 => ?_)⟩
  have key : ∀ (a1 : Addr) (xs : List D) (vs : List V), SqL Z.K w1.G a1 vs → Reps Z.K Z.mg w1 xs vs → PoI Z.K Z.mg W σ w1 H1 (.ok xs h1) Q → ∃ a, (V.ref a1) = V.ref a ∧ (((∃ xs, SqL Z.K H1 a xs) ∧ Q (Itl Z.K a) H1) ∨ ((∃ xs, SqT Z.K H1 a xs) ∧ Q (Itt Z.K a) H1)) := fun a1 xs vs q r hq =>
    ⟨a1, rfl, .inl ⟨⟨vs, ex_l L1.ex q⟩, hq w1 H1 _ (Step.refl _ _) L1 ⟨fun w' h' H' i d le L e => by
      obtain ⟨v, hv, rv⟩ := r.get e
      have s := ex_l L.ex (ex_l le.ex q)
      refine ⟨⟨vs, v, s, hv⟩, fun x H'' y => ?_⟩
      obtain ⟨rfl, y⟩ := y
      have z := y vs s
      rw [hv] at z
      cases z
      exact ⟨w', Step.refl _ _, L, rv.mono le⟩, fun w' h' H' i le L hl => ⟨vs, ex_l L.ex (ex_l le.ex q), by rw [← r.length]; exact hl⟩⟩⟩⟩
  cases r1 with
  | lst q r => exact key _ _ _ (.inl (.inl q)) r hp1
  | seq q r => exact key _ _ _ q r hp1
  | @tup a1 vs xs q r =>
    exact ⟨_, rfl, .inr ⟨⟨_, SqT.ex L1 q⟩, hp1 w1 H1 _ (Step.refl _ _) L1 ⟨fun w' h' H' i d le L e => by
      obtain ⟨v, hv, rv⟩ := r.get e
      have s := ex_t L.ex (ex_t le.ex q)
      refine ⟨⟨vs, v, s, hv⟩, fun x H'' y => ?_⟩
      obtain ⟨rfl, y⟩ := y
      have z := y vs s
      rw [hv] at z
      cases z
      exact ⟨w', Step.refl _ _, L, rv.mono le⟩, fun w' h' H' i le L hl => ⟨vs, ex_t L.ex (ex_t le.ex q), by rw [← r.length]; exact hl⟩⟩⟩⟩
  | _ => exact hp1.elim
/-! ### what changes no more -/
/-- the list that stands at d, from here on as it is -/
def frzD (d : D) (h : Ph) : D × Ph := match d with
  | .ref n => match h[n]? with
    | some (.lst xs) => (.lst xs, h.set n .dead)
    | _ => (.ref n, h)
  | d => (d, h)
theorem frzD_ok {K : PySem.W.Frag} {mg : Str → Option Value} {w : Wd} {h : Ph} {H : Hp} {d : D} {v : V} (L : Lk K mg w h H) (r : Rep K mg w d v) : ∃ w', Step w H w' H ∧ Lk K mg w' (frzD d h).2 H ∧ Rep K mg w' (frzD d h).1 v := by
  cases r with
  | @ref n a q =>
    obtain ⟨o, u, h1, h2, r'⟩ := L.there q
    unfold frzD
    simp only [h1]
    cases r' with
    | lst r' =>
      obtain ⟨l1, l2, l3⟩ := L.frz q h1 (by intro z; cases z) h2
      exact ⟨_, l2, l1, .lst upd_same (r'.mono l3)⟩
    | _ => exact ⟨w, Step.refl _ _, L, .ref q⟩
  | non => exact ⟨w, Step.refl _ _, L, .non⟩
  | bl b => exact ⟨w, Step.refl _ _, L, .bl b⟩
  | int b => exact ⟨w, Step.refl _ _, L, .int b⟩
  | str b => exact ⟨w, Step.refl _ _, L, .str b⟩
  | tup q r => exact ⟨w, Step.refl _ _, L, .tup q r⟩
  | lst q r => exact ⟨w, Step.refl _ _, L, .lst q r⟩
  | seq q r => exact ⟨w, Step.refl _ _, L, .seq q r⟩
  | glo q => exact ⟨w, Step.refl _ _, L, .glo q⟩
  | ty n => exact ⟨w, Step.refl _ _, L, .ty n⟩
def sFrz (f : SE) : SE := fun e h => (f e h).bind fun d h1 => .ok (frzD d h1).1 (frzD d h1).2
theorem ei_frz {e : Expr} {f : SE} (hf : EI Z Y W e f) : EI Z Y W e (sFrz f) := by
  obtain ⟨t, p, s⟩ := hf
  refine ⟨t, p, fun σ e w h H Q E L hp => s σ e w h H _ E L (Po.bind (Rp := Rep Z.K Z.mg) hp fun a h1 w1 H1 x _ st1 L1 r1 hp1 => ?_)⟩
  obtain ⟨w2, st2, L2', r2⟩ := frzD_ok L1 r1
  exact hp1 w2 H1 x st2 L2' r2
/-- a name's list, from here on as it is -/
def sFrzV (i : Nat) (f : SS) : SS := fun e h => match e[i]? with
  | some (some d) => f (e.set i (some (frzD d h).1)) (frzD d h).2
  | _ => f e h
theorem set_same {σ : St} {i : Nat} {v : V} (h : σ[i]? = some (some v)) : σ.set i (some v) = σ := by
  apply List.ext_getElem?
  intro j
  by_cases z : i = j
  · subst z
    rw [List.getElem?_set_self (List.getElem?_eq_some_iff.mp h).1, h]
  · rw [List.getElem?_set_ne z]
theorem bi_frz (i : Nat) {st : List Stmt} {f : SS} (hf : BI Z Y W st f) : BI Z Y W st (sFrzV i f) := by
  obtain ⟨t, p, s⟩ := hf
  refine ⟨t, p, fun σ e w h H D E L hp => ?_⟩
  unfold sFrzV at hp
  split at hp
  · rename_i d he
    obtain ⟨v, h1, r1⟩ := E.get i d he
    obtain ⟨w2, st2, L2', r2⟩ := frzD_ok L r1
    refine s σ _ w2 _ H D ?_ L2' (PoF.step st2 hp)
    have E2 := (E.mono st2.le).set r2 i
    rw [set_same h1] at E2
    exact E2
  · exact s σ e w h H D E L hp
/-! ### {}; append; o[i] = x -/
def sDict0 : SE := fun _ h => .ok (.ref h.length) (h ++ [.dK []])
def sDict0T : SE := fun _ h => .ok (.ref h.length) (h ++ [.dT []])
theorem ei_dict0 {pos : Pos} : EI Z Y W (.Dict [] [] pos) sDict0 := ⟨_, fun _ => pe_dnewK, fun σ e w h H Q E L hp p np => po_newO L np (.dK .nil) hp⟩
theorem ei_dict0T {pos : Pos} : EI Z Y W (.Dict [] [] pos) sDict0T := ⟨_, fun _ => pe_dnewT, fun σ e w h H Q E L hp p np => po_newO L np (.dT .nil) hp⟩
/-- a method of a list that may change: what it makes of the items and the argument -/
def onLst (d : D) (h : Ph) (k : Nat → List D → R D) : R D := match d with
  | .ref n => match h[n]? with
    | some (.lst xs) => k n xs
    | _ => .bad
  | _ => .bad
def sMeth1 (g : D → D → Ph → R D) (fo : SE) (fa : SE) : SE := fun e h => (fo e h).bind fun o h1 => R.opt (lsOf o h1) fun _ => (fa e h1).bind fun a h2 => g o a h2
def dAppend (o a : D) (h : Ph) : R D := onLst o h fun n xs => if xs.length < mostL then .ok .non (h.set n (.lst (xs ++ [a]))) else .bad
theorem onLst_ok {K : PySem.W.Frag} {mg : Str → Option Value} {w : Wd} {H : Hp} {h : Ph} {σ : St} (L : Lk K mg w h H) {d : D} {v : V} {k : Nat → List D → R D} {Q : VK} (r : Rep K mg w d v) (hp : PoE K mg W σ w H (onLst d h k) Q) :
    ∃ n a xs vs, d = .ref n ∧ v = .ref a ∧ w.ms[n]? = some a ∧ h[n]? = some (.lst xs) ∧ H a = some (.lst vs) ∧ Reps K mg w xs vs ∧ PoE K mg W σ w H (k n xs) Q := by
  unfold onLst at hp
  cases r with
  | @ref n a q =>
    obtain ⟨o, u, h1, h2, r'⟩ := L.there q
    simp only [h1] at hp
    cases r' with
    | @lst xs vs r' => exact ⟨n, a, xs, vs, rfl, rfl, q, h1, h2, r', hp⟩
    | _ => exact hp.elim
  | _ => exact hp.elim
/-- a list's object is changed, None is handed back -/
theorem po_put {K : PySem.W.Frag} {mg : Str → Option Value} {w : Wd} {H : Hp} {h : Ph} {σ : St} (L : Lk K mg w h H) {n : Nat} {a : Addr} {xs ys : List D} {us : List V} {d : D} {v : V} {Q : VK} (q : w.ms[n]? = some a) (h1 : h[n]? = some (.lst xs)) (r : Reps K mg w ys us) (rd : Rep K mg w d v)
    (hp : PoE K mg W σ w H (.ok d (h.set n (.lst ys))) Q) : Q v (upd H a (.lst us)) := by
  obtain ⟨l1, l2⟩ := L.put q h1 (by intro z; cases z) _ _ (.lst r)
  exact hp w _ v l2 l1 rd
theorem ei_append {o a : Expr} {fo fa : SE} {apos cpos : Pos} (ho : EI Z Y W o fo) (ha : EI Z Y W a fa) (hb : ∀ i, attributeBase o "append" (Y i).env (eval o (Y i).env) = eval o (Y i).env := by intro _; rfl)
    (hfew : ∀ i, ((backTo cpos (starEach [a] (Y i).env)).all (fun x => !x.1) && (backToKw cpos (keywordEach [] (Y i).env)).all (fun x => x.1.isSome)
      && decide (([a] : List Expr).length + ([] : List Keyword).length + (if ([] : List Keyword).isEmpty then 0 else 1) < 30)) = true := by intro _; rfl)
    (hline : (apos.endLine == cpos.line) = true := by rfl) (hs : ∀ i, starEach [a] (Y i).env = (false, eval a (Y i).env) :: starEach [] (Y i).env := by intro _; rfl) (hpl : ∀ i, (backTo cpos (starEach [] (Y i).env)).any (·.1) = false := by intro _; rfl) :
    EI Z Y W (.Call (.Attribute o "append" apos) [a] [] cpos) (sMeth1 dAppend fo fa) := by
  obtain ⟨to, po, so⟩ := ho
  obtain ⟨ta, pa, sa⟩ := ha
  refine ⟨tBM Z.K "list" rAppend to (tCons ta tNil), fun i => pe_bm (X := cx Z (Y i)) PySem.F.plainAttrs_list PySem.F.slot_list_append PySem.F.type_list_append mt_append (po i) (pa_cons (pa i) pa_nil (hs i)) (hb i) (hfew i) hline (hs i) (hpl i), fun σ e w h H Q E L hp => so σ e w h H _ E L (Po.bind (Rp := Rep Z.K Z.mg) hp fun o1 h1 w1 H1 x _ st1 L1 r1 hp1 => ?_)⟩
  obtain ⟨xs, e1, hp1⟩ := Po.some hp1
  obtain ⟨a1, vs, rfl, hl, rl⟩ := lsOf_ok L1 e1 r1
  refine ⟨.inl ⟨rfl, vs, .inl (.inl hl)⟩, sa σ e w1 h1 H1 _ (E.mono st1.le) L1 (Po.bind (Rp := Rep Z.K Z.mg) hp1 fun a h2 w2 H2 y _ st2 L2 r2 hp2 => ?_)⟩
  obtain ⟨n, a2, ys, us, rfl, e2, q, k1, k2, k3, hp2⟩ := onLst_ok L2 (r1.mono st2.le) hp2
  cases e2
  obtain ⟨hlt, hp2⟩ := Po.ite hp2
  exact ⟨a1, us, y, rfl, rfl, k2, by rw [← k3.length, ← mostL_eq]; exact hlt, po_put L2 q k1 (k3.append (.cons r2 .nil)) .non hp2⟩
/-- o[i] = x -/
def sSetL (f fo fi : SE) : SS := fun e h => (f e h).toF e fun x h1 => (fo e h1).toF e fun o h2 => (fi e h2).toF e fun i h3 => match setIx o i x h3 with
  | .ok _ h4 => .nx e h4
  | _ => .bad
theorem si_setL {o i v : Expr} {f fo fi : SE} {p2 pos : Pos} (hf : EI Z Y W v f) (ho : EI Z Y W o fo) (hi : EI Z Y W i fi) (hs : ∀ j, swapsWithSole [.Subscript o i p2] v pos.line (Y j).env = pure false := by intro _; rfl) (hw : ∀ j, swappedStores [.Subscript o i p2] v (Y j).env = pure none := by intro _; rfl)
    (h1 : ∀ j, (assignEach [.Subscript o i p2] (Y j).env).map (·.2) = [assign (.Subscript o i p2) (Y j).env] := by intro _; rfl)
    (ha : ∀ j v, assign (.Subscript o i p2) (Y j).env v = (do
      let ov ← holding [v] (eval o (Y j).env)
      let iv ← holding [v, ov] (eval i (Y j).env)
      standAt p2
      holding [v, ov, iv] (setItem ov iv v)
      release [v, ov, iv] []) := by intro _ _; rfl) : SI Z Y W (.Assign [.Subscript o i p2] v pos) (sSetL f fo fi) := by
  obtain ⟨tv, pv', sv⟩ := hf
  obtain ⟨to, po, so⟩ := ho
  obtain ⟨ti, pi, si⟩ := hi
  refine ⟨_, fun j => ps_asg (X := cx Z (Y j)) (pv' j) (pg_sub (X := cx Z (Y j)) (po j) (pi j) set_list (ha j)) (hs j) (hw j) (h1 j), fun σ e w h H D E L hp => sv σ e w h H _ E L (Po.toF (Rp := Rep Z.K Z.mg) E hp fun x h1 w1 H1 xv _ st1 L1 r1 hp1 =>
    so σ e w1 h1 H1 _ (E.mono st1.le) L1 (Po.toF (Rp := Rep Z.K Z.mg) (E.mono st1.le) hp1 fun o1 h2 w2 H2 ov _ st2 L2 r2 hp2 => si σ e w2 h2 H2 _ (E.mono (st1.le.trans st2.le)) L2 (Po.toF (Rp := Rep Z.K Z.mg) (E.mono (st1.le.trans st2.le)) hp2 fun i1 h3 w3 H3 iv _ st3 L3 r3 hp3 => ?_)))⟩
  unfold setIx at hp3
  cases r3 with
  | int k =>
    have r2' := r2.mono st3.le
    cases r2' with
    | @ref n a q =>
      obtain ⟨o, u, k1, k2, r'⟩ := L3.there q
      simp only [k1] at hp3
      cases r' with
      | @lst xs vs r' =>
        simp only at hp3
        cases z : ixN xs.length k with
        | none => simp only [z] at hp3; exact hp3.elim
        | some j =>
          simp only [z] at hp3
          refine ⟨a, vs, k, j, rfl, rfl, k2, by rw [← r'.length]; exact z, ?_⟩
          obtain ⟨l1, l2⟩ := L3.put q k1 (by intro z; cases z) _ _ (.lst (r'.set (r1.mono (st2.le.trans st3.le)) j))
          exact hp3 w3 _ σ l2 l1 (E.mono ((st1.le.trans st2.le).trans st3.le))
      | _ => exact hp3.elim
    | _ => exact hp3.elim
  | _ => cases o1 <;> exact hp3.elim
end
/-! ### a promise in shorter words -/
/-- no ref from m on -/
def D.bel (m : Nat) : D → Bool
  | .ref n => decide (n < m)
  | .tup xs => bels m xs
  | .lst xs => bels m xs
  | .seq xs => bels m xs
  | _ => true
where bels (m : Nat) : List D → Bool
  | [] => true
  | x :: r => x.bel m && bels m r
def bel2 {κ : Type} (m : Nat) : List (κ × D) → Bool
  | [] => true
  | x :: r => x.2.bel m && bel2 m r
def PO.bel (m : Nat) : PO → Bool
  | .lst xs => D.bel.bels m xs
  | .dK kvs => bel2 m kvs
  | .dT kvs => bel2 m kvs
  | .ins _ fs => bel2 m fs
  | .dead => true
section
variable {K : PySem.W.Frag} {mg : Str → Option Value} {w : Wd}
mutual
theorem Rep.cut {m : Nat} : ∀ {d : D} {v : V}, d.bel m = true → Rep K mg w d v → Rep K mg ⟨w.ms.take m, w.G⟩ d v
  | _, _, _, .non => .non
  | _, _, _, .bl b => .bl b
  | _, _, _, .int b => .int b
  | _, _, _, .str b => .str b
  | _, _, h, .tup q r => .tup q (Reps.cut (by simpa only [D.bel] using h) r)
  | _, _, h, .lst q r => .lst q (Reps.cut (by simpa only [D.bel] using h) r)
  | _, _, h, .seq q r => .seq q (Reps.cut (by simpa only [D.bel] using h) r)
  | .ref n, _, h, .ref q => .ref (by
    have hn : n < m := by simpa [D.bel] using h
    rw [List.getElem?_take_of_lt hn]
    exact q)
  | _, _, _, .glo q => .glo q
  | _, _, _, .ty n => .ty n
theorem Reps.cut {m : Nat} : ∀ {d : List D} {v : List V}, D.bel.bels m d = true → Reps K mg w d v → Reps K mg ⟨w.ms.take m, w.G⟩ d v
  | _, _, _, .nil => .nil
  | _, _, h, .cons q r => by
    have h' := h
    simp only [D.bel.bels, Bool.and_eq_true] at h'
    exact .cons (Rep.cut h'.1 q) (Reps.cut h'.2 r)
end
theorem RepF.cut {m : Nat} : ∀ {d : List (Str × D)} {v : List (Str × V)}, bel2 m d = true → RepF K mg w d v → RepF K mg ⟨w.ms.take m, w.G⟩ d v
  | _, _, _, .nil => .nil
  | _, _, h, .cons q r => by
    have h' := h
    simp only [bel2, Bool.and_eq_true] at h'
    exact .cons (Rep.cut h'.1 q) (RepF.cut h'.2 r)
theorem RepK.cut {κ : Type} {m : Nat} : ∀ {d : List (κ × D)} {v : List (κ × V)}, bel2 m d = true → RepK K mg w d v → RepK K mg ⟨w.ms.take m, w.G⟩ d v
  | _, _, _, .nil => .nil
  | _, _, h, .cons q r => by
    have h' := h
    simp only [bel2, Bool.and_eq_true] at h'
    exact .cons (Rep.cut h'.1 q) (RepK.cut h'.2 r)
theorem RepO.cut {m : Nat} {o : PO} {u : HO} (h : o.bel m = true) (r : RepO K mg w o u) : RepO K mg ⟨w.ms.take m, w.G⟩ o u := by
  cases r with
  | lst r => exact .lst (r.cut h)
  | dK r => exact .dK (r.cut h)
  | dT r => exact .dT (r.cut h)
  | ins q r => exact .ins q (r.cut h)
  | dead => exact .dead
/-- the objects from m on are let go -/
theorem Lk.cut {h g : Ph} {H : Hp} (L : Lk K mg w (h ++ g) H) (hb : ∀ o ∈ h, o.bel h.length = true) : Lk K mg ⟨w.ms.take h.length, w.G⟩ h H := by
  have at_ : ∀ {n : Nat} {a : Addr}, (w.ms.take h.length)[n]? = some a → n < h.length ∧ w.ms[n]? = some a := fun {n a} e => by
    have hn := (List.getElem?_eq_some_iff.mp e).1
    rw [List.length_take] at hn
    have h1 : n < h.length := by omega
    rw [List.getElem?_take_of_lt h1] at e
    exact ⟨h1, e⟩
  refine ⟨L.ex, ?_, fun n a o e1 e2 => ?_, fun i j a e1 e2 => L.inj i j a (at_ e1).2 (at_ e2).2, fun n a o e1 e2 e3 => ?_⟩
  · show (w.ms.take h.length).length = h.length
    rw [List.length_take, L.len, List.length_append]
    omega
  · obtain ⟨h1, q⟩ := at_ e1
    obtain ⟨u, hu, r⟩ := L.obj n a o q (by rw [List.getElem?_append_left h1]; exact e2)
    exact ⟨u, hu, r.cut (hb o (List.mem_of_getElem? e2))⟩
  · obtain ⟨h1, q⟩ := at_ e1
    exact L.out n a o q (by rw [List.getElem?_append_left h1]; exact e2) e3
theorem RepX.cut {m : Nat} {c : Str} {fs : Option (List (Str × D))} {C : Value} {d : Option Addr} (hb : ∀ l, fs = some l → bel2 m l = true) (r : RepX K mg w c fs C d) : RepX K mg ⟨w.ms.take m, w.G⟩ c fs C d := by
  cases r with
  | plain q => exact .plain q
  | kept q1 q2 q3 => exact .kept q1 q2 (q3.cut (hb _ rfl))
mutual
theorem Rep.bel : ∀ {d : D} {v : V}, Rep K mg w d v → d.bel w.ms.length = true
  | _, _, .non => rfl
  | _, _, .bl b => rfl
  | _, _, .int b => rfl
  | _, _, .str b => rfl
  | _, _, .tup q r => by simpa only [D.bel] using Reps.bel r
  | _, _, .lst q r => by simpa only [D.bel] using Reps.bel r
  | _, _, .seq q r => by simpa only [D.bel] using Reps.bel r
  | .ref n, _, .ref q => by simpa [D.bel] using (List.getElem?_eq_some_iff.mp q).1
  | _, _, .glo q => rfl
  | _, _, .ty n => rfl
theorem Reps.bel : ∀ {d : List D} {v : List V}, Reps K mg w d v → D.bel.bels w.ms.length d = true
  | _, _, .nil => rfl
  | _, _, .cons q r => by
    simp only [D.bel.bels, Bool.and_eq_true]
    exact ⟨Rep.bel q, Reps.bel r⟩
end
theorem RepF.bel : ∀ {d : List (Str × D)} {v : List (Str × V)}, RepF K mg w d v → bel2 w.ms.length d = true
  | _, _, .nil => rfl
  | _, _, .cons q r => by
    simp only [bel2, Bool.and_eq_true]
    exact ⟨Rep.bel q, RepF.bel r⟩
theorem RepK.bel {κ : Type} : ∀ {d : List (κ × D)} {v : List (κ × V)}, RepK K mg w d v → bel2 w.ms.length d = true
  | _, _, .nil => rfl
  | _, _, .cons q r => by
    simp only [bel2, Bool.and_eq_true]
    exact ⟨Rep.bel q, RepK.bel r⟩
theorem RepO.bel {o : PO} {u : HO} (r : RepO K mg w o u) : o.bel w.ms.length = true := by
  cases r with
  | lst r => exact r.bel
  | dK r => exact r.bel
  | dT r => exact r.bel
  | ins _ r => exact r.bel
  | dead => rfl
theorem Lk.bel {h : Ph} {H : Hp} (L : Lk K mg w h H) : ∀ o ∈ h, o.bel h.length = true := fun o ho => by
  obtain ⟨n, hn⟩ := List.getElem?_of_mem ho
  have hl := (List.getElem?_eq_some_iff.mp hn).1
  have e : w.ms[n]? = some (w.ms[n]'(by rw [L.len]; exact hl)) := by simp
  obtain ⟨u, _, r⟩ := L.obj n _ o e hn
  rw [← L.len]
  exact r.bel
end
/-- what fn' says is what fn does, but for objects that no one knows behind it -/
def Tells (n : Nat) (fn fn' : Fn) : Prop := ∀ (as : List D) (h : Ph), as.length = n → (∀ o ∈ h, o.bel h.length = true) → (∀ a ∈ as, a.bel h.length = true) → match fn' as h with
  | .ok d h' => ∃ g, fn as h = .ok d (h' ++ g) ∧ h'.length = h.length ∧ d.bel h.length = true ∧ ∀ o ∈ h', o.bel h.length = true
  | .exc c fs h' => ∃ g, fn as h = .exc c fs (h' ++ g) ∧ h'.length = h.length ∧ (∀ l, fs = some l → bel2 h.length l = true) ∧ ∀ o ∈ h', o.bel h.length = true
  | .bad => True
theorem bels_mem {m : Nat} : ∀ {as : List D}, D.bel.bels m as = true → ∀ a ∈ as, a.bel m = true
  | [], _, _, ha => nomatch ha
  | x :: r, h, a, ha => by
    have h' := h
    simp only [D.bel.bels, Bool.and_eq_true] at h'
    rcases List.mem_cons.mp ha with q | q
    · rw [q]; exact h'.1
    · exact bels_mem h'.2 a q
theorem step_cut {w w' : Wd} {H H' : Hp} (st : Step w H w' H') : Step w H ⟨w'.ms.take w.ms.length, w'.G⟩ H' := by
  obtain ⟨⟨⟨l, e⟩, ex⟩, frm, newM, newG⟩ := st
  have et : w'.ms.take w.ms.length = w.ms := by rw [e, List.take_left']; rfl
  exact ⟨⟨⟨[], by rw [List.append_nil]; exact et⟩, ex⟩, frm, fun a h => .inl (by have h : a ∈ w'.ms.take w.ms.length := h; rw [et] at h; exact h), newG⟩
theorem Def.tells {B : Cb} {k : Nat} {x : Str} {n : Nat} {fn fn' : Fn} (d : Def B k x n fn) (t : Tells n fn fn') : Def B k x n fn' := by
  obtain ⟨a, fd, ps, F, hm, hk, hb⟩ := d.ex
  refine ⟨a, fd, ps, F.imp fun vs H Q E h => ?_, hm, hk, hb⟩
  obtain ⟨w, h, as, el, L, r, hp⟩ := h
  refine ⟨w, h, as, el, L, r, ?_⟩
  have q := t as h (by rw [r.length]; exact el) L.bel (by rw [← L.len]; exact bels_mem r.bel)
  cases z : fn' as h with
  | ok d h' =>
    rw [z] at q hp
    obtain ⟨g, e1, e2, e3, e4⟩ := q
    rw [e1]
    intro w' H' v st L' r'
    have e5 : h'.length = w.ms.length := by rw [e2, L.len]
    have L2' := L'.cut (by rw [e2]; exact e4)
    rw [e5] at L2'
    refine hp ⟨w'.ms.take w.ms.length, w'.G⟩ H' v (step_cut st) L2' ?_
    have := r'.cut e3
    rw [← L.len] at this
    exact this
  | exc c fs h' =>
    rw [z] at q hp
    obtain ⟨g, e1, e2, e3, e4⟩ := q
    rw [e1]
    intro w' H' C dd st L' r'
    have e5 : h'.length = w.ms.length := by rw [e2, L.len]
    have L2' := L'.cut (by rw [e2]; exact e4)
    rw [e5] at L2'
    refine hp ⟨w'.ms.take w.ms.length, w'.G⟩ H' C dd (step_cut st) L2' ?_
    have := r'.cut e3
    rw [← L.len] at this
    exact this
  | bad => rw [z] at hp; exact hp.elim
end Pd

namespace Pd
open PySem L2 Evl PyProof.Rows
/-! ### a op b op c op d -/
section
variable {ι : Type} {Z : Cz} {Y : ι → Cy} {W : WX}
def tChain3 (r r' r'' : R2) (ta tb tc td : TE) : TE := fun σ H Q => ta σ H fun x H1 => tb σ H1 fun y H2 => r x y H2 fun z H3 => ∃ k, z = .bl k ∧
  (if k = true then tc σ H3 fun u H4 => r' y u H4 fun z' H5 => ∃ k', z' = .bl k' ∧ (if k' = true then td σ H5 fun t H6 => r'' u t H6 Q else Q (.bl false) H5) else Q (.bl false) H3)
theorem pe_chain3 {X : Cx} {a b c d : Expr} {ta tb tc td : TE} {pos : Pos} {op op' op'' : CmpOp} {r r' r'' : R2} (ho : OpR X (compareOp op) r) (ho' : OpR X (compareOp op') r') (ho'' : OpR X (compareOp op'') r'') (ha : PE X a ta) (hb : PE X b tb) (hc : PE X c tc) (hd : PE X d td)
    (hm : lastMarks [op, op', op''] [b, c, d] = false) : PE X (.Compare a [op, op', op''] [b, c, d] pos) (tChain3 r r' r'' ta tb tc td) := by
  refine ⟨fun pins s σ H Q I h => ?_⟩
  refine Compare_chain (thn (ha.run pins s σ H _ I h) fun v s1 ⟨x, H1, I1, r1, q1⟩ => chain_link (thn (hb.run pins s1 σ H1 _ I1 q1) fun u s2 ⟨y, H2, I2, r2, q2⟩ =>
    thn (ho pins s2 σ H2 x y v u _ I2 r1 r2 q2) fun d s3 ⟨z, H3, I3, r3, k, e, q3⟩ => ?_)) hm
  subst e
  cases r3
  refine wpAny_truthy_bool ?_
  cases k with
  | false => exact ite_ff ⟨.bl false, H3, I3, rfl, q3⟩
  | true =>
    refine ite_tt (chain_link (thn (hc.run pins s3 σ H3 _ I3 q3) fun w' s4 ⟨z', H4, I4, r4, q4⟩ => thn (ho' pins s4 σ H4 y z' u w' _ I4 r2 r4 q4) fun d2 s5 ⟨z2, H5, I5, r5, k', e', q5⟩ => ?_))
    subst e'
    cases r5
    refine wpAny_truthy_bool ?_
    cases k' with
    | false => exact ite_ff ⟨.bl false, H5, I5, rfl, q5⟩
    | true => exact ite_tt (chain_last (thn (hd.run pins s5 σ H5 _ I5 q5) fun t' s6 ⟨z6, H6, I6, r6, q6⟩ => ho'' pins s6 σ H6 z' z6 w' t' Q I6 r4 r6 q6))
theorem pt_chain3 {X : Cx} {a b c d : Expr} {ta tb tc td : TE} {pos : Pos} {op op' op'' : CmpOp} {r r' r'' : R2} (ho : OpR X (compareOp op) r) (ho' : OpR X (compareOp op') r') (ho'' : OpR X (compareOp op'') r'') (ha : PE X a ta) (hb : PE X b tb) (hc : PE X c tc) (hd : PE X d td)
    (hm : lastMarks [op, op', op''] [b, c, d] = false) : PT X (.Compare a [op, op', op''] [b, c, d] pos) (tTest (tChain3 r r' r'' ta tb tc td)) := by
  refine ⟨fun pins s σ H Q I h => ?_⟩
  refine isTrue_chain (thn (ha.run pins s σ H _ I h) fun v s1 ⟨x, H1, I1, r1, q1⟩ => test_link (thn (hb.run pins s1 σ H1 _ I1 q1) fun u s2 ⟨y, H2, I2, r2, q2⟩ =>
    thn (ho pins s2 σ H2 x y v u _ I2 r1 r2 q2) fun d s3 ⟨z, H3, I3, r3, k, e, q3⟩ => ?_)) hm
  subst e
  cases r3
  refine wpAny_truthy_bool ?_
  cases k with
  | false =>
    obtain ⟨k', e', q'⟩ := q3
    cases e'
    exact ite_ff ⟨H3, I3, q'⟩
  | true =>
    refine ite_tt (test_link (thn (hc.run pins s3 σ H3 _ I3 q3) fun w' s4 ⟨z', H4, I4, r4, q4⟩ => thn (ho' pins s4 σ H4 y z' u w' _ I4 r2 r4 q4) fun d2 s5 ⟨z2, H5, I5, r5, k', e', q5⟩ => ?_))
    subst e'
    cases r5
    refine wpAny_truthy_bool ?_
    cases k' with
    | false =>
      obtain ⟨k', e', q'⟩ := q5
      cases e'
      exact ite_ff ⟨H5, I5, q'⟩
    | true =>
      refine ite_tt (test_last (thn (hd.run pins s5 σ H5 _ I5 q5) fun t' s6 ⟨z6, H6, I6, r6, q6⟩ => thn (ho'' pins s6 σ H6 z' z6 w' t' _ I6 r4 r6 q6) fun d' s7 ⟨z7, H7, I7, r7, k2, e2, q7⟩ => ?_))
      subst e2
      cases r7
      exact wpAny_truthy_bool ⟨H7, I7, q7⟩
def sChain3 (g g' g'' : D → D → Ph → R D) (fa fb fc fd : SE) : SE := fun e h => (fa e h).bind fun a h1 => (fb e h1).bind fun b h2 => (g a b h2).bind fun z h3 => z.br ((fc e h3).bind fun c h4 => (g' b c h4).bind fun z' h5 => z'.br ((fd e h5).bind fun d h6 => g'' c d h6) (.ok (.bl false) h5)) (.ok (.bl false) h3)
theorem sn_chain3 {K : PySem.W.Frag} {mg : Str → Option Value} {ta tb tc td : TE} {r r' r'' : R2} {g g' g'' : D → D → Ph → R D} {fa fb fc fd : SE} (ho : OpI K mg r g) (ho' : OpI K mg r' g') (ho'' : OpI K mg r'' g'') (ha : SnE K mg W ta fa) (hb : SnE K mg W tb fb) (hc : SnE K mg W tc fc) (hd : SnE K mg W td fd) :
    SnE K mg W (tChain3 r r' r'' ta tb tc td) (sChain3 g g' g'' fa fb fc fd) := fun σ e w h H Q E L hp =>
  ha σ e w h H _ E L (Po.bind (Rp := Rep K mg) hp fun a h1 w1 H1 x _ st1 L1 r1 hp1 => hb σ e w1 h1 H1 _ (E.mono st1.le) L1 (Po.bind (Rp := Rep K mg) hp1 fun b h2 w2 H2 y _ st2 L2 r2 hp2 =>
    ho W σ w2 h2 H2 a b x y _ L2 (r1.mono st2.le) r2 (Po.bind (Rp := Rep K mg) hp2 fun z h3 w3 H3 z' _ st3 L3 r3 hp3 => by
      have E3 := E.mono ((st1.le.trans st2.le).trans st3.le)
      cases r3 with
      | bl k =>
        refine ⟨k, rfl, ?_⟩
        cases k with
        | true => exact hc σ e w3 h3 H3 _ E3 L3 (Po.bind (Rp := Rep K mg) hp3 fun c h4 w4 H4 u _ st4 L4 r4 hp4 => ho' W σ w4 h4 H4 b c y u _ L4 (r2.mono (st3.le.trans st4.le)) r4 (Po.bind (Rp := Rep K mg) hp4 fun z5 h5 w5 H5 v5 _ st5 L5 r5 hp5 => by
            cases r5 with
            | bl k =>
              refine ⟨k, rfl, ?_⟩
              cases k with
              | true => exact hd σ e w5 h5 H5 _ (E3.mono (st4.le.trans st5.le)) L5 (Po.bind (Rp := Rep K mg) hp5 fun d h6 w6 H6 t _ st6 L6 r6 hp6 => ho'' W σ w6 h6 H6 c d u t _ L6 (r4.mono (st5.le.trans st6.le)) r6 hp6)
              | false => exact Po.here L5 (.bl _) hp5
            | _ => exact hp5.elim))
        | false => exact Po.here L3 (.bl _) hp3
      | _ => exact hp3.elim)))
theorem ei_chain3 {a b c d : Expr} {op op' op'' : CmpOp} {r r' r'' : R2} {g g' g'' : D → D → Ph → R D} {fa fb fc fd : SE} {pos : Pos} (o : OpF Z Y (compareOp op) r) (ho : OpI Z.K Z.mg r g) (o' : OpF Z Y (compareOp op') r') (ho' : OpI Z.K Z.mg r' g') (o'' : OpF Z Y (compareOp op'') r'') (ho'' : OpI Z.K Z.mg r'' g'')
    (ha : EI Z Y W a fa) (hb : EI Z Y W b fb) (hc : EI Z Y W c fc) (hd : EI Z Y W d fd) (hm : lastMarks [op, op', op''] [b, c, d] = false := by with_unfolding_all rfl) : EI Z Y W (.Compare a [op, op', op''] [b, c, d] pos) (sChain3 g g' g'' fa fb fc fd) := by
  obtain ⟨ta, pa, sa⟩ := ha
  obtain ⟨tb, pb, sb⟩ := hb
  obtain ⟨tc, pc, sc⟩ := hc
  obtain ⟨td, pd, sd⟩ := hd
  exact ⟨_, fun i => pe_chain3 (o i) (o' i) (o'' i) (pa i) (pb i) (pc i) (pd i) hm, sn_chain3 ho ho' ho'' sa sb sc sd⟩
theorem ti_chain3 {a b c d : Expr} {op op' op'' : CmpOp} {r r' r'' : R2} {g g' g'' : D → D → Ph → R D} {fa fb fc fd : SE} {pos : Pos} (o : OpF Z Y (compareOp op) r) (ho : OpI Z.K Z.mg r g) (o' : OpF Z Y (compareOp op') r') (ho' : OpI Z.K Z.mg r' g') (o'' : OpF Z Y (compareOp op'') r'') (ho'' : OpI Z.K Z.mg r'' g'')
    (ha : EI Z Y W a fa) (hb : EI Z Y W b fb) (hc : EI Z Y W c fc) (hd : EI Z Y W d fd) (hm : lastMarks [op, op', op''] [b, c, d] = false := by with_unfolding_all rfl) : TI Z Y W (.Compare a [op, op', op''] [b, c, d] pos) (sTst (sChain3 g g' g'' fa fb fc fd)) := by
  obtain ⟨ta, pa, sa⟩ := ha
  obtain ⟨tb, pb, sb⟩ := hb
  obtain ⟨tc, pc, sc⟩ := hc
  obtain ⟨td, pd, sd⟩ := hd
  exact ⟨_, fun i => pt_chain3 (o i) (o' i) (o'' i) (pa i) (pb i) (pc i) (pd i) hm, sn_tst (sn_chain3 ho ho' ho'' sa sb sc sd)⟩
/-! ### a, b, c = x, y, z -/
def sPar3 (i j l : Nat) (f : SA) : SS := fun e h => (f e h).toF e fun xs h1 => match xs with
  | [x, y, z] => .nx (((e.set i (some x)).set j (some y)).set l (some z)) h1
  | _ => .bad
theorem si_par3 {i j l : Nat} {x y z : Str} {a b c : Expr} {f : SA} {px py pz pt pt2 pos : Pos} {kt k2} (hc : ∀ i, (Y i).calm = true) (hN : Z.N.Nodup) (hi : Z.N[i]? = some x) (hj : Z.N[j]? = some y) (hl : Z.N[l]? = some z) (hij : i ≠ j) (hil : i ≠ l) (hjl : j ≠ l)
    (hx : ∀ i, (Y i).env.scope.names.lookup x = some .local) (hy : ∀ i, (Y i).env.scope.names.lookup y = some .local) (hz : ∀ i, (Y i).env.scope.names.lookup z = some .local) (ha : AI Z Y W [a, b, c] f)
    (hw : ∀ i, swappedStores [.Tuple [.Name x px, .Name y py, .Name z pz] kt pt] (.Tuple [a, b, c] k2 pt2) (Y i).env = pure (some [x, y, z]))
    (hs : ∀ i, swapsWithSole [.Tuple [.Name x px, .Name y py, .Name z pz] kt pt] (.Tuple [a, b, c] k2 pt2) pos.line (Y i).env = pure false := by intro _; rfl) :
    SI Z Y W (.Assign [.Tuple [.Name x px, .Name y py, .Name z pz] kt pt] (.Tuple [a, b, c] k2 pt2) pos) (sPar3 i j l f) := by
  obtain ⟨ta, pa, sa⟩ := ha
  refine ⟨_, fun q => ps_par3 (X := cx Z (Y q)) (hc q) hN hi hj hl hij hil hjl (hx q) (hy q) (hz q) (pa q) (hw q) (hs q), fun σ e w h H D E L hp => sa σ e w h H _ E L (Po.toF (Rp := Reps Z.K Z.mg) E hp fun xs h1 w1 H1 v _ st1 L1 r1 hp1 => ?_)⟩
  split at hp1
  · cases r1 with
    | cons q0 r1 =>
      obtain ⟨u1, u2, rfl, q1, q2⟩ := r1.two
      exact ⟨_, u1, u2, rfl, hp1 w1 H1 _ (Step.refl _ _) L1 ((((E.mono st1.le).set q0 i).set q1 j).set q2 l)⟩
  · exact hp1.elim
end
/-- what lets nothing out, if nothing is wished for -/
theorem fn_cx0 {P : Program} {w : World} {K : PySem.W.Frag} {mg : Str → Option Value} {base : Heap} {k : Nat} {f : Addr} {fd : FuncData} {ps : List Str} {sp : Sp} (F : FnOk P w K mg base (L2.CX P w) k f fd ps sp) :
    FnOk P w K mg base CX0 k f fd ps (fun vs H Q _ => sp vs H Q fun _ _ _ => False) := by
  refine ⟨fun vs H Q E h => F.len _ _ _ _ h, fun A outer s H args us vs Q E hr he hb hv hs => codeAny_mono (F.run A outer s H args us vs Q _ hr he hb hv hs) fun r s' hq => ?_⟩
  cases r with
  | error e =>
    obtain ⟨_, _, _, _, _, _, _, _, _, _, _, _, z⟩ := hq
    exact z.elim
  | ok fl =>
    cases fl with
    | ret u => exact hq
    | _ => exact hq.elim
/-- the same meaning in other words -/
theorem ei_fold {ι : Type} {Z : Cz} {Y : ι → Cy} {W : WX} {e : Expr} {f g : SE} (h : EI Z Y W e f) (q : f = g) : EI Z Y W e g := q ▸ h
/-- the most turns of a while loop that are told -/
def FU : Nat := 10 ^ 200
end Pd

namespace Pd
open PySem L2 Evl
/-! ### slices -/
abbrev ScO := Pe → Ph → R (Option Int)
def RpI (_ : Wd) (a b : Option Int) : Prop := a = b
abbrev PoO (K : PySem.W.Frag) (mg : Str → Option Value) := Po (α := Option Int) (β := Option Int) K mg RpI
def SnO (K : PySem.W.Frag) (mg : Str → Option Value) (W : WX) (t : TO) (f : ScO) : Prop := ∀ (σ : St) (e : Pe) (w : Wd) (h : Ph) (H : Hp) (Q : Option Int → Hp → Prop), En K mg w e σ → Lk K mg w h H → PoO K mg W σ w H (f e h) Q → t σ H Q
def cutD (xs : List D) (lo hi : Option Int) : List D := (xs.drop (HT.sIx xs.length 0 lo)).take (HT.sIx xs.length xs.length hi - HT.sIx xs.length 0 lo)
def dSl (a : D) (lo hi : Option Int) (h : Ph) : R D := match a with
  | .tup xs => .ok (.tup (cutD xs lo hi)) h
  | .str z => if z.length ≤ mostL then .ok (.str (Txt.slice z lo hi)) h else .bad
  | a => R.opt (lstOf a h) fun xs => .ok (.lst (cutD xs lo hi)) h
def dSlM (a : D) (lo hi : Option Int) (h : Ph) : R D := R.opt (lstOf a h) fun xs => .ok (.ref h.length) (h ++ [.lst (cutD xs lo hi)])
def oNo : ScO := fun _ h => .ok none h
def oPart (f : SE) : ScO := fun e h => (f e h).bind fun a h1 => match a with
  | .int i => .ok (some i) h1
  | _ => .bad
def sSl (g : D → Option Int → Option Int → Ph → R D) (f : SE) (lo hi : ScO) : SE := fun e h => (f e h).bind fun a h1 => (lo e h1).bind fun l h2 => (hi e h2).bind fun u h3 => g a l u h3
theorem Reps.cut2 {K : PySem.W.Frag} {mg : Str → Option Value} {w : Wd} {xs : List D} {vs : List V} (r : Reps K mg w xs vs) (lo hi : Option Int) : Reps K mg w (cutD xs lo hi) (cutV vs lo hi) := by
  unfold cutD cutV
  rw [r.length]
  exact Reps.take _ (Reps.drop _ r)
theorem cutD_whole {xs : List D} {lo hi : Option Int} (h : HT.sIx xs.length 0 lo = 0 ∧ HT.sIx xs.length xs.length hi = xs.length) : cutD xs lo hi = xs := by
  unfold cutD
  rw [h.1, h.2, List.drop_zero, Nat.sub_zero, List.take_length]
def rSlAll (K : PySem.W.Frag) : V → Option Int → Option Int → Hp → VK → Prop := fun x lo hi H Q => (rSlA K x lo hi H Q) ∨ (rSlL K x lo hi H Q ∨ C8.rSlX x lo hi H Q)
def SlI (K : PySem.W.Frag) (mg : Str → Option Value) (r : V → Option Int → Option Int → Hp → VK → Prop) (g : D → Option Int → Option Int → Ph → R D) : Prop := ∀ (W : WX) (σ : St) (w : Wd) (h : Ph) (H : Hp) (a : D) (x : V) (lo hi : Option Int) (Q : VK), Lk K mg w h H → Rep K mg w a x → PoE K mg W σ w H (g a lo hi h) Q → r x lo hi H Q
section
variable {K : PySem.W.Frag} {mg : Str → Option Value}
theorem li_sl : SlI K mg (rSlAll K) dSl := by
  intro W σ w h H a x lo hi Q L ra hp
  unfold dSl at hp
  split at hp
  · rename_i xs
    cases ra with
    | @tup p vs _ q r =>
      refine .inl ⟨p, vs, rfl, SqT.ex L q, fun hw => ?_, fun _ l hl => Po.tup L (r.cut2 lo hi) hp hl⟩
      rw [← r.length] at hw
      rw [cutD_whole hw] at hp
      exact Po.here L (.tup q r) hp
  · cases ra
    obtain ⟨hc, hp⟩ := Po.ite hp
    exact .inr (.inr ⟨_, rfl, mostL_le hc, Po.here L (.str _) hp⟩)
  · obtain ⟨xs, e, hp⟩ := Po.some hp
    obtain ⟨p, vs, rfl, h1, h2⟩ := lstOf_ok L e ra
    exact .inr (.inl ⟨p, vs, rfl, h1, fun l hl => Po.lst L (h2.cut2 lo hi) hp hl⟩)
theorem li_slM : SlI K mg (rSlAll K) dSlM := by
  intro W σ w h H a x lo hi Q L ra hp
  unfold dSlM at hp
  obtain ⟨xs, e, hp⟩ := Po.some hp
  obtain ⟨p, vs, rfl, h1, h2⟩ := lstOf_ok L e ra
  exact .inr (.inl ⟨p, vs, rfl, h1, fun l hl => po_newO L hl (.lst (h2.cut2 lo hi)) hp⟩)
end
section
variable {ι : Type} {Z : Cz} {Y : ι → Cy} {W : WX}
theorem sl_all {X : Cx} : SlR X (rSlAll X.K) := L2.SlR.or sl_tupA (L2.SlR.or sl_list C8.sl_txt)
def OI (Z : Cz) (Y : ι → Cy) (W : WX) (e : Option Expr) (f : ScO) : Prop := ∃ t, (∀ i, L2.PO (cx Z (Y i)) e t) ∧ SnO Z.K Z.mg W t f
theorem ol_no : OI Z Y W none oNo := ⟨_, fun i => po_none, fun σ e w h H Q E L hp => Po.here (Rp := RpI) L rfl hp⟩
theorem ol_part {e : Expr} {f : SE} (he : EI Z Y W e f) : OI Z Y W (some e) (oPart f) := by
  obtain ⟨t, p, s⟩ := he
  refine ⟨_, fun i => po_some (p i), fun σ e w h H Q E L hp => s σ e w h H _ E L (Po.bind (Rp := Rep Z.K Z.mg) (Rq := RpI) hp fun a h1 w1 H1 x _ st1 L1 r1 hp1 => ?_)⟩
  split at hp1
  · cases r1
    exact ⟨_, rfl, Po.here (Rp := RpI) L1 rfl hp1⟩
  · exact hp1.elim
theorem ei_sl {g : D → Option Int → Option Int → Ph → R D} {e : Expr} {lo hi : Option Expr} {f : SE} {fl fh : ScO} {pos p2 : Pos} (hg : SlI Z.K Z.mg (rSlAll Z.K) g) (he : EI Z Y W e f) (hl : OI Z Y W lo fl) (hh : OI Z Y W hi fh) : EI Z Y W (.Subscript e (.Slice lo hi none p2) pos) (sSl g f fl fh) := by
  obtain ⟨t, p, s⟩ := he
  obtain ⟨tl, pl, sl⟩ := hl
  obtain ⟨th, ph, sh⟩ := hh
  refine ⟨tSl (rSlAll Z.K) t tl th, fun i => pe_slice (X := cx Z (Y i)) sl_all (p i) (pl i) (ph i), fun σ e w h H Q E L hp => s σ e w h H _ E L (Po.bind (Rp := Rep Z.K Z.mg) hp fun a h1 w1 H1 x _ st1 L1 r1 hp1 => ?_)⟩
  refine sl σ e w1 h1 H1 _ (E.mono st1.le) L1 (Po.bind (Rp := RpI) hp1 fun l h2 w2 H2 l' _ st2 L2 e2 hp2 => ?_)
  refine sh σ e w2 h2 H2 _ ((E.mono st1.le).mono st2.le) L2 (Po.bind (Rp := RpI) hp2 fun u h3 w3 H3 u' _ st3 L3 e3 hp3 => ?_)
  cases e2
  cases e3
  exact hg W σ w3 h3 H3 a x l u Q L3 ((r1.mono st2.le).mono st3.le) hp3
/-- xs[::-1] -/
def dRev (a : D) (h : Ph) : R D := R.opt (lstOf a h) fun xs => .ok (.lst xs.reverse) h
def sRev (f : SE) : SE := fun e h => (f e h).bind fun a h1 => dRev a h1
theorem ei_rev {e : Expr} {f : SE} {k : Nat} {p1 p2 p3 pos : Pos} (he : EI Z Y W e f) : EI Z Y W (.Subscript e (.Slice none none (some (.UnaryOp .USub (.Constant (.int 1) k p1) p2)) p3) pos) (sRev f) := by
  obtain ⟨t, p, s⟩ := he
  refine ⟨tRevL Z.K t, fun i => pe_revL (X := cx Z (Y i)) (p i), fun σ e w h H Q E L hp => s σ e w h H _ E L (Po.bind (Rp := Rep Z.K Z.mg) hp fun a h1 w1 H1 x _ st1 L1 r1 hp1 => ?_)⟩
  obtain ⟨xs, e, hp1⟩ := Po.some hp1
  obtain ⟨p, vs, rfl, h1, h2⟩ := lstOf_ok L1 e r1
  exact ⟨p, vs, rfl, h1, fun l hl => Po.lst L1 (Reps.reverse h2) hp1 hl⟩
end
/-! ### repr of what is no container -/
def rReprS : List V → Hp → VK → Prop := fun xs H Q => (∃ b : Bool, xs = [.bl b] ∧ Q (.str (if b then "True" else "False")) H) ∨ ((xs = [.non] ∧ Q (.str "None") H) ∨ (∃ i, xs = [.int i] ∧ i.natAbs.log2 < 1920 ∧ Q (.str (toString i)) H))
theorem call_reprS {X : Cx} : CallR X (.builtin "repr") rReprS := by
  intro pins s σ H xs us Q I r h
  rcases h with ⟨b, rfl, q⟩ | ⟨rfl, q⟩ | h
  · obtain ⟨u, rfl, rfl⟩ := vals1 r
    exact PySem.P.repr_of_bool ⟨.str _, H, I.tok _, ⟨_, rfl⟩, q⟩
  · obtain ⟨u, rfl, rfl⟩ := vals1 r
    exact PySem.P.repr_of_none ⟨.str _, H, I.tok _, ⟨_, rfl⟩, q⟩
  · exact SkE.call_repr_int pins s σ H xs us Q I r h
def dRepr (a : D) (h : Ph) : R D := match a with
  | .bl b => .ok (.str (if b then "True" else "False")) h
  | .non => .ok (.str "None") h
  | .int i => if i.natAbs.log2 < 1920 then .ok (.str (toString i)) h else .bad
  | _ => .bad
theorem ci_repr {K : PySem.W.Frag} {mg : Str → Option Value} : CallI K mg rReprS (g1 dRepr) := ci_1 fun W σ w h H a x Q L ra hp => by
  unfold dRepr at hp
  split at hp
  · cases ra; exact .inl ⟨_, rfl, Po.here L (.str _) hp⟩
  · cases ra; exact .inr (.inl ⟨rfl, Po.here L (.str _) hp⟩)
  · obtain ⟨hc, hp⟩ := Po.ite hp
    cases ra; exact .inr (.inr ⟨_, rfl, hc, Po.here L (.str _) hp⟩)
  · exact hp.elim
end Pd

namespace Pd
open PySem L2 Evl
/-! ### zip -/
def zipD : List D → List D → List D
  | x :: xs, y :: ys => .tup [x, y] :: zipD xs ys
  | _, _ => []
theorem zipD_get : ∀ {xs ys : List D} {i : Nat} {d : D}, (zipD xs ys)[i]? = some d → ∃ x y, xs[i]? = some x ∧ ys[i]? = some y ∧ d = .tup [x, y]
  | [], _, _, _, e => by cases e
  | _ :: _, [], _, _, e => by cases e
  | x :: xs, y :: ys, 0, d, e => by cases e; exact ⟨x, y, rfl, rfl, rfl⟩
  | x :: xs, y :: ys, i + 1, d, e => zipD_get (xs := xs) (ys := ys) (i := i) e
theorem zipD_len : ∀ {xs ys : List D}, (zipD xs ys).length = min xs.length ys.length
  | [], _ => by simp [zipD]
  | _ :: _, [] => by simp [zipD]
  | x :: xs, y :: ys => by simp [zipD, zipD_len (xs := xs) (ys := ys)]
theorem itOk_zipT {K : PySem.W.Frag} {mg : Str → Option Value} {w : Wd} {a b : Addr} {xs ys : List D} {us vs : List V} (qa : SqT K w.G a us) (qb : SqT K w.G b vs) (ra : Reps K mg w xs us) (rb : Reps K mg w ys vs) : ItOk K mg w (RZ.ItzT K a b) (zipD xs ys) where
  go := fun w' h' H' i d le L e => by
    obtain ⟨x, y, e1, e2, rfl⟩ := zipD_get e
    obtain ⟨u, hu, ru⟩ := ra.get e1
    obtain ⟨v, hv, rv⟩ := rb.get e2
    have s1 := ex_t L.ex (ex_t le.ex qa)
    have s2 := ex_t L.ex (ex_t le.ex qb)
    refine ⟨⟨us, vs, u, v, s1, s2, hu, hv⟩, fun z H'' hy => ?_⟩
    obtain ⟨T, x1, y1, rfl, np, rfl, k1, k2⟩ := hy
    have z1 := k1 us s1
    have z2 := k2 vs s2
    rw [hu] at z1
    rw [hv] at z2
    cases z1
    cases z2
    obtain ⟨l1, l2, l3⟩ := L.lay np (.tup [u, v])
    exact ⟨_, l2, l1, .tup (.inl (.inl upd_same)) (.cons ((ru.mono le).mono l3) (.cons ((rv.mono le).mono l3) .nil))⟩
  stop := fun w' h' H' i le L hl => by
    rw [zipD_len] at hl
    exact ⟨us, vs, ex_t L.ex (ex_t le.ex qa), ex_t L.ex (ex_t le.ex qb), by rw [← ra.length, ← rb.length]; omega⟩
theorem itOk_zipL {K : PySem.W.Frag} {mg : Str → Option Value} {w : Wd} {a b : Addr} {xs ys : List D} {us vs : List V} (qa : SqL K w.G a us) (qb : SqL K w.G b vs) (ra : Reps K mg w xs us) (rb : Reps K mg w ys vs) : ItOk K mg w (Itz K a b) (zipD xs ys) where
  go := fun w' h' H' i d le L e => by
    obtain ⟨x, y, e1, e2, rfl⟩ := zipD_get e
    obtain ⟨u, hu, ru⟩ := ra.get e1
    obtain ⟨v, hv, rv⟩ := rb.get e2
    have s1 := ex_l L.ex (ex_l le.ex qa)
    have s2 := ex_l L.ex (ex_l le.ex qb)
    refine ⟨⟨us, vs, u, v, s1, s2, hu, hv⟩, fun z H'' hy => ?_⟩
    obtain ⟨T, x1, y1, rfl, np, rfl, k1, k2⟩ := hy
    have z1 := k1 us s1
    have z2 := k2 vs s2
    rw [hu] at z1
    rw [hv] at z2
    cases z1
    cases z2
    obtain ⟨l1, l2, l3⟩ := L.lay np (.tup [u, v])
    exact ⟨_, l2, l1, .tup (.inl (.inl upd_same)) (.cons ((ru.mono le).mono l3) (.cons ((rv.mono le).mono l3) .nil))⟩
  stop := fun w' h' H' i le L hl => by
    rw [zipD_len] at hl
    exact ⟨us, vs, ex_l L.ex (ex_l le.ex qa), ex_l L.ex (ex_l le.ex qb), by rw [← ra.length, ← rb.length]; omega⟩
def lq (a : D) : Option (List D) := match a with
  | .lst xs => some xs
  | .seq xs => some xs
  | _ => none
def iZipS (f : SA) : SIt := fun e h => (f e h).bind fun as h1 => match as with
  | [.tup xs, .tup ys] => .ok (zipD xs ys) h1
  | [a, b] => R.opt (lq a) fun xs => R.opt (lq b) fun ys => .ok (zipD xs ys) h1
  | _ => .bad
theorem lq_ok {K : PySem.W.Frag} {mg : Str → Option Value} {w : Wd} {a : D} {xs : List D} {x : V} (e : lq a = some xs) (r : Rep K mg w a x) : ∃ p vs, x = .ref p ∧ SqL K w.G p vs ∧ Reps K mg w xs vs := by
  cases r with
  | lst q r => cases e; exact ⟨_, _, rfl, .inl (.inl q), r⟩
  | seq q r => cases e; exact ⟨_, _, rfl, q, r⟩
  | _ => cases e
section
variable {ι : Type} {Z : Cz} {Y : ι → Cy} {W : WX}
theorem ii_zip {elts : List Expr} {kk : Nat} {tpos p pos : Pos} {e e2 : Expr} {f : SA} (hg : GlF Y "zip") (hm : Z.mg "zip" = none) (ha : AI Z Y W [e, e2] f)
    (hs : ∀ i, starEach [e, e2] (Y i).env = (false, eval e (Y i).env) :: starEach [e2] (Y i).env := by intro _; rfl) (hpl : ∀ i, (backTo pos (starEach [e2] (Y i).env)).any (·.1) = false := by intro _; rfl) :
    II Z Y W (.Tuple elts kk tpos) (.Call (.Name "zip" p) [e, e2] [] pos) (iZipS f) := by
  obtain ⟨t, pa, s⟩ := ha
  refine ⟨RZ.iZipA Z.K t, fun i => RZ.pi_zipA (X := cx Z (Y i)) (hg i) hm (pa i) (hs i) (hpl i), fun σ e w h H Q E L hp => s σ e w h H _ E L (Po.bind (Rp := Reps Z.K Z.mg) (Rq := fun w xs J => ItOk Z.K Z.mg w J xs) hp fun as h1 w1 H1 vs _ st1 L1 r1 hp1 => ?_)⟩
  split at hp1
  · obtain ⟨x, y, rfl, r1, r2⟩ := r1.two
    cases r1 with
    | @tup a us _ q1 k1 =>
      cases r2 with
      | @tup b ws _ q2 k2 =>
        exact ⟨_, _, _, _, rfl, .inr ⟨SqT.ex L1 q1, SqT.ex L1 q2, hp1 w1 H1 _ (Step.refl _ _) L1 (itOk_zipT q1 q2 k1 k2)⟩⟩
  · obtain ⟨x, y, rfl, r1, r2⟩ := r1.two
    obtain ⟨xs, e1, hp1⟩ := Po.some (Rp := fun w xs J => ItOk Z.K Z.mg w J xs) hp1
    obtain ⟨ys, e2, hp1⟩ := Po.some (Rp := fun w xs J => ItOk Z.K Z.mg w J xs) hp1
    obtain ⟨a, us, rfl, q1, k1⟩ := lq_ok e1 r1
    obtain ⟨b, ws, rfl, q2, k2⟩ := lq_ok e2 r2
    exact ⟨_, _, _, _, rfl, .inl ⟨SqL.ex L1 q1, SqL.ex L1 q2, hp1 w1 H1 _ (Step.refl _ _) L1 (itOk_zipL q1 q2 k1 k2)⟩⟩
  · exact hp1.elim
end
/-! ### in a list, not in -/
def dIn (a b : D) (h : Ph) : R D := R.opt (pyOf a h) fun p => match pyOf b h with
  | some (.list ds) => if SeqAt.shaped p = true ∧ SeqAt.shaped (.list ds) = true then .ok (.bl (ds.any fun z => PyData.eqv z p)) h else .bad
  | _ => .bad
def dNotIn (a b : D) (h : Ph) : R D := R.opt (pyOf a h) fun p => match pyOf b h with
  | some (.list ds) => if SeqAt.shaped p = true ∧ SeqAt.shaped (.list ds) = true then .ok (.bl (!ds.any fun z => PyData.eqv z p)) h else .bad
  | _ => .bad
theorem oi_in {K : PySem.W.Frag} {mg : Str → Option Value} : OpI K mg (rInD K) dIn := by
  intro W σ w h H a b x y Q L ra rb hp
  obtain ⟨p, e1, hp⟩ := Po.some hp
  split at hp
  · rename_i ds e2
    obtain ⟨⟨s1, s2⟩, hp⟩ := Po.ite hp
    exact ⟨p, ds, pyOf_ok L e1 ra, pyOf_ok L e2 rb, s1, s2, Po.here L (.bl _) hp⟩
  · exact hp.elim
theorem oi_notIn {K : PySem.W.Frag} {mg : Str → Option Value} : OpI K mg (rNotInD K) dNotIn := by
  intro W σ w h H a b x y Q L ra rb hp
  obtain ⟨p, e1, hp⟩ := Po.some hp
  split at hp
  · rename_i ds e2
    obtain ⟨⟨s1, s2⟩, hp⟩ := Po.ite hp
    exact ⟨p, ds, pyOf_ok L e1 ra, pyOf_ok L e2 rb, s1, s2, Po.here L (.bl _) hp⟩
  · exact hp.elim
end Pd

/-! PdA: a hook by any facts of the written part; names of the module that are data -/
namespace Pd
open PySem L2 Evl
abbrev FaX := PySem.W.Frag → Bool
def obsX (fa : List FaX) (fn : List He.DefD) (K : PySem.W.Frag) : He.AlD := ((fa.all fun f => f K) && fn.all fun d => d.ok K, fn.map fun d => He.fnW K d.at_)
def SaysX (fa : List FaX) (fn : List He.DefD) (K : PySem.W.Frag) : Prop := obsX fa fn K = He.valD fn
def obsXG (n : Nat) (fa : List FaX) (fn : List He.DefD) (g : Addr → Option Obj) : He.AlD := obsX fa fn (He.frG g (He.asD g n))
def hookX (n : Nat) (fa : List FaX) (fn : List He.DefD) : PySem.W.Hook where
  α := He.AlD
  obs := fun s => obsXG n fa fn s.heap.get?
  val := fun _ => He.valD fn
  says := fun _ h => ∃ K : PySem.W.Frag, K.In h ∧ SaysX fa fn K
  of := fun _ _ e => ⟨_, He.frG_in, e⟩
  keeps := fun _ _ _ ⟨K, hK, c⟩ k => ⟨K, PySem.W.Frag.In.keeps hK k, c⟩
theorem obsXG_eq {n : Nat} {fa : List FaX} {fn : List He.DefD} {g : Addr → Option Obj} {s : Shared} (h : ∀ a, g a = s.heap.get? a) : obsXG n fa fn g = (hookX n fa fn).obs s := by
  have e : g = s.heap.get? := funext h
  rw [e] <;> rfl
section
variable {fa : List FaX} {fn : List He.DefD} {K : PySem.W.Frag}
theorem SaysX.fact (c : SaysX fa fn K) (i : Nat) {f : FaX} (h : fa[i]? = some f := by rfl) : f K = true := by
  have c1 := (He.ba (show ((fa.all fun f => f K) && fn.all fun d => d.ok K) = true from congrArg (fun z : He.AlD => z.1) c)).1
  exact List.all_eq_true.mp c1 f (List.mem_of_getElem? h)
theorem SaysX.def_ (c : SaysX fa fn K) (i : Nat) {d : He.DefD} (h : fn[i]? = some d := by rfl) : ∃ fd, FunD K d.name d.qual d.params d.body d.scope (d.dvs K) (d.kws K) (He.fAd K d.at_) fd := by
  have c2 := (He.ba (show ((fa.all fun f => f K) && fn.all fun d => d.ok K) = true from congrArg (fun z : He.AlD => z.1) c)).2
  have e : fn.map (fun d => He.fnW K d.at_) = fn.map He.DefD.val := congrArg (fun z : He.AlD => z.2) c
  have hm : d ∈ fn := List.mem_of_getElem? h
  have e1 : He.fnW K d.at_ = d.val := by
    have e2 : (fn.map (fun d => He.fnW K d.at_))[i]? = (fn.map He.DefD.val)[i]? := by rw [e]
    rw [List.getElem?_map, List.getElem?_map, h] at e2
    exact Option.some.inj e2
  exact He.DefD.funD e1 (List.all_eq_true.mp c2 d hm)
end
/-! ### data of the module -/
mutual
def repB (K : PySem.W.Frag) : D → Value → Bool
  | .non, v => (match v with | .none => true | _ => false)
  | .bl b, v => (match v with | .bool c => b == c | _ => false)
  | .int i, v => (match v with | .int j _ => decide (i = j) | _ => false)
  | .str x, v => (match v with | .str y _ => decide (x = y) | _ => false)
  | .ty n, v => (match v with | .type m => decide (n = m) | _ => false)
  | .glo x, v => (match v with
    | .ref a => He.eqO (PySem.W.nsIn K mainGlobals x) (some (some (.ref a)))
    | _ => false)
  | .tup xs, v => (match v with
    | .ref a => (match K.lookup a with
      | some ⟨.type c, _, .seq its _, _⟩ => decide (c = "tuple") && (decide (its.size ≤ sizeLine) && repsB K xs its.toList)
      | _ => false)
    | _ => false)
  | .seq xs, v => (match v with
    | .ref a => (match K.lookup a with
      | some ⟨.type c, none, .seq its _, _⟩ => decide (c = "list") && (decide (its.size ≤ sizeLine) && repsB K xs its.toList)
      | _ => false)
    | _ => false)
  | .lst _, _ => false
  | .ref _, _ => false
def repsB (K : PySem.W.Frag) : List D → List Value → Bool
  | [], vs => (match vs with | [] => true | _ => false)
  | x :: xs, vs => (match vs with | v :: r => repB K x v && repsB K xs r | [] => false)
end
section
variable {K : PySem.W.Frag} {mg : Str → Option Value} {h : Heap}
mutual
theorem repB_ok (X : K.In h) (G : h.Ns mainGlobals mg) : ∀ {d : D} {u : Value}, repB K d u = true → ∃ v, RelV v u ∧ ∀ w, Rep K mg w d v
  | .non, u, e => by
    cases u with
    | none => exact ⟨.non, rfl, fun _ => .non⟩
    | _ => cases e
  | .bl b, u, e => by
    cases u with
    | bool c =>
      have q : (b == c) = true := e
      exact ⟨.bl b, by rw [beq_iff_eq.mp q]; rfl, fun _ => .bl b⟩
    | _ => cases e
  | .int i, u, e => by
    cases u with
    | int c t =>
      have q : decide (i = c) = true := e
      exact ⟨.int i, by rw [of_decide_eq_true q]; exact ⟨_, rfl⟩, fun _ => .int i⟩
    | _ => cases e
  | .str i, u, e => by
    cases u with
    | str c t =>
      have q : decide (i = c) = true := e
      exact ⟨.str i, by rw [of_decide_eq_true q]; exact ⟨_, rfl⟩, fun _ => .str i⟩
    | _ => cases e
  | .ty i, u, e => by
    cases u with
    | type c =>
      have q : decide (i = c) = true := e
      exact ⟨.ty i, by rw [of_decide_eq_true q]; rfl, fun _ => .ty i⟩
    | _ => cases e
  | .glo x, u, e => by
    cases u with
    | ref a =>
      have q : He.eqO (PySem.W.nsIn K mainGlobals x) (some (some (.ref a))) = true := e
      exact ⟨.ref a, rfl, fun _ => .glo (PySem.W.mg_of X G (He.eqO_ok q))⟩
    | _ => cases e
  | .tup xs, u, e => by
    cases u with
    | ref a =>
      have q : (match K.lookup a with
        | some ⟨.type c, _, .seq its _, _⟩ => decide (c = "tuple") && (decide (its.size ≤ sizeLine) && repsB K xs its.toList)
        | _ => false) = true := e
      cases l : K.lookup a with
      | none => rw [l] at q; cases q
      | some o =>
        obtain ⟨oc, od, dt, osl⟩ := o
        rw [l] at q
        cases oc with
        | type c =>
          cases dt with
          | seq its n =>
            obtain ⟨h1, h2⟩ := He.ba (show (decide (c = "tuple") && (decide (its.size ≤ sizeLine) && repsB K xs its.toList)) = true from q)
            obtain ⟨h3, h4⟩ := He.ba h2
            obtain ⟨vs, r1, r2⟩ := repsB_ok X G h4
            exact ⟨.ref a, rfl, fun w => .tup (.inr ⟨_, its, n, l, congrArg Value.type (of_decide_eq_true h1), rfl, of_decide_eq_true h3, r1⟩) (r2 w)⟩
          | _ => cases q
        | _ => cases dt <;> cases q
    | _ => cases e
  | .seq xs, u, e => by
    cases u with
    | ref a =>
      have q : (match K.lookup a with
        | some ⟨.type c, none, .seq its _, _⟩ => decide (c = "list") && (decide (its.size ≤ sizeLine) && repsB K xs its.toList)
        | _ => false) = true := e
      cases l : K.lookup a with
      | none => rw [l] at q; cases q
      | some o =>
        obtain ⟨oc, od, dt, osl⟩ := o
        rw [l] at q
        cases oc with
        | type c =>
          cases od with
          | none =>
            cases dt with
            | seq its n =>
              obtain ⟨h1, h2⟩ := He.ba (show (decide (c = "list") && (decide (its.size ≤ sizeLine) && repsB K xs its.toList)) = true from q)
              obtain ⟨h3, h4⟩ := He.ba h2
              obtain ⟨vs, r1, r2⟩ := repsB_ok X G h4
              exact ⟨.ref a, rfl, fun w => .seq (.inr ⟨_, its, n, l, congrArg Value.type (of_decide_eq_true h1), rfl, rfl, of_decide_eq_true h3, r1⟩) (r2 w)⟩
            | _ => cases q
          | some _ => cases dt <;> cases q
        | _ => cases od <;> cases dt <;> cases q
    | _ => cases e
  | .lst _, _, e => by cases e
  | .ref _, _, e => by cases e
theorem repsB_ok (X : K.In h) (G : h.Ns mainGlobals mg) : ∀ {d : List D} {u : List Value}, repsB K d u = true → ∃ v, Vals v u ∧ ∀ w, Reps K mg w d v
  | [], u, e => by
    cases u with
    | nil => exact ⟨[], .nil, fun _ => .nil⟩
    | cons _ _ => cases e
  | x :: xs, u, e => by
    cases u with
    | nil => cases e
    | cons a r =>
      obtain ⟨h1, h2⟩ := He.ba (show (repB K x a && repsB K xs r) = true from e)
      obtain ⟨v, r1, r2⟩ := repB_ok X G h1
      obtain ⟨vs, s1, s2⟩ := repsB_ok X G h2
      exact ⟨v :: vs, .cons r1 s1, fun w => .cons (r2 w) (s2 w)⟩
end
end
/-- the module's name x is this -/
def faDat (x : Str) (d : D) : FaX := fun K => match PySem.W.nsIn K mainGlobals x with
  | some (some u) => repB K d u
  | _ => false
/-- a name of the module that is data -/
def Dat (K : PySem.W.Frag) (mg : Str → Option Value) (x : Str) (d : D) : Prop := ∃ u v, mg x = some u ∧ RelV v u ∧ ∀ w, Rep K mg w d v
theorem dat_ok {K : PySem.W.Frag} {mg : Str → Option Value} {h : Heap} (X : K.In h) (G : h.Ns mainGlobals mg) {x : Str} {d : D} (c : faDat x d K = true) : Dat K mg x d := by
  unfold faDat at c
  cases e : PySem.W.nsIn K mainGlobals x with
  | none => rw [e] at c; cases c
  | some o =>
    rw [e] at c
    cases o with
    | none => cases c
    | some u =>
      obtain ⟨v, r1, r2⟩ := repB_ok X G c
      exact ⟨u, v, PySem.W.mg_of X G e, r1, r2⟩
section
variable {ι : Type} {Z : Cz} {Y : ι → Cy} {W : WX}
theorem ei_dat {x : Str} {d : D} {pos : Pos} (hg : GlF Y x) (hm : Dat Z.K Z.mg x d) (hd : (x == ("__debug__" : Str)) = false := by decide) : EI Z Y W (.Name x pos) (sC d) := by
  obtain ⟨u, v, h1, h2, h3⟩ := hm
  exact ⟨_, fun j => pe_glob (v := v) (hg j) h1 h2 hd, sn_c h3⟩
end
end Pd

/-! PdB: sorted -/
namespace Pd
open PySem L2 Evl
/-! ### the order of lists of ints -/
theorem lex_asym : ∀ {a b : List Int}, HT.lexLt a b = true → HT.lexLt b a = false
  | [], [], h => by cases h
  | [], _ :: _, _ => rfl
  | _ :: _, [], h => by cases h
  | x :: xs, y :: ys, h => by
    rw [HT.lexLt_cons] at h ⊢
    by_cases e : x = y
    · rw [if_pos e] at h
      rw [if_pos e.symm]
      exact lex_asym h
    · rw [if_neg e] at h
      rw [if_neg (Ne.symm e)]
      have := of_decide_eq_true h
      exact decide_eq_false (by omega)
theorem lex_tr : ∀ {a b c : List Int}, HT.lexLt b a = false → HT.lexLt c b = false → HT.lexLt c a = false
  | [], _, [], _, _ => rfl
  | _ :: _, [], [], h, _ => by cases h
  | _ :: _, _ :: _, [], _, h => by cases h
  | [], _, _ :: _, _, _ => rfl
  | x :: xs, [], z :: zs, h, _ => by cases h
  | x :: xs, y :: ys, z :: zs, h1, h2 => by
    rw [HT.lexLt_cons] at h1 h2 ⊢
    by_cases e1 : y = x
    · rw [if_pos e1] at h1
      by_cases e2 : z = y
      · rw [if_pos e2] at h2
        rw [if_pos (e2.trans e1)]
        exact lex_tr h1 h2
      · rw [if_neg e2] at h2
        rw [if_neg (fun q => e2 (q.trans e1.symm))]
        have := of_decide_eq_false h2
        exact decide_eq_false (by omega)
    · rw [if_neg e1] at h1
      have k1 := of_decide_eq_false h1
      by_cases e2 : z = y
      · rw [if_pos e2] at h2
        rw [if_neg (fun q => e1 (e2.symm.trans q))]
        exact decide_eq_false (by omega)
      · rw [if_neg e2] at h2
        have k2 := of_decide_eq_false h2
        rw [if_neg (by omega)]
        exact decide_eq_false (by omega)
theorem lex_conn : ∀ {a b : List Int}, HT.lexLt a b = false → HT.lexLt b a = false → a = b
  | [], [], _, _ => rfl
  | [], _ :: _, h, _ => by cases h
  | _ :: _, [], _, h => by cases h
  | x :: xs, y :: ys, h1, h2 => by
    rw [HT.lexLt_cons] at h1 h2
    by_cases e : x = y
    · rw [if_pos e] at h1
      rw [if_pos e.symm] at h2
      rw [e, lex_conn h1 h2]
    · rw [if_neg e] at h1
      rw [if_neg (Ne.symm e)] at h2
      have k1 := of_decide_eq_false h1
      have k2 := of_decide_eq_false h2
      omega
theorem lex_swo {α : Type} (k : α → List Int) : SrtO.Swo fun v u => HT.lexLt (k v) (k u) := ⟨fun _ _ h => lex_asym h, fun _ _ _ h1 h2 => lex_tr h1 h2⟩
/-! ### sorting by insertion: what sorted gives -/
section
variable {α : Type} (lt : α → α → Bool)
def insS (x : α) : List α → List α
  | [] => [x]
  | y :: r => if lt y x then y :: insS x r else x :: y :: r
def sortS : List α → List α
  | [] => []
  | x :: r => insS lt x (sortS r)
variable {lt}
theorem insS_perm (x : α) : ∀ l : List α, (insS lt x l).Perm (x :: l)
  | [] => List.Perm.refl _
  | y :: r => by
    unfold insS
    by_cases h : lt y x = true
    · rw [if_pos h]
      exact ((insS_perm x r).cons y).trans (List.Perm.swap x y r)
    · rw [if_neg h]
theorem sortS_perm : ∀ l : List α, (sortS lt l).Perm l
  | [] => List.Perm.refl _
  | x :: r => (insS_perm x _).trans ((sortS_perm r).cons x)
theorem insS_srt (O : SrtO.Swo lt) (x : α) : ∀ {l : List α}, SrtO.Srtd lt l → SrtO.Srtd lt (insS lt x l)
  | [], _ => by unfold insS SrtO.Srtd; exact List.pairwise_singleton _ _
  | y :: r, h => by
    have h' := List.pairwise_cons.mp h
    unfold insS
    by_cases q : lt y x = true
    · rw [if_pos q]
      refine List.pairwise_cons.mpr ⟨fun z hz => ?_, insS_srt O x h'.2⟩
      rcases List.mem_cons.mp ((insS_perm x r).mem_iff.mp hz) with e | hm
      · rw [e]; exact O.asym y x q
      · exact h'.1 z hm
    · rw [if_neg q]
      have q' : lt y x = false := by cases e : lt y x with | true => exact absurd e q | false => rfl
      refine List.pairwise_cons.mpr ⟨fun z hz => ?_, h⟩
      rcases List.mem_cons.mp hz with e | hm
      · rw [e]; exact q'
      · exact O.tr x y z q' (h'.1 z hm)
theorem sortS_srt (O : SrtO.Swo lt) : ∀ l : List α, SrtO.Srtd lt (sortS lt l)
  | [] => List.Pairwise.nil
  | x :: r => insS_srt O x (sortS_srt O r)
/-- one sorted list alone, where only equal things stand beside one another -/
theorem srtd_one (O : SrtO.Swo lt) (C : ∀ x y, lt x y = false → lt y x = false → x = y) : ∀ {l m : List α}, SrtO.Srtd lt l → SrtO.Srtd lt m → l.Perm m → l = m
  | [], m, _, _, h => (List.Perm.eq_nil h.symm).symm
  | x :: l, [], _, _, h => absurd h.length_eq (by simp)
  | x :: l, y :: m, hl, hm, h => by
    have h1 : lt x y = false := by
      rcases List.mem_cons.mp (h.mem_iff.mp (List.mem_cons_self (a := x) (l := l))) with e | hx
      · rw [e]; exact O.refl y
      · exact (List.pairwise_cons.mp hm).1 x hx
    have h2 : lt y x = false := by
      rcases List.mem_cons.mp (h.mem_iff.mpr (List.mem_cons_self (a := y) (l := m))) with e | hy
      · rw [e]; exact O.refl x
      · exact (List.pairwise_cons.mp hl).1 y hy
    obtain rfl := C x y h1 h2
    rw [srtd_one O C (List.pairwise_cons.mp hl).2 (List.pairwise_cons.mp hm).2 h.cons_inv]
end
def ltZb (x y : Int) : Bool := decide (x < y)
theorem ltZ_swo : SrtO.Swo ltZb := ⟨fun x y h => by have := of_decide_eq_true h; exact decide_eq_false (by omega), fun x y z h1 h2 => by have := of_decide_eq_false h1; have := of_decide_eq_false h2; exact decide_eq_false (by omega)⟩
end Pd
namespace Pd
open PySem PySem.Spec PyProof.Rows L2 SrtO
section
variable {prog : Program} {w : World} {A : Around} {E : Value → Shared → Prop} {s : Shared}
theorem lex_kat : ∀ {xs ys : List Value} {ns ms : List Int} (i : Nat) {Q : Bool → Shared → Prop}, IntsAre xs ns → IntsAre ys ms → Q (HT.lexLt ns ms) s → PySem.W.KatLex prog w A true (decide (xs.length < ys.length)) Q (xs.zip ys) i s
  | _, _, _, _, i, Q, .nil, .nil, h => PySem.W.kat_nil h
  | _, _, _, _, i, Q, .nil, .cons _ _ _, h => PySem.W.kat_nil (by
      rw [decide_eq_true (by simp)]
      exact h)
  | _, _, _, _, i, Q, .cons _ _ _, .nil, h => PySem.W.kat_nil (by
      rw [decide_eq_false (by simp)]
      exact h)
  | _, _, _, _, i, Q, .cons x t (vs := vs) (ns := ns) r, .cons y u (vs := vs') (ns := ns') r', h => by
    rw [HT.lexLt_cons] at h
    have e0 : decide ((Value.int x t :: vs).length < (Value.int y u :: vs').length) = decide (vs.length < vs'.length) := by simp
    rw [e0]
    refine PySem.W.kat_cons (SeqAt.EqAt.int_int x t y u prog w _ _ ?_)
    refine PySem.W.kat_go (fun e1 => ?_) (fun e1 => ?_)
    · have ex : x = y := by simpa using e1
      rw [if_pos ex] at h
      exact PySem.W.kat_yes (lex_kat (i + 1) r r' h)
    · have ex : ¬ x = y := by simpa using e1
      rw [if_neg ex] at h
      exact PySem.W.kat_no (TS.oneLt_ints _ h)
theorem tups_cmp {vs : List Value} {k : Value → List Int} (hp : ∀ v ∈ vs, TS.TupInts s.heap v (k v)) : Cmp prog w A s (tuples' true) (fun p => p.1 ∈ vs) (lt2 fun v u => HT.lexLt (k v) (k u)) := by
  intro p q hm hm'
  show wpAny (model prog w) A (keyLt' (tuples' true) p.1 q.1) (fun r s' => s' = s ∧ r = HT.lexLt (k p.1) (k q.1)) (fun _ _ => False) s
  obtain ⟨a, xs, e, ⟨o, ho, hc, n, hd⟩, ii⟩ := hp _ hm
  obtain ⟨a', ys, e', ⟨o', ho', hc', n', hd'⟩, ii'⟩ := hp _ hm'
  rw [e, e']
  rw [e] at ii
  rw [e'] at ii'
  refine PySem.W.kat_lt ho hd ho' hd' ?_
  have z := lex_kat (prog := prog) (w := w) (A := A) (s := s) 0 (Q := fun r s' => s' = s ∧ r = HT.lexLt (k (.ref a)) (k (.ref a'))) ii ii' ⟨rfl, rfl⟩
  simp only [Array.length_toList] at z
  exact z
theorem firstsT {h : Heap} {k : Value → List Int} : ∀ {vs : List Value}, (∀ v ∈ vs, TS.TupInts h v (k v) ∧ k v ≠ []) → ∃ fs : List Value, PySem.W.KatTups h vs fs ∧ fs.length = vs.length ∧ ∀ f ∈ fs, ∃ x t, f = Value.int x t
  | [], _ => ⟨[], PySem.W.KatTups.nil, rfl, fun _ hm => by simp at hm⟩
  | v :: vs, hp => by
    obtain ⟨fs, h1, h2, h3⟩ := firstsT (vs := vs) fun v' hm => hp v' (List.mem_cons_of_mem _ hm)
    obtain ⟨⟨a, xs, e, ⟨o, ho, hc, n, hd⟩, ii⟩, hne⟩ := hp v (List.mem_cons_self ..)
    subst e
    cases hk : k (.ref a) with
    | nil => exact absurd hk hne
    | cons m ms =>
      rw [hk] at ii
      cases hx : xs.toList with
      | nil => rw [hx] at ii; cases ii
      | cons y ys =>
        rw [hx] at ii
        cases ii with
        | cons _ t r =>
          refine ⟨.int m t :: fs, PySem.W.KatTups.cons ho hc hd (by rw [← Array.getElem?_toList, hx]; rfl) h1, by rw [List.length_cons, List.length_cons, h2], fun f hm => ?_⟩
          rcases List.mem_cons.mp hm with rfl | hm
          · exact ⟨m, t, rfl⟩
          · exact h3 f hm
theorem tups_sortableO {a : Addr} {vs : List Value} {k : Value → List Int} (h0 : 0 < vs.length) (hp : ∀ v ∈ vs, TS.TupInts s.heap v (k v) ∧ k v ≠ []) (ha : ∀ o, s.heap.get? a = some o → o.cls ≠ .type "tuple") : SortableO prog w A s a vs fun v u => HT.lexLt (k v) (k u) := by
  intro h' keep
  have hp' : ∀ v ∈ vs, TS.TupInts h' v (k v) ∧ k v ≠ [] := fun v hm => ⟨(hp v hm).1.keeps fun b o e c => keep b o (fun z => by subst z; exact ha o e c) e, (hp v hm).2⟩
  obtain ⟨fs, h1, h2, h3⟩ := firstsT hp'
  refine ⟨tuples' true, fun Q E hq => ?_, tups_cmp fun v hv => (hp' v hv).1⟩
  refine PySem.W.kat_kind (T := .type "int") h1 (by omega) (fun f hm => ?_) (by rfl) ?_
  · obtain ⟨x, t, rfl⟩ := h3 f hm
    exact PySem.W.Looks.now
  · have e : (Value.type "int" != Value.type "tuple") = true := by first | decide +kernel | rfl | decide
    rw [e]
    exact hq
theorem sorted_tupsO {l : Addr} {vs : List Value} {k : Value → List Int} {Q : Value → Shared → Prop} (hl : s.heap.IsList l vs.toArray) (hz : vs.length ≤ sizeLine) (hp : ∀ v ∈ vs, TS.TupInts s.heap v (k v) ∧ k v ≠ [])
    (h : ∀ (h' : Heap) (d : Addr) (out : List Value), Srtd (fun v u => HT.lexLt (k v) (k u)) out → Stb (fun v u => HT.lexLt (k v) (k u)) out vs → (∀ b o, s.heap.get? b = some o → h'.get? b = some o) → s.heap.objs.size ≤ d → (∃ n, h'.get? d = some (seqObj "list" out.toArray n)) → Q (.ref d) { s with heap := h' }) :
    wpAny (model prog w) A (call (.builtin "sorted") [.ref l]) Q E s := by
  refine sorted_ord (lex_swo k) hl hz (fun h2 h₁ a ha kk => ?_) fun out hs hb => ?_
  · refine tups_sortableO (s := { s with heap := h₁ }) (by omega) (fun v hm => ⟨(hp v hm).1.keeps fun b o e _ => (kk b o e).2, (hp v hm).2⟩) fun o e => ?_
    have e' : some o = some (seqObj "list" vs.toArray 0) := e.symm.trans ha
    cases e'
    intro c
    exact absurd (Value.type.inj c) (by decide)
  · exact h _ _ out hs hb (fun b o e => sortedAll_old e) (Nat.le_succ _) (sortedAll_at s.heap vs out.toArray)
end
end Pd
namespace Pd
open PySem PySem.Spec PyProof.Rows L2 Evl
/-- sorted(xs), xs a list of tuples of ints, none empty -/
def rSortedU (K : PySem.W.Frag) : List V → Hp → VK → Prop := fun vs H Q => ∃ (a : Addr) (L : List (V × List Int)), vs = [V.ref a] ∧ SqL K H a (L.map (·.1)) ∧ (∀ p ∈ L, p.2 ≠ [] ∧ ∃ t, p.1 = V.ref t ∧ SqT K H t (p.2.map V.int)) ∧
  ∀ (L' : List (V × List Int)) (p : Addr), L'.Perm L → SrtO.Srtd HT.lexLt (L'.map (·.2)) → H p = none → Q (.ref p) (upd H p (.lst (L'.map (·.1))))
theorem ints_vals : ∀ {ns : List Int} {us : List Value}, Vals (ns.map V.int) us → IntsAre us ns
  | [], _, .nil => .nil
  | n :: r, _, .cons q s => by
    obtain ⟨t, rfl⟩ := q
    exact .cons n t (ints_vals s)
theorem pairs_of {h : Heap} : ∀ {L : List (V × List Int)} {its : List Value}, Vals (L.map (·.1)) its → (∀ p ∈ L, ∃ t, p.1 = V.ref t ∧ TS.TupInts h (.ref t) p.2) → L = its.map fun u => (backV u, TS.intsOf h u)
  | [], _, .nil, _ => rfl
  | p :: r, _, .cons q s, hp => by
    obtain ⟨t, e1, e2⟩ := hp p List.mem_cons_self
    have q : RelV p.1 _ := q
    rw [e1] at q
    obtain rfl := q
    rw [List.map_cons, ← pairs_of s fun x hx => hp x (List.mem_cons_of_mem _ hx), e2.ints]
    show p :: r = (V.ref t, p.2) :: r
    rw [← e1]
section
variable {X : Cx}
theorem cr_sortedU : CallR X (.builtin "sorted") (rSortedU X.K) := by
  intro pins s σ H vs us Q I r h
  obtain ⟨a, L, rfl, hs, hx, q⟩ := h
  obtain ⟨its, rv, hl, hz⟩ := I.list hs
  obtain ⟨u, rfl, ru⟩ := vals1 r
  obtain rfl : u = Value.ref a := ru
  have tp : ∀ p ∈ L, ∃ t, p.1 = V.ref t ∧ TS.TupInts s.heap (.ref t) p.2 := fun p hp => by
    obtain ⟨_, t, e, ht⟩ := hx p hp
    obtain ⟨its2, r2, tu, _⟩ := I.tuple ht
    exact ⟨t, e, t, _, rfl, tu, by simpa using ints_vals r2⟩
  have eL := pairs_of rv tp
  have tv : ∀ v ∈ its, (∃ t, v = Value.ref t) ∧ TS.TupInts s.heap v (TS.intsOf s.heap v) ∧ TS.intsOf s.heap v ≠ [] := fun v hv => by
    have hm : (backV v, TS.intsOf s.heap v) ∈ L := by rw [eL]; exact List.mem_map.mpr ⟨v, hv, rfl⟩
    obtain ⟨t, e, ti⟩ := tp _ hm
    have ne := (hx _ hm).1
    cases v with
    | ref b =>
      have : b = t := V.ref.inj e
      subst this
      exact ⟨⟨b, rfl⟩, ti, ne⟩
    | _ => cases e
  refine sorted_tupsO (k := TS.intsOf s.heap) hl.isList (by rw [← rv.length]; exact hz) (fun v hv => (tv v hv).2) fun h' d out h1 h2 kp hd hn => ?_
  obtain ⟨n, hn⟩ := hn
  have h3 : ∀ u ∈ out, ∃ a, u = Value.ref a := fun u hu => (tv u (h2.perm.mem_iff.mp hu)).1
  have e4 : (out.map fun u => (backV u, TS.intsOf s.heap u)).map (·.1) = out.map backV := by rw [List.map_map]; rfl
  have k1 : (out.map fun u => (backV u, TS.intsOf s.heap u)).Perm L := by rw [eL]; exact h2.perm.map _
  have k2 := q (out.map fun u => (backV u, TS.intsOf s.heap u)) d k1 (by
    rw [List.map_map]
    exact SrtO.srtd_map h1) (I.hok.fresh hd)
  rw [e4] at k2
  refine ⟨.ref d, upd H d (.lst (out.map backV)), I.laid (t' := s.toks) kp hd ⟨?_, out, n, vals_back h3, hn⟩, rfl, k2⟩
  rw [List.length_map, h2.perm.length_eq, ← rv.length]
  exact hz
end
/-! ### the rule -/
/-- lists of ints that are tuples, none empty -/
def tupsOf : List D → Option (List (List Int))
  | [] => some []
  | .tup xs :: r => match intsOf xs with
    | some (n :: ns) => (tupsOf r).map ((n :: ns) :: ·)
    | _ => none
  | _ => none
abbrev tupZ (ns : List Int) : D := .tup (ns.map D.int)
theorem tupsOf_ok {K : PySem.W.Frag} {mg : Str → Option Value} {w : Wd} : ∀ {xs : List D} {ns : List (List Int)} {vs : List V}, tupsOf xs = some ns → Reps K mg w xs vs → ∃ L : List (V × List Int), L.map (·.1) = vs ∧ L.map (·.2) = ns ∧ ∀ p ∈ L, p.2 ≠ [] ∧ (∃ t, p.1 = V.ref t ∧ SqT K w.G t (p.2.map V.int)) ∧ Rep K mg w (tupZ p.2) p.1
  | [], _, _, e, .nil => by cases e; exact ⟨[], rfl, rfl, fun p hp => absurd hp (by simp)⟩
  | .tup xs :: r, ns, _, e, .cons h t => by
    unfold tupsOf at e
    cases q : intsOf xs with
    | none => rw [q] at e; cases e
    | some l =>
      rw [q] at e
      cases l with
      | nil => cases e
      | cons m ms =>
        have e2 : (tupsOf r).map ((m :: ms) :: ·) = some ns := e
        cases q2 : tupsOf r with
        | none => rw [q2] at e2; cases e2
        | some ks =>
          rw [q2] at e2
          cases e2
          obtain ⟨L, l1, l2, l3⟩ := tupsOf_ok q2 t
          cases h with
          | @tup a us _ sq rs =>
            have eu := intsOf_ok q rs
            have ex := intsOf_map q
            refine ⟨(.ref a, m :: ms) :: L, by rw [List.map_cons, l1], by rw [List.map_cons, l2], fun p hp => ?_⟩
            rcases List.mem_cons.mp hp with e3 | hp
            · subst e3
              refine ⟨by simp, ⟨a, rfl, by rw [← eu]; exact sq⟩, ?_⟩
              show Rep K mg w (.tup ((m :: ms).map D.int)) (.ref a)
              rw [← ex]
              exact .tup sq rs
            · exact l3 p hp
  | .non :: _, _, _, e, _ => by cases e
  | .int _ :: _, _, _, e, _ => by cases e
  | .bl _ :: _, _, _, e, _ => by cases e
  | .str _ :: _, _, _, e, _ => by cases e
  | .lst _ :: _, _, _, e, _ => by cases e
  | .seq _ :: _, _, _, e, _ => by cases e
  | .ref _ :: _, _, _, e, _ => by cases e
  | .glo _ :: _, _, _, e, _ => by cases e
  | .ty _ :: _, _, _, e, _ => by cases e
where
  intsOf_map : ∀ {xs : List D} {ns : List Int}, intsOf xs = some ns → xs = ns.map D.int
  | [], _, e => by cases e; rfl
  | .int i :: r, ns, e => by
    unfold intsOf at e
    cases q : intsOf r with
    | none => rw [q] at e; cases e
    | some ms =>
      rw [q] at e
      cases e
      rw [intsOf_map q]
      rfl
  | .non :: _, _, e => by cases e
  | .bl _ :: _, _, e => by cases e
  | .str _ :: _, _, e => by cases e
  | .tup _ :: _, _, e => by cases e
  | .lst _ :: _, _, e => by cases e
  | .seq _ :: _, _, e => by cases e
  | .ref _ :: _, _, e => by cases e
  | .glo _ :: _, _, e => by cases e
  | .ty _ :: _, _, e => by cases e
def dSorted (a : D) (h : Ph) : R D := R.opt (lstOf a h) fun xs => match intsOf xs with
  | some ns => .ok (.lst ((sortS ltZb ns).map D.int)) h
  | none => R.opt (tupsOf xs) fun ns => .ok (.lst ((sortS HT.lexLt ns).map tupZ)) h
def rSorted (K : PySem.W.Frag) : List V → Hp → VK → Prop := fun vs H Q => rSortedI K vs H Q ∨ rSortedU K vs H Q
theorem cr_sorted {X : Cx} : CallR X (.builtin "sorted") (rSorted X.K) := cr_sortedI.or cr_sortedU
theorem reps_ints {K : PySem.W.Frag} {mg : Str → Option Value} {w : Wd} : ∀ ns : List Int, Reps K mg w (ns.map D.int) (ns.map V.int)
  | [] => .nil
  | n :: r => .cons (.int n) (reps_ints r)
theorem ci_sorted {K : PySem.W.Frag} {mg : Str → Option Value} : CallI K mg (rSorted K) (g1 dSorted) := ci_1 fun W σ w h H a x Q L ra hp => by
  unfold dSorted at hp
  obtain ⟨xs, e1, hp⟩ := Po.some hp
  obtain ⟨b, vs, rfl, hb, rs⟩ := lstOf_ok L e1 ra
  cases q : intsOf xs with
  | some ns =>
    rw [q] at hp
    have ev := intsOf_ok q rs
    refine .inl ⟨b, ns, rfl, by rw [← ev]; exact hb, fun ns' p pm pw np => ?_⟩
    have e2 : ns' = sortS ltZb ns := srtd_one ltZ_swo (fun x y h1 h2 => by have := of_decide_eq_false h1; have := of_decide_eq_false h2; omega) (pw.imp fun {x y} hxy => decide_eq_false (by omega)) (sortS_srt ltZ_swo ns) (pm.trans (sortS_perm ns).symm)
    rw [e2]
    exact Po.lst L (reps_ints _) hp np
  | none =>
    rw [q] at hp
    obtain ⟨ns, e2, hp⟩ := Po.some hp
    obtain ⟨M, m1, m2, m3⟩ := tupsOf_ok e2 rs
    refine .inr ⟨b, M, rfl, by rw [m1]; exact hb, fun p hpM => ⟨(m3 p hpM).1, by obtain ⟨t, e, sq⟩ := (m3 p hpM).2.1; exact ⟨t, e, SqT.ex L sq⟩⟩, fun M' p pm sr np => ?_⟩
    have e3 : M'.map (·.2) = sortS HT.lexLt ns := srtd_one (lex_swo id) (fun x y h1 h2 => lex_conn h1 h2) sr (sortS_srt (lex_swo id) ns) ((pm.map (·.2)).trans (by rw [m2]; exact (sortS_perm ns).symm))
    have rr : ∀ M' : List (V × List Int), (∀ p ∈ M', Rep K mg w (tupZ p.2) p.1) → Reps K mg w ((M'.map (·.2)).map tupZ) (M'.map (·.1)) := by
      intro M'
      induction M' with
      | nil => intro _; exact .nil
      | cons x r ih => intro hr; exact .cons (hr x List.mem_cons_self) (ih fun y hy => hr y (List.mem_cons_of_mem _ hy))
    rw [← e3] at hp
    exact Po.lst L (rr M' fun p hpM => (m3 p (pm.mem_iff.mp hpM)).2.2) hp np
end Pd

/-! PdC: comprehensions with two for -/
namespace Pd
open PySem L2 Evl
/-- all that the outer list makes -/
def compGo2 (g : SG) (tt : ST) (it1 : SIt) (g1 : SG) (tt1 : ST) (te : SE) (vs1 : List Nat) : List D → Pe → Ph → R (List D)
  | [], _, h => .ok [] h
  | x :: r, e0, h => (g x e0 h).bd fun e1 h1 => (tt e1 h1).bd fun b h2 => br b ((it1 e1 h2).bd fun ys h3 => (compGo g1 tt1 te ys (wipeD e1 vs1) h3).bd fun zs h4 => (compGo2 g tt it1 g1 tt1 te vs1 r e0 h4).bd fun ws h5 => .ok (zs ++ ws) h5) (compGo2 g tt it1 g1 tt1 te vs1 r e0 h2)
def finL (l : List D) (h : Ph) : R D := if l.length ≤ mostL then .ok (.lst l) h else .bad
/-- [te for g in it if tt for g1 in it1 if tt1] -/
def sLc2 (it : SIt) (g : SG) (tt : ST) (it1 : SIt) (g1 : SG) (tt1 : ST) (te : SE) (vs vs1 : List Nat) : SE := fun e h => (it e h).bind fun xs h1 => (compGo2 g tt it1 g1 tt1 te vs1 xs (wipeD e vs) h1).bd fun ys h2 => if ys.length ≤ mostL then .ok (.lst ys) h2 else .bad
section
variable {K : PySem.W.Frag} {mg : Str → Option Value} {W : WX}
theorem keepL {wa wb : Wd} {Ha Hb : Hp} {us : List V} {Dl : Addr} (s : Step wa Ha wb Hb) (k1 : Dl ∉ wa.ms) (k2 : wa.G Dl = none) (k3 : Ha Dl = some (.lst us)) : Dl ∉ wb.ms ∧ wb.G Dl = none ∧ Hb Dl = some (.lst us) :=
  ⟨fun z => (s.newM Dl z).elim k1 fun q => (by rw [k3] at q; cases q), by rw [s.newG Dl (by rw [k3]; simp) k1]; exact k2, s.frm Dl _ k3 k1⟩
/-- the new list as it stands: acc -/
structure Acc (K : PySem.W.Frag) (mg : Str → Option Value) (w1 : Wd) (H1 : Hp) (Dl : Addr) (w : Wd) (h : Ph) (H : Hp) (acc : List D) : Prop where
  stp : Step w1 H1 w H
  L : Lk K mg w h H
  nm : Dl ∉ w.ms
  ng : w.G Dl = none
  us : ∃ us, H Dl = some (.lst us) ∧ Reps K mg w acc us
theorem Acc.go {w1 w w' : Wd} {H1 H H' : Hp} {Dl : Addr} {h h' : Ph} {acc : List D} (a : Acc K mg w1 H1 Dl w h H acc) (st : Step w H w' H') (L : Lk K mg w' h' H') : Acc K mg w1 H1 Dl w' h' H' acc := by
  obtain ⟨us, e, r⟩ := a.us
  obtain ⟨b1, b2, b3⟩ := keepL st a.nm a.ng e
  exact ⟨a.stp.trans st, L, b1, b2, us, b3, r.mono st.le⟩
theorem sn_lc2 {S S1 : List Nat} {ti ti1 : L2.TI} {tg tg1 : TG} {tt tt1 : TT} {te : TE} {vs vs1 : List Nat} {it it1 : SIt} {g g1 : SG} {ft ft1 : ST} {fe : SE} (si : SnI K mg W ti it) (sg : SnG K mg S tg g) (st : SnT K mg WF tt ft) (si1 : SnI K mg WF ti1 it1) (sg1 : SnG K mg S1 tg1 g1) (st1 : SnT K mg WF tt1 ft1) (se : SnE K mg WF te fe) (hS : ∀ i ∈ S, i ∈ vs) (hS1 : ∀ i ∈ S1, i ∈ vs1) :
    SnE K mg W (tLc2 ti tg tt ti1 tg1 tt1 te vs vs1) (sLc2 it g ft it1 g1 ft1 fe vs vs1) := fun σ e w h H Q E L hp => by
  refine si σ e w h H _ E L (Po.bind (Rp := fun w xs J => ItOk K mg w J xs) hp fun xs h1 w1 H1 J _ sp1 L1 ok hp1 => ?_)
  intro Dl hD
  have E0 : En K mg w1 (wipeD e vs) (L2.wipe σ vs) := (E.mono sp1.le).wipe vs
  have hp1 : PoE K mg W σ w1 H1 ((compGo2 g ft it1 g1 ft1 fe vs1 xs (wipeD e vs) h1).bd fun ys h2 => finL ys h2) Q := hp1
  generalize hfull : ((compGo2 g ft it1 g1 ft1 fe vs1 xs (wipeD e vs) h1).bd fun ys h2 => finL ys h2) = full at hp1
  have nofull : full ≠ .bad := fun z => by rw [z] at hp1; exact hp1
  refine ⟨fun i m H => m = xs.length - i ∧ i ≤ xs.length ∧ ∃ acc w h, Acc K mg w1 H1 Dl w h H acc ∧ ((compGo2 g ft it1 g1 ft1 fe vs1 (xs.drop i) (wipeD e vs) h).bd fun ys h2 => finL (acc ++ ys) h2) = full,
    ⟨xs.length, rfl, Nat.zero_le _, [], w1, h1, ?_, hfull⟩, ?_⟩
  · have nm : Dl ∉ w1.ms := fun z => by
      obtain ⟨u, hu⟩ := L1.mem z
      rw [hD] at hu; cases hu
    exact ⟨(Step.refl w1 H1).aside hD _, L1.aside nm (fresh_back L1.ex hD) _, nm, fresh_back L1.ex hD, [], upd_same, .nil⟩
  rintro i m H ⟨rfl, hi, acc, w, h, A, hf⟩
  by_cases hlt : i < xs.length
  · have hx : xs[i]? = some xs[i] := by simp [hlt]
    obtain ⟨go, yl⟩ := ok.go w h H i xs[i] A.stp.le A.L hx
    refine .inr ⟨go, fun H' => ∃ acc w h, Acc K mg w1 H1 Dl w h H' acc ∧ ((compGo2 g ft it1 g1 ft1 fe vs1 (xs.drop (i + 1)) (wipeD e vs) h).bd fun ys h2 => finL (acc ++ ys) h2) = full, fun H' q => ⟨xs.length - (i + 1), by omega, rfl, hlt, q⟩, fun x H' y => ?_⟩
    obtain ⟨w2, st2, L2', r2⟩ := yl x H' y
    have A2 := A.go st2 L2'
    have ed : xs.drop i = xs[i] :: xs.drop (i + 1) := List.drop_eq_getElem_cons hlt
    rw [ed] at hf
    unfold compGo2 at hf
    refine sg (L2.wipe σ vs) (wipeD e vs) w2 h H' xs[i] x _ (E0.mono A2.stp.le) L2' r2 ?_
    cases q : g xs[i] (wipeD e vs) h with
    | ok e1 h3 =>
      rw [q] at hf
      intro w3 H3 σ3 sp3 L3 E3 o3
      have A3 := A2.go sp3 L3
      refine ⟨wipe_only o3 hS, st σ3 e1 w3 h3 H3 _ E3 L3 ?_⟩
      have hf : (((ft e1 h3).bd fun b h2 => br b ((it1 e1 h2).bd fun ys h3 => (compGo g1 ft1 fe ys (wipeD e1 vs1) h3).bd fun zs h4 => (compGo2 g ft it1 g1 ft1 fe vs1 (xs.drop (i + 1)) (wipeD e vs) h4).bd fun ws h5 => .ok (zs ++ ws) h5) (compGo2 g ft it1 g1 ft1 fe vs1 (xs.drop (i + 1)) (wipeD e vs) h2)).bd fun ys h2 => finL (acc ++ ys) h2) = full := hf
      cases q2 : ft e1 h3 with
      | ok b h4 =>
        rw [q2] at hf
        intro w4 H4 b' sp4 L4 rb
        cases rb
        have A4 := A3.go sp4 L4
        cases b with
        | false =>
          rw [if_neg Bool.false_ne_true]
          exact ⟨acc, w4, h4, A4, hf⟩
        | true =>
          rw [if_pos rfl]
          have hf : (((it1 e1 h4).bd fun ys h3 => (compGo g1 ft1 fe ys (wipeD e1 vs1) h3).bd fun zs h4 => (compGo2 g ft it1 g1 ft1 fe vs1 (xs.drop (i + 1)) (wipeD e vs) h4).bd fun ws h5 => .ok (zs ++ ws) h5).bd fun ys h2 => finL (acc ++ ys) h2) = full := hf
          refine si1 σ3 e1 w4 h4 H4 _ (E3.mono sp4.le) L4 ?_
          cases q3 : it1 e1 h4 with
          | ok ys h5 =>
            rw [q3] at hf
            have hf : (((compGo g1 ft1 fe ys (wipeD e1 vs1) h5).bd fun zs h4 => (compGo2 g ft it1 g1 ft1 fe vs1 (xs.drop (i + 1)) (wipeD e vs) h4).bd fun ws h5 => .ok (zs ++ ws) h5).bd fun ys h2 => finL (acc ++ ys) h2) = full := hf
            intro w5 H5 J1 sp5 L5 ok1
            have A5 := A4.go sp5 L5
            have E5 : En K mg w5 (wipeD e1 vs1) (L2.wipe σ3 vs1) := ((E3.mono sp4.le).mono sp5.le).wipe vs1
            refine ⟨fun j k H => k = ys.length - j ∧ j ≤ ys.length ∧ ∃ acc w h, Acc K mg w1 H1 Dl w h H acc ∧ Le w5 w ∧ (((compGo g1 ft1 fe (ys.drop j) (wipeD e1 vs1) h).bd fun zs h4 => (compGo2 g ft it1 g1 ft1 fe vs1 (xs.drop (i + 1)) (wipeD e vs) h4).bd fun ws h5 => .ok (zs ++ ws) h5).bd fun ys h2 => finL (acc ++ ys) h2) = full,
              ⟨ys.length, rfl, Nat.zero_le _, acc, w5, h5, A5, Le.refl _, hf⟩, ?_⟩
            rintro j k H ⟨rfl, hj, acc, w, h, A, l5, hf⟩
            by_cases hlt2 : j < ys.length
            · have hy : ys[j]? = some ys[j] := by simp [hlt2]
              obtain ⟨go1, yl1⟩ := ok1.go w h H j ys[j] l5 A.L hy
              refine .inr ⟨go1, fun H' => ∃ acc w h, Acc K mg w1 H1 Dl w h H' acc ∧ Le w5 w ∧ (((compGo g1 ft1 fe (ys.drop (j + 1)) (wipeD e1 vs1) h).bd fun zs h4 => (compGo2 g ft it1 g1 ft1 fe vs1 (xs.drop (i + 1)) (wipeD e vs) h4).bd fun ws h5 => .ok (zs ++ ws) h5).bd fun ys h2 => finL (acc ++ ys) h2) = full, fun H' q => ⟨ys.length - (j + 1), by omega, rfl, hlt2, q⟩, fun x H' y => ?_⟩
              obtain ⟨w6, st6, L6, r6⟩ := yl1 x H' y
              have A6 := A.go st6 L6
              have ed2 : ys.drop j = ys[j] :: ys.drop (j + 1) := List.drop_eq_getElem_cons hlt2
              rw [ed2] at hf
              unfold compGo at hf
              refine sg1 (L2.wipe σ3 vs1) (wipeD e1 vs1) w6 h H' ys[j] x _ (E5.mono (l5.trans st6.le)) L6 r6 ?_
              cases q4 : g1 ys[j] (wipeD e1 vs1) h with
              | ok e2 h7 =>
                rw [q4] at hf
                intro w7 H7 σ7 sp7 L7 E7 o7
                have A7 := A6.go sp7 L7
                refine ⟨wipe_only o7 hS1, st1 σ7 e2 w7 h7 H7 _ E7 L7 ?_⟩
                have hf : ((((ft1 e2 h7).bd fun b h2 => br b ((fe e2 h2).bd fun y h3 => (compGo g1 ft1 fe (ys.drop (j + 1)) (wipeD e1 vs1) h3).bd fun ys h4 => .ok (y :: ys) h4) (compGo g1 ft1 fe (ys.drop (j + 1)) (wipeD e1 vs1) h2)).bd fun zs h4 => (compGo2 g ft it1 g1 ft1 fe vs1 (xs.drop (i + 1)) (wipeD e vs) h4).bd fun ws h5 => .ok (zs ++ ws) h5).bd fun ys h2 => finL (acc ++ ys) h2) = full := hf
                cases q5 : ft1 e2 h7 with
                | ok b h8 =>
                  rw [q5] at hf
                  intro w8 H8 b' sp8 L8 rb
                  cases rb
                  have A8 := A7.go sp8 L8
                  have l8 : Le w5 w8 := ((l5.trans st6.le).trans sp7.le).trans sp8.le
                  cases b with
                  | false =>
                    rw [if_neg Bool.false_ne_true]
                    exact ⟨acc, w8, h8, A8, l8, hf⟩
                  | true =>
                    rw [if_pos rfl]
                    have hf : ((((fe e2 h8).bd fun y h3 => (compGo g1 ft1 fe (ys.drop (j + 1)) (wipeD e1 vs1) h3).bd fun ys h4 => .ok (y :: ys) h4).bd fun zs h4 => (compGo2 g ft it1 g1 ft1 fe vs1 (xs.drop (i + 1)) (wipeD e vs) h4).bd fun ws h5 => .ok (zs ++ ws) h5).bd fun ys h2 => finL (acc ++ ys) h2) = full := hf
                    refine se σ7 e2 w8 h8 H8 _ (E7.mono sp8.le) L8 ?_
                    cases q6 : fe e2 h8 with
                    | ok z h9 =>
                      rw [q6] at hf
                      have hf : (((compGo g1 ft1 fe (ys.drop (j + 1)) (wipeD e1 vs1) h9).bd fun ys h4 => R.ok (z :: ys) h4).bd fun zs h4 => (compGo2 g ft it1 g1 ft1 fe vs1 (xs.drop (i + 1)) (wipeD e vs) h4).bd fun ws h5 => .ok (zs ++ ws) h5).bd (fun ys h2 => finL (acc ++ ys) h2) = full := hf
                      intro w9 H9 yv sp9 L9 ry
                      have A9 := A8.go sp9 L9
                      obtain ⟨us, hus, racc⟩ := A9.us
                      have nxt : (((compGo g1 ft1 fe (ys.drop (j + 1)) (wipeD e1 vs1) h9).bd fun zs h4 => (compGo2 g ft it1 g1 ft1 fe vs1 (xs.drop (i + 1)) (wipeD e vs) h4).bd fun ws h5 => .ok (zs ++ ws) h5).bd fun ys h2 => finL ((acc ++ [z]) ++ ys) h2) = full := by
                        rw [← hf]
                        cases compGo g1 ft1 fe (ys.drop (j + 1)) (wipeD e1 vs1) h9 with
                        | ok zs h10 =>
                          show ((compGo2 g ft it1 g1 ft1 fe vs1 (xs.drop (i + 1)) (wipeD e vs) h10).bd fun ws h5 => R.ok (zs ++ ws) h5).bd _ = ((compGo2 g ft it1 g1 ft1 fe vs1 (xs.drop (i + 1)) (wipeD e vs) h10).bd fun ws h5 => R.ok (z :: zs ++ ws) h5).bd _
                          cases compGo2 g ft it1 g1 ft1 fe vs1 (xs.drop (i + 1)) (wipeD e vs) h10 with
                          | ok ws h11 =>
                            show finL ((acc ++ [z]) ++ (zs ++ ws)) h11 = finL (acc ++ (z :: zs ++ ws)) h11
                            rw [List.append_assoc]
                            rfl
                          | exc _ _ _ => rfl
                          | bad => rfl
                        | exc _ _ _ => rfl
                        | bad => rfl
                      have hlen : acc.length < mostL := by
                        rw [← hf] at nofull
                        cases z1 : compGo g1 ft1 fe (ys.drop (j + 1)) (wipeD e1 vs1) h9 with
                        | ok zs h10 =>
                          rw [z1] at nofull
                          have nofull : (((compGo2 g ft it1 g1 ft1 fe vs1 (xs.drop (i + 1)) (wipeD e vs) h10).bd fun ws h5 => R.ok (z :: zs ++ ws) h5).bd fun ys h2 => finL (acc ++ ys) h2) ≠ .bad := nofull
                          cases z2 : compGo2 g ft it1 g1 ft1 fe vs1 (xs.drop (i + 1)) (wipeD e vs) h10 with
                          | ok ws h11 =>
                            rw [z2] at nofull
                            have nofull : finL (acc ++ (z :: zs ++ ws)) h11 ≠ .bad := nofull
                            by_cases hl : (acc ++ (z :: zs ++ ws)).length ≤ mostL
                            · rw [List.length_append, List.length_append, List.length_cons] at hl
                              omega
                            · exact absurd (if_neg hl) nofull
                          | exc _ _ _ => rw [z2] at nofull; exact absurd rfl nofull
                          | bad => rw [z2] at nofull; exact absurd rfl nofull
                        | exc _ _ _ => rw [z1] at nofull; exact absurd rfl nofull
                        | bad => rw [z1] at nofull; exact absurd rfl nofull
                      refine ⟨us, hus, ?_, acc ++ [z], w9, h9, ⟨A9.stp.aside hD _, A9.L.aside A9.nm A9.ng _, A9.nm, A9.ng, us ++ [yv], upd_same, racc.append (.cons ry .nil)⟩, l8.trans sp9.le, nxt⟩
                      rw [← racc.length, ← mostL_eq]
                      exact hlen
                    | exc _ _ _ => rw [q6] at hf; exact absurd hf.symm nofull
                    | bad => rw [q6] at hf; exact absurd hf.symm nofull
                | exc _ _ _ => rw [q5] at hf; exact absurd hf.symm nofull
                | bad => rw [q5] at hf; exact absurd hf.symm nofull
              | exc _ _ _ => rw [q4] at hf; exact absurd hf.symm nofull
              | bad => rw [q4] at hf; exact absurd hf.symm nofull
            · have e0 : ys.drop j = [] := List.drop_eq_nil_of_le (by omega)
              rw [e0] at hf
              refine .inl ⟨ok1.stop w h H j l5 A.L (by omega), acc, w, h, A, ?_⟩
              rw [← hf]
              show _ = ((compGo2 g ft it1 g1 ft1 fe vs1 (xs.drop (i + 1)) (wipeD e vs) h).bd fun ws h5 => R.ok ([] ++ ws) h5).bd fun ys h2 => finL (acc ++ ys) h2
              cases compGo2 g ft it1 g1 ft1 fe vs1 (xs.drop (i + 1)) (wipeD e vs) h with
              | ok _ _ => rfl
              | exc _ _ _ => rfl
              | bad => rfl
          | exc _ _ _ => rw [q3] at hf; exact absurd hf.symm nofull
          | bad => rw [q3] at hf; exact absurd hf.symm nofull
      | exc _ _ _ => rw [q2] at hf; exact absurd hf.symm nofull
      | bad => rw [q2] at hf; exact absurd hf.symm nofull
    | exc _ _ _ => rw [q] at hf; exact absurd hf.symm nofull
    | bad => rw [q] at hf; exact absurd hf.symm nofull
  · have e0 : xs.drop i = [] := List.drop_eq_nil_of_le (by omega)
    rw [e0] at hf
    have hf : finL (acc ++ []) h = full := hf
    rw [List.append_nil] at hf
    have hl : acc.length ≤ mostL := by
      by_cases hl : acc.length ≤ mostL
      · exact hl
      · rw [← hf] at nofull; exact absurd (if_neg hl) nofull
    have hf : R.ok (D.lst acc) h = full := by rw [← hf]; exact (if_pos hl).symm
    rw [← hf] at hp1
    obtain ⟨us, hus, racc⟩ := A.us
    refine .inl ⟨ok.stop w h H i A.stp.le A.L (by omega), ?_⟩
    have lew : Le w ⟨w.ms, upd w.G Dl (.lst us)⟩ := ⟨⟨[], by simp⟩, Ex.new A.ng⟩
    refine hp1 ⟨w.ms, upd w.G Dl (.lst us)⟩ H _ ⟨A.stp.le.trans lew, A.stp.frm, A.stp.newM, fun a ha hm => ?_⟩ ⟨fun a u q => ?_, A.L.len, fun n a o q1 q2 => ?_, A.L.inj, fun n a o q q2 q3 => ?_⟩ (.lst upd_same (racc.mono lew))
    · show upd w.G Dl (.lst us) a = w1.G a
      rw [upd_ne (fun z => ha (by rw [z]; exact hD))]
      exact A.stp.newG a ha hm
    · by_cases z : a = Dl
      · subst z
        rw [show (⟨w.ms, upd w.G a (.lst us)⟩ : Wd).G a = some (.lst us) from upd_same] at q
        rw [hus]; exact q
      · rw [show (⟨w.ms, upd w.G Dl (.lst us)⟩ : Wd).G a = w.G a from upd_ne z] at q
        exact A.L.ex a u q
    · obtain ⟨u, hu, r⟩ := A.L.obj n a o q1 q2
      exact ⟨u, hu, r.mono lew⟩
    · show upd w.G Dl (.lst us) a = none
      rw [upd_ne (fun z => A.nm (by rw [← z]; exact List.mem_of_getElem? q))]
      exact A.L.out n a o q q2 q3
end
section
variable {ι : Type} {Z : Cz} {Y : ι → Cy} {W : WX}
theorem ei_lc2 {S S1 : List Nat} {elt tg iter tg1 iter1 : Expr} {ifs ifs1 : List Expr} {scope : Scope} {own : List (Str × Nat)} {vs1 : List Nat} {pos : Pos} {it it1 : SIt} {g g1 : SG} {ft ft1 : ST} {fe : SE} (hc : ∀ i, (Y i).calm = true) (hN : Z.N.Nodup) (hi : II Z Y W tg iter it) (ok : ∀ i, blkC Z.N (Y i).env.scope scope own = true)
    (hv : ∀ i ∈ vs1, i ∈ own.map (·.2)) (hg : GI Z (blkY Z Y scope) S tg g) (ht : TsI Z (blkY Z Y scope) WF ifs ft) (hi1 : II Z (blkY Z Y scope) WF tg1 iter1 it1) (hg1 : GI Z (blkY Z Y scope) S1 tg1 g1) (ht1 : TsI Z (blkY Z Y scope) WF ifs1 ft1) (he : EI Z (blkY Z Y scope) WF elt fe)
    (hS : ∀ i ∈ S, i ∈ own.map (·.2)) (hS1 : ∀ i ∈ S1, i ∈ vs1) (hs : ∀ i x, foldedSetIterable iter (Y i).env x = pure x := by intro _ _; rfl) (hs1 : ∀ env x, foldedSetIterable iter1 env x = pure x := by intro _ _; rfl) :
    EI Z Y W (.ListComp elt [⟨tg, iter, ifs, 0⟩, ⟨tg1, iter1, ifs1, 0⟩] scope pos) (sLc2 it g ft it1 g1 ft1 fe (own.map (·.2)) vs1) := by
  obtain ⟨ti, pi, si⟩ := hi
  obtain ⟨tg', pg, sg⟩ := hg
  obtain ⟨tt, pt, st⟩ := ht
  obtain ⟨ti1, pi1, si1⟩ := hi1
  obtain ⟨tg1', pg1, sg1⟩ := hg1
  obtain ⟨tt1, pt1, st1⟩ := ht1
  obtain ⟨te, pe, se⟩ := he
  exact ⟨_, fun i => pe_lc2 (X := cx Z (Y i)) (hc i) hN (pi i) (blkOk_by (ok i)) hv (fun s H C cl fp => pg (i, s, H, C, cl, fp)) (fun s H C cl fp => pt (i, s, H, C, cl, fp)) (fun s H C cl fp => pi1 (i, s, H, C, cl, fp)) (fun s H C cl fp => pg1 (i, s, H, C, cl, fp)) (fun s H C cl fp => pt1 (i, s, H, C, cl, fp)) (fun s H C cl fp => pe (i, s, H, C, cl, fp)) (hs i) hs1, sn_lc2 si sg st si1 sg1 st1 se hS hS1⟩
theorem si_setLc2 (j : Nat) {y : Str} {py spos : Pos} {S S1 : List Nat} {elt tg iter tg1 iter1 : Expr} {ifs ifs1 : List Expr} {scope : Scope} {own : List (Str × Nat)} {vs1 : List Nat} {pos : Pos} {it it1 : SIt} {g g1 : SG} {ft ft1 : ST} {fe : SE} (hc : ∀ i, (Y i).calm = true) (hN : Z.N.Nodup) (hy : Z.N[j]? = some y) (hyl : ∀ i, (Y i).env.scope.names.lookup y = some .local)
    (hsw : ∀ i, swapsWith (.ListComp elt [⟨tg, iter, ifs, 0⟩, ⟨tg1, iter1, ifs1, 0⟩] scope pos) (some (.Name y py)) spos.line (Y i).env = pure true)
    (hi : II Z Y W tg iter it) (ok : ∀ i, blkC Z.N (Y i).env.scope scope own = true)
    (hv : ∀ i ∈ vs1, i ∈ own.map (·.2)) (hg : GI Z (blkY Z Y scope) S tg g) (ht : TsI Z (blkY Z Y scope) WF ifs ft) (hi1 : II Z (blkY Z Y scope) WF tg1 iter1 it1) (hg1 : GI Z (blkY Z Y scope) S1 tg1 g1) (ht1 : TsI Z (blkY Z Y scope) WF ifs1 ft1) (he : EI Z (blkY Z Y scope) WF elt fe)
    (hS : ∀ i ∈ S, i ∈ own.map (·.2)) (hS1 : ∀ i ∈ S1, i ∈ vs1) (hs : ∀ i x, foldedSetIterable iter (Y i).env x = pure x := by intro _ _; rfl) (hs1 : ∀ env x, foldedSetIterable iter1 env x = pure x := by intro _ _; rfl) :
    SI Z Y W (.Assign [.Name y py] (.ListComp elt [⟨tg, iter, ifs, 0⟩, ⟨tg1, iter1, ifs1, 0⟩] scope pos) spos) (sAsg (sLc2 it g ft it1 g1 ft1 fe (own.map (·.2)) vs1) (gNm j)) := by
  obtain ⟨ti, pi, si⟩ := hi
  obtain ⟨tg', pg, sg⟩ := hg
  obtain ⟨tt, pt, st⟩ := ht
  obtain ⟨ti1, pi1, si1⟩ := hi1
  obtain ⟨tg1', pg1, sg1⟩ := hg1
  obtain ⟨tt1, pt1, st1⟩ := ht1
  obtain ⟨te, pe, se⟩ := he
  exact ⟨_, fun i => ps_setLc2 (X := cx Z (Y i)) (hc i) hN hy (hyl i) (hsw i) (pi i) (blkOk_by (ok i)) hv (fun s H C cl fp => pg (i, s, H, C, cl, fp)) (fun s H C cl fp => pt (i, s, H, C, cl, fp)) (fun s H C cl fp => pi1 (i, s, H, C, cl, fp)) (fun s H C cl fp => pg1 (i, s, H, C, cl, fp)) (fun s H C cl fp => pt1 (i, s, H, C, cl, fp)) (fun s H C cl fp => pe (i, s, H, C, cl, fp)) (hs i) hs1, sn_asg (sn_lc2 si sg st si1 sg1 st1 se hS hS1) (sn_name j)⟩
end
end Pd

/-! PdD: stars, extend, while (x := e) op f -/
namespace Pd
open PySem L2 Evl
section
variable {ι : Type} {Z : Cz} {Y : ι → Cy} {W : WX}
/-- *e, rest -/
def sStar (f : SE) (g : SA) : SA := fun e h => (f e h).bind fun a h1 => R.opt (seqOf a h1) fun xs => (g e h1).bind fun r h2 => .ok (xs ++ r) h2
theorem ai_star {a : Expr} {es : List Expr} {p : Pos} {f : SE} {g : SA} (ha : EI Z Y W a f) (hr : AI Z Y W es g) (hs : ∀ i, starEach (.Starred a p :: es) (Y i).env = (true, eval a (Y i).env) :: starEach es (Y i).env := by intro _; rfl) : AI Z Y W (.Starred a p :: es) (sStar f g) := by
  obtain ⟨ta, pa, sa⟩ := ha
  obtain ⟨tr, pr, sr⟩ := hr
  refine ⟨StX.tStar Z.K ta tr, fun i => StX.pa_star (X := cx Z (Y i)) (pa i) (pr i) (hs i), fun σ e w h H Q E L hp => sa σ e w h H _ E L (Po.bind (Rp := Rep Z.K Z.mg) hp fun a h1 w1 H1 x _ st1 L1 r1 hp1 => ?_)⟩
  obtain ⟨xs, e1, hp1⟩ := Po.some hp1
  obtain ⟨b, vs, rfl, hb, rs⟩ := seqOf_ok L1 e1 r1
  exact ⟨b, vs, rfl, hb.symm, sr σ e w1 h1 H1 _ (E.mono st1.le) L1 (Po.bind (Rp := Reps Z.K Z.mg) hp1 fun b h2 w2 H2 y _ st2 L2 r2 hp2 => Po.here L2 ((rs.mono st2.le).append r2) hp2)⟩
/-- l.extend(x) -/
def dExtend (o a : D) (h : Ph) : R D := onLst o h fun n xs => R.opt (lsOf a h) fun ys => if xs.length + ys.length ≤ mostL then .ok .non (h.set n (.lst (xs ++ ys))) else .bad
theorem ei_extend {o a : Expr} {fo fa : SE} {apos cpos : Pos} (ho : EI Z Y W o fo) (ha : EI Z Y W a fa) (hb : ∀ i, attributeBase o "extend" (Y i).env (eval o (Y i).env) = eval o (Y i).env := by intro _; rfl)
    (hfew : ∀ i, ((backTo cpos (starEach [a] (Y i).env)).all (fun x => !x.1) && (backToKw cpos (keywordEach [] (Y i).env)).all (fun x => x.1.isSome)
      && decide (([a] : List Expr).length + ([] : List Keyword).length + (if ([] : List Keyword).isEmpty then 0 else 1) < 30)) = true := by intro _; rfl)
    (hline : (apos.endLine == cpos.line) = true := by rfl) (hs : ∀ i, starEach [a] (Y i).env = (false, eval a (Y i).env) :: starEach [] (Y i).env := by intro _; rfl) (hpl : ∀ i, (backTo cpos (starEach [] (Y i).env)).any (·.1) = false := by intro _; rfl) :
    EI Z Y W (.Call (.Attribute o "extend" apos) [a] [] cpos) (sMeth1 dExtend fo fa) := by
  obtain ⟨to, po, so⟩ := ho
  obtain ⟨ta, pa, sa⟩ := ha
  refine ⟨tBM Z.K "list" rExtend to (tCons ta tNil), fun i => pe_bm (X := cx Z (Y i)) PySem.F.plainAttrs_list PySem.F.slot_list_extend PySem.F.type_list_extend mt_extend (po i) (pa_cons (pa i) pa_nil (hs i)) (hb i) (hfew i) hline (hs i) (hpl i), fun σ e w h H Q E L hp => so σ e w h H _ E L (Po.bind (Rp := Rep Z.K Z.mg) hp fun o1 h1 w1 H1 x _ st1 L1 r1 hp1 => ?_)⟩
  obtain ⟨xs, e1, hp1⟩ := Po.some hp1
  obtain ⟨a1, vs, rfl, hl, rl⟩ := lsOf_ok L1 e1 r1
  refine ⟨.inl ⟨rfl, vs, .inl (.inl hl)⟩, sa σ e w1 h1 H1 _ (E.mono st1.le) L1 (Po.bind (Rp := Rep Z.K Z.mg) hp1 fun a h2 w2 H2 y _ st2 L2 r2 hp2 => ?_)⟩
  obtain ⟨n, a2, ys, us, rfl, e2, q, k1, k2, k3, hp2⟩ := onLst_ok L2 (r1.mono st2.le) hp2
  cases e2
  obtain ⟨zs, e3, hp2⟩ := Po.some hp2
  obtain ⟨b1, ws, rfl, hb1, rw1⟩ := lsOf_ok L2 e3 r2
  obtain ⟨hlt, hp2⟩ := Po.ite hp2
  exact ⟨a1, b1, us, ws, rfl, rfl, k2, hb1, by rw [← k3.length, ← rw1.length, ← mostL_eq]; exact hlt, po_put L2 q k1 (k3.append rw1) .non hp2⟩
/-- while (x := fa) op fb: f -/
def sWhileW : Nat → Nat → (D → D → Ph → R D) → SE → SE → SS → SS
  | 0, _, _, _, _, _ => fun _ _ => .bad
  | n + 1, i, g, fa, fb, f => fun e h => (fa e h).toF e fun a h1 => (fb (e.set i (some a)) h1).toF (e.set i (some a)) fun b h2 => (g a b h2).toF (e.set i (some a)) fun z h3 => (z.tst h3).toF (e.set i (some a)) fun c h4 => br c ((f (e.set i (some a)) h4).turn fun e2 h5 => sWhileW n i g fa fb f e2 h5) (.nx (e.set i (some a)) h4)
theorem sn_whileW {K : PySem.W.Frag} {mg : Str → Option Value} {ta tb : TE} {r : R2} {i : Nat} {g : D → D → Ph → R D} {tt : TS} {fa fb : SE} {f : SS} (ho : OpI K mg r g) (sa : SnE K mg W ta fa) (sb : SnE K mg W tb fb) (sf : SnS K mg W tt f) (n : Nat) : SnS K mg W (tWhileW (wCmp r (wNm (wE ta) i) tb) tt fun D σ H => D.nx σ H) (sWhileW n i g fa fb f) := fun σ e w h H D E L hp => by
  refine ⟨fun m σ H => ∃ e w h, En K mg w e σ ∧ Lk K mg w h H ∧ PoF K mg W w H (sWhileW m i g fa fb f e h) D, ⟨n, e, w, h, E, L, hp⟩, ?_⟩
  rintro m σ H ⟨e, w, h, E, L, hp⟩
  cases m with
  | zero => exact hp.elim
  | succ m =>
    refine sa σ e w h H _ E L (Po.toF (Rp := Rep K mg) E hp fun a h1 w1 H1 v _ st1 L1 r1 hp1 => ?_)
    have E1 := (E.mono st1.le).set r1 i
    refine sb (σ.set i (some v)) (e.set i (some a)) w1 h1 H1 _ E1 L1 (Po.toF (Rp := Rep K mg) E1 hp1 fun b h2 w2 H2 u _ st2 L2 r2 hp2 => ?_)
    refine ho W (σ.set i (some v)) w2 h2 H2 a b v u _ L2 (r1.mono st2.le) r2 (Po.toF (Rp := Rep K mg) (E1.mono st2.le) hp2 fun z h3 w3 H3 zv _ st3 L3 r3 hp3 => ?_)
    cases r3 with
    | bl c =>
      have hp3 : PoF K mg W w3 H3 (br c ((f (e.set i (some a)) h3).turn fun e2 h5 => sWhileW m i g fa fb f e2 h5) (.nx (e.set i (some a)) h3)) D := hp3
      refine ⟨c, rfl, ?_⟩
      have E3 := (E1.mono st2.le).mono st3.le
      cases c with
      | true =>
        show ∃ N, _
        exact ⟨fun σ' H' => ∃ e w h, En K mg w e σ' ∧ Lk K mg w h H' ∧ PoF K mg W w H' (sWhileW m i g fa fb f e h) D, fun σ' H' ⟨e, w, h, q⟩ => ⟨m, Nat.lt_succ_self m, e, w, h, q⟩,
          sf _ _ w3 h3 H3 _ E3 L3 (PoF.turn hp3 fun e2 h2 w2 H2 σ' st2 L2 E2 hp2 => ⟨e2, w2, h2, E2, L2, hp2⟩)⟩
      | false =>
        show D.nx _ _
        exact hp3 w3 H3 _ (Step.refl _ _) L3 E3
    | _ => exact hp3.elim
theorem si_whileW (n i : Nat) {x : Str} {a b : Expr} {op : CmpOp} {r : R2} {g : D → D → Ph → R D} {body : List Stmt} {fa fb : SE} {f : SS} {p1 p2 p3 pos : Pos} (hp : ∀ i, PassesOwn (model Z.P Z.w) (Y i).A (Y i).env (Y i).xe) (hN : Z.N.Nodup) (hi : Z.N[i]? = some x) (hx : ∀ j, Loc (Y j).env.scope x) (hf : ∀ j, (Y j).fn x = true ∨ (Y j).env.scope.names.lookup x = some .local)
    (o : OpF Z Y (compareOp op) r) (ho : OpI Z.K Z.mg r g) (hm : behindInMarks op b = false) (ha : EI Z Y W a fa) (hb : EI Z Y W b fb) (hbody : BI Z Y W body f) : SI Z Y W (.While (.Compare (.NamedExpr (.Name x p1) a p2) [op] [b] p3) body [] pos) (sWhileW n i g fa fb f) := by
  obtain ⟨ta, pa, sa⟩ := ha
  obtain ⟨tb, pb, sb⟩ := hb
  obtain ⟨tt, pt, st⟩ := hbody
  exact ⟨_, fun j => ps_whileW (X := cx Z (Y j)) (hp j) (ptw_cmp (o j) (pew_named hN hi (hx j) (pew_of (pa j)) (hf j)) (pb j) hm) (pt j) pss_nil, sn_whileW ho sa sb st n⟩
end
end Pd

/-! PdE: x += y and its like -/
namespace Pd
open PySem L2 Evl
section
variable {K : PySem.W.Frag} {mg : Str → Option Value} {X : Cx}
def dIAdd (a b : D) (h : Ph) : R D := match a, b with
  | .int i, .int j => .ok (.int (i + j)) h
  | .str x, .str y => if x.length + y.length ≤ mostL then .ok (.str (x ++ y)) h else .bad
  | _, _ => .bad
def rIAdd : R2 := fun x y H Q => (rI0 (fun i j => .int (i + j)) x y H Q) ∨ (∃ i j, x = .str i ∧ y = .str j ∧ i.length + j.length ≤ sizeLine ∧ Q (.str (i ++ j)) H)
theorem iop_addAll : OpR X (inplaceOp .Add) rIAdd := iop_add.or iop_add_str
theorem oi_iadd : OpI K mg rIAdd dIAdd := by
  intro W σ w h H a b x y Q L ra rb hp
  unfold dIAdd at hp
  split at hp
  · cases ra; cases rb
    exact .inl ⟨_, _, rfl, rfl, Po.here L (.int _) hp⟩
  · cases ra; cases rb
    obtain ⟨hl, hp⟩ := Po.ite hp
    exact .inr ⟨_, _, rfl, rfl, mostL_le hl, Po.here L (.str _) hp⟩
  · exact hp.elim
def dIMul (a b : D) (h : Ph) : R D := match a, b with
  | .int i, .int j => if i.natAbs < 18446744073709551616 ∨ j.natAbs < 18446744073709551616 then .ok (.int (i * j)) h else .bad
  | _, _ => .bad
theorem oi_imul : OpI K mg (rI CMul fun i j => .int (i * j)) dIMul := by
  intro W σ w h H a b x y Q L ra rb hp
  unfold dIMul at hp
  split at hp
  · obtain ⟨hc, hp⟩ := Po.ite hp
    cases ra; cases rb
    rcases hc with hc | hc
    · exact ⟨_, _, rfl, rfl, .inl (by omega), Po.here L (.int _) hp⟩
    · exact ⟨_, _, rfl, rfl, .inr (by omega), Po.here L (.int _) hp⟩
  · exact hp.elim
def dIDiv (a b : D) (h : Ph) : R D := match a, b with
  | .int i, .int j => if 0 < j ∧ j.natAbs.log2 < 9000 then .ok (.int (i / j)) h else .bad
  | _, _ => .bad
theorem oi_idiv : OpI K mg (rI CDivW fun i j => .int (i / j)) dIDiv := by
  intro W σ w h H a b x y Q L ra rb hp
  unfold dIDiv at hp
  split at hp
  · obtain ⟨hc, hp⟩ := Po.ite hp
    cases ra; cases rb
    exact ⟨_, _, rfl, rfl, hc, Po.here L (.int _) hp⟩
  · exact hp.elim
end
theorem dIAdd_int {i j : Int} {h : Ph} : dIAdd (.int i) (.int j) h = .ok (.int (i + j)) h := rfl
theorem dIDiv_pos {i j : Int} {h : Ph} (hj : 0 < j) (hb : j.natAbs.log2 < 9000) : dIDiv (.int i) (.int j) h = .ok (.int (i / j)) h := if_pos (c := 0 < j ∧ j.natAbs.log2 < 9000) ⟨hj, hb⟩
end Pd

/-! Pdap: what each word is where it is applied -/
namespace Pd
open PySem L2 Evl
/-- said by rfl, but not for dsimp -/
theorem nr {α : Sort _} {a b : α} (q : a = b) : a = b := by subst q; exact rfl
section
variable {α β : Type} {e : Pe} {h : Ph}
/-! what comes later stands where simp does not look: the type of the other argument names it -/
def RT (k : α → Ph → R β) : Type := R α
def bnd (k : α → Ph → R β) (r : RT k) : R β := R.bind r k
theorem R.bind_bnd {r : R α} {k : α → Ph → R β} : r.bind k = bnd k r := nr rfl
theorem bnd_ok {k : α → Ph → R β} {a : α} : bnd k (R.ok a h) = k a h := nr rfl
def bdn (k : α → Ph → R β) (r : RT k) : R β := R.bd r k
theorem R.bd_bdn {r : R α} {k : α → Ph → R β} : r.bd k = bdn k r := nr rfl
theorem bdn_ok {k : α → Ph → R β} {a : α} : bdn k (R.ok a h) = k a h := nr rfl
def RF (k : α → Ph → F) : Type := R α
def tof (k : α → Ph → F) (e : Pe) (r : RF k) : F := R.toF r e k
theorem R.toF_tof {r : R α} {k : α → Ph → F} : r.toF e k = tof k e r := nr rfl
theorem tof_ok {k : α → Ph → F} {a : α} : tof k e (R.ok a h) = k a h := nr rfl
def FT (k : Pe → Ph → F) : Type := F
def sqn (k : Pe → Ph → F) (r : FT k) : F := F.seq r k
theorem F.seq_sqn {r : F} {k : Pe → Ph → F} : r.seq k = sqn k r := nr rfl
theorem sqn_nx {k : Pe → Ph → F} : sqn k (F.nx e h) = k e h := nr rfl
theorem sqn_ret {k : Pe → Ph → F} {d : D} : sqn k (F.ret d h) = F.ret d h := nr rfl
theorem sqn_cnt {k : Pe → Ph → F} : sqn k (F.cnt e h) = F.cnt e h := nr rfl
theorem sqn_brk {k : Pe → Ph → F} : sqn k (F.brk e h) = F.brk e h := nr rfl
def trn (k : Pe → Ph → F) (r : FT k) : F := F.turn r k
theorem F.turn_trn {r : F} {k : Pe → Ph → F} : r.turn k = trn k r := nr rfl
theorem trn_nx {k : Pe → Ph → F} : trn k (F.nx e h) = k e h := nr rfl
theorem trn_ret {k : Pe → Ph → F} {d : D} : trn k (F.ret d h) = F.ret d h := nr rfl
theorem trn_cnt {k : Pe → Ph → F} : trn k (F.cnt e h) = k e h := nr rfl
theorem trn_brk {k : Pe → Ph → F} : trn k (F.brk e h) = F.nx e h := nr rfl
theorem g1_ap {g : D → Ph → R D} {a : D} : g1 g [a] h = g a h := nr rfl
theorem g2_ap {g : D → D → Ph → R D} {a b : D} : g2 g [a, b] h = g a b h := nr rfl
end
theorem sVar_ap {i : Nat} {e : Pe} {h : Ph} : sVar i e h = (match e[i]? with
  | some (some d) => .ok d h
  | _ => .bad) := nr rfl
theorem sC_ap {d : D} {v0 : Pe} {h : Ph} : sC d v0 h = (.ok d h) := nr rfl
theorem sBin_ap {g : D → D → Ph → R D} {fa fb : SE} {e : Pe} {h : Ph} : sBin g fa fb e h = ((fa e h).bind fun a h1 => (fb e h1).bind fun b h2 => g a b h2) := nr rfl
theorem sNeg_ap {f : SE} {e : Pe} {h : Ph} : sNeg f e h = ((f e h).bind fun a h1 => match a with
  | .int i => .ok (.int (-i)) h1
  | _ => .bad) := nr rfl
theorem sAnd_ap {fa fb : SE} {e : Pe} {h : Ph} : sAnd fa fb e h = ((fa e h).bind fun a h1 => a.br (fb e h1) (.ok (.bl false) h1)) := nr rfl
theorem sOr_ap {fa fb : SE} {e : Pe} {h : Ph} : sOr fa fb e h = ((fa e h).bind fun a h1 => a.br (.ok (.bl true) h1) (fb e h1)) := nr rfl
theorem sNot_ap {fa : SE} {e : Pe} {h : Ph} : sNot fa e h = ((fa e h).bind fun a h1 => a.neg h1) := nr rfl
theorem sIf_ap {c : ST} {fa fb : SE} {e : Pe} {h : Ph} : sIf c fa fb e h = ((c e h).bind fun b h1 => br b (fa e h1) (fb e h1)) := nr rfl
theorem sTst_ap {f : SE} {e : Pe} {h : Ph} : sTst f e h = ((f e h).bind fun a h1 => a.tst h1) := nr rfl
theorem qAnd_ap {fa fb : ST} {e : Pe} {h : Ph} : qAnd fa fb e h = ((fa e h).bind fun a h1 => br a (fb e h1) (.ok false h1)) := nr rfl
theorem qOr_ap {fa fb : ST} {e : Pe} {h : Ph} : qOr fa fb e h = ((fa e h).bind fun a h1 => br a (.ok true h1) (fb e h1)) := nr rfl
theorem qNot_ap {fa : ST} {e : Pe} {h : Ph} : qNot fa e h = ((fa e h).bind fun a h1 => .ok (!a) h1) := nr rfl
theorem qYes_ap {v0 : Pe} {h : Ph} : qYes  v0 h = (.ok true h) := nr rfl
theorem sChain_ap {g g' : D → D → Ph → R D} {fa fb fc : SE} {e : Pe} {h : Ph} : sChain g g' fa fb fc e h = ((fa e h).bind fun a h1 => (fb e h1).bind fun b h2 => (g a b h2).bind fun z h3 => z.br ((fc e h3).bind fun c h4 => g' b c h4) (.ok (.bl false) h3)) := nr rfl
theorem sChain3_ap {g g' g'' : D → D → Ph → R D} {fa fb fc fd : SE} {e : Pe} {h : Ph} : sChain3 g g' g'' fa fb fc fd e h = ((fa e h).bind fun a h1 => (fb e h1).bind fun b h2 => (g a b h2).bind fun z h3 => z.br ((fc e h3).bind fun c h4 => (g' b c h4).bind fun z' h5 => z'.br ((fd e h5).bind fun d h6 => g'' c d h6) (.ok (.bl false) h5)) (.ok (.bl false) h3)) := nr rfl
theorem sNil_ap {v0 : Pe} {h : Ph} : sNil  v0 h = (.ok [] h) := nr rfl
theorem sCons_ap {f : SE} {g : SA} {e : Pe} {h : Ph} : sCons f g e h = ((f e h).bind fun a h1 => (g e h1).bind fun r h2 => .ok (a :: r) h2) := nr rfl
theorem sTup_ap {f : SA} {e : Pe} {h : Ph} : sTup f e h = ((f e h).bind fun xs h1 => if xs.length ≤ mostL then .ok (.tup xs) h1 else .bad) := nr rfl
theorem sLst_ap {f : SA} {e : Pe} {h : Ph} : sLst f e h = ((f e h).bind fun xs h1 => if xs.length ≤ mostL then .ok (.lst xs) h1 else .bad) := nr rfl
theorem sLstM_ap {f : SA} {e : Pe} {h : Ph} : sLstM f e h = ((f e h).bind fun xs h1 => if xs.length ≤ mostL then .ok (.ref h1.length) (h1 ++ [.lst xs]) else .bad) := nr rfl
theorem sCall_ap {g : List D → Ph → R D} {f : SA} {e : Pe} {h : Ph} : sCall g f e h = ((f e h).bind fun as h1 => g as h1) := nr rfl
theorem sFn_ap {fn : Fn} {f : SA} {e : Pe} {h : Ph} : sFn fn f e h = ((f e h).bind fun as h1 => fn as h1) := nr rfl
theorem sAsg_ap {f : SE} {g : SG} {e : Pe} {h : Ph} : sAsg f g e h = ((f e h).toF e fun x h1 => (g x e h1).toG) := nr rfl
theorem gNm_ap {i : Nat} {x : D} {e : Pe} {h : Ph} : gNm i x e h = (.ok (e.set i (some x)) h) := nr rfl
theorem gTp_ap {n : Nat} {gs : SGs} {x : D} {e : Pe} {h : Ph} : gTp n gs x e h = (match x with
  | .tup xs => if xs.length = n then gs xs e h else .bad
  | _ => .bad) := nr rfl
theorem gConsS_ap {g : SG} {gs : SGs} {xs : List D} {e : Pe} {h : Ph} : gConsS g gs xs e h = (match xs with
  | x :: r => (g x e h).bind fun e1 h1 => gs r e1 h1
  | [] => .bad) := nr rfl
theorem gNilS_ap {xs : List D} {e : Pe} {h : Ph} : gNilS  xs e h = (match xs with
  | [] => .ok e h
  | _ => .bad) := nr rfl
theorem sPar_ap {i j : Nat} {f : SA} {e : Pe} {h : Ph} : sPar i j f e h = ((f e h).toF e fun xs h1 => match xs with
  | [x, y] => .nx ((e.set i (some x)).set j (some y)) h1
  | _ => .bad) := nr rfl
theorem sPar3_ap {i j l : Nat} {f : SA} {e : Pe} {h : Ph} : sPar3 i j l f e h = ((f e h).toF e fun xs h1 => match xs with
  | [x, y, z] => .nx (((e.set i (some x)).set j (some y)).set l (some z)) h1
  | _ => .bad) := nr rfl
theorem sRet_ap {f : SE} {e : Pe} {h : Ph} : sRet f e h = ((f e h).toF e fun x h1 => .ret x h1) := nr rfl
theorem sRetN_ap {v0 : Pe} {h : Ph} : sRetN  v0 h = (.ret .non h) := nr rfl
theorem sNx_ap {e : Pe} {h : Ph} : sNx  e h = (.nx e h) := nr rfl
theorem sBrk_ap {e : Pe} {h : Ph} : sBrk  e h = (.brk e h) := nr rfl
theorem sCnt_ap {e : Pe} {h : Ph} : sCnt  e h = (.cnt e h) := nr rfl
theorem sSeq_ap {f g : SS} {e : Pe} {h : Ph} : sSeq f g e h = ((f e h).seq g) := nr rfl
theorem sIte_ap {c : ST} {f g : SS} {e : Pe} {h : Ph} : sIte c f g e h = ((c e h).toF e fun b h1 => br b (f e h1) (g e h1)) := nr rfl
theorem sDrop_ap {f : SE} {e : Pe} {h : Ph} : sDrop f e h = ((f e h).toF e fun _ h1 => .nx e h1) := nr rfl
theorem sFrz_ap {f : SE} {e : Pe} {h : Ph} : sFrz f e h = ((f e h).bind fun d h1 => .ok (frzD d h1).1 (frzD d h1).2) := nr rfl
theorem sAug_ap {i : Nat} {g : D → D → Ph → R D} {f : SE} {e : Pe} {h : Ph} : sAug i g f e h = (match e[i]? with
  | some (some a) => (f e h).toF e fun b h1 => (g a b h1).toF e fun c h2 => .nx (e.set i (some c)) h2
  | _ => .bad) := nr rfl
theorem iRange1_ap {f : SA} {e : Pe} {h : Ph} : iRange1 f e h = ((f e h).bind fun as h1 => match as with
  | [.int n] => if -(2 ^ 62) ≤ n ∧ n < 2 ^ 62 then .ok (rangeD 0 n.toNat) h1 else .bad
  | _ => .bad) := nr rfl
theorem iRange2_ap {f : SA} {e : Pe} {h : Ph} : iRange2 f e h = ((f e h).bind fun as h1 => match as with
  | [.int m, .int n] => if -(2 ^ 62) ≤ m ∧ m < 2 ^ 62 ∧ -(2 ^ 62) ≤ n ∧ n < 2 ^ 62 then .ok (rangeD m (n - m).toNat) h1 else .bad
  | _ => .bad) := nr rfl
theorem iSeq_ap {f : SE} {e : Pe} {h : Ph} : iSeq f e h = ((f e h).bind fun a h1 => match a with
  | .lst xs => .ok xs h1
  | .seq xs => .ok xs h1
  | .tup xs => .ok xs h1
  | _ => .bad) := nr rfl
theorem sFor_ap {it : SIt} {g : SG} {f : SS} {e : Pe} {h : Ph} : sFor it g f e h = ((it e h).toF e fun xs h1 => forGo g f xs e h1) := nr rfl
theorem sLc_ap {it : SIt} {g : SG} {tt : ST} {te : SE} {vs : List Nat} {e : Pe} {h : Ph} : sLc it g tt te vs e h = ((it e h).bind fun xs h1 => if xs.length ≤ mostL then (compGo g tt te xs (wipeD e vs) h1).bd fun ys h2 => .ok (.lst ys) h2 else .bad) := nr rfl
theorem sSetL_ap {f fo fi : SE} {e : Pe} {h : Ph} : sSetL f fo fi e h = ((f e h).toF e fun x h1 => (fo e h1).toF e fun o h2 => (fi e h2).toF e fun i h3 => match setIx o i x h3 with
  | .ok _ h4 => .nx e h4
  | _ => .bad) := nr rfl
theorem sMeth1_ap {g : D → D → Ph → R D} {fo : SE} {fa : SE} {e : Pe} {h : Ph} : sMeth1 g fo fa e h = ((fo e h).bind fun o h1 => R.opt (lsOf o h1) fun _ => (fa e h1).bind fun a h2 => g o a h2) := nr rfl
theorem sDict0_ap {v0 : Pe} {h : Ph} : sDict0  v0 h = (.ok (.ref h.length) (h ++ [.dK []])) := nr rfl
theorem sSl_ap {g : D → Option Int → Option Int → Ph → R D} {f : SE} {lo hi : ScO} {e : Pe} {h : Ph} : sSl g f lo hi e h = ((f e h).bind fun a h1 => (lo e h1).bind fun l h2 => (hi e h2).bind fun u h3 => g a l u h3) := nr rfl
theorem sRev_ap {f : SE} {e : Pe} {h : Ph} : sRev f e h = ((f e h).bind fun a h1 => dRev a h1) := nr rfl
theorem oNo_ap {v0 : Pe} {h : Ph} : oNo  v0 h = (.ok none h) := nr rfl
theorem oPart_ap {f : SE} {e : Pe} {h : Ph} : oPart f e h = ((f e h).bind fun a h1 => match a with
  | .int i => .ok (some i) h1
  | _ => .bad) := nr rfl
theorem iZipS_ap {f : SA} {e : Pe} {h : Ph} : iZipS f e h = ((f e h).bind fun as h1 => match as with
  | [.tup xs, .tup ys] => .ok (zipD xs ys) h1
  | [a, b] => R.opt (lq a) fun xs => R.opt (lq b) fun ys => .ok (zipD xs ys) h1
  | _ => .bad) := nr rfl
theorem runDef_ap {n : Nat} {body : SS} {as : List D} {h : Ph} : runDef n body as h = ((body (as.map some ++ List.replicate (n - as.length) none) h).end) := nr rfl
theorem sLc2_ap {it : SIt} {g : SG} {tt : ST} {it1 : SIt} {g1 : SG} {tt1 : ST} {te : SE} {vs vs1 : List Nat} {e : Pe} {h : Ph} : sLc2 it g tt it1 g1 tt1 te vs vs1 e h = ((it e h).bind fun xs h1 => (compGo2 g tt it1 g1 tt1 te vs1 xs (wipeD e vs) h1).bd fun ys h2 => if ys.length ≤ mostL then .ok (.lst ys) h2 else .bad) := nr rfl
theorem sStar_ap {f : SE} {g : SA} {e : Pe} {h : Ph} : sStar f g e h = ((f e h).bind fun a h1 => R.opt (seqOf a h1) fun xs => (g e h1).bind fun r h2 => .ok (xs ++ r) h2) := nr rfl
end Pd

/-! Pe: how meanings are reckoned -/
namespace Pd
open PySem L2 Evl
section
variable {α β : Type} {a : α} {h : Ph} {e : Pe}
theorem R.bind_ok {k : α → Ph → R β} : (R.ok a h).bind k = k a h := nr rfl
theorem R.bd_ok {k : α → Ph → R β} : (R.ok a h).bd k = k a h := nr rfl
theorem R.toF_ok {k : α → Ph → F} : (R.ok a h).toF e k = k a h := nr rfl
theorem R.toG_ok : (R.ok e h).toG = .nx e h := nr rfl
theorem F.seq_nx {k : Pe → Ph → F} : (F.nx e h).seq k = k e h := nr rfl
theorem F.seq_ret {d : D} {k : Pe → Ph → F} : (F.ret d h).seq k = .ret d h := nr rfl
theorem F.seq_cnt {k : Pe → Ph → F} : (F.cnt e h).seq k = .cnt e h := nr rfl
theorem F.seq_brk {k : Pe → Ph → F} : (F.brk e h).seq k = .brk e h := nr rfl
theorem F.end_nx : (F.nx e h).end = .ok .non h := nr rfl
theorem F.end_ret {d : D} : (F.ret d h).end = .ok d h := nr rfl
theorem F.turn_nx {k : Pe → Ph → F} : (F.nx e h).turn k = k e h := nr rfl
theorem F.turn_cnt {k : Pe → Ph → F} : (F.cnt e h).turn k = k e h := nr rfl
theorem F.turn_brk {k : Pe → Ph → F} : (F.brk e h).turn k = .nx e h := nr rfl
theorem F.turn_ret {d : D} {k : Pe → Ph → F} : (F.ret d h).turn k = .ret d h := nr rfl
theorem br_true {x y : α} : br true x y = x := nr rfl
theorem br_false {x y : α} : br false x y = y := nr rfl
theorem Dbr {b : Bool} {x y : R α} : (D.bl b).br x y = Pd.br b x y := nr rfl
theorem Dneg {b : Bool} : (D.bl b).neg h = .ok (.bl (!b)) h := nr rfl
theorem Dtst {b : Bool} : (D.bl b).tst h = .ok b h := nr rfl
/-- a branch by a proposition -/
theorem br_dec {p : Prop} [Decidable p] {x y : α} : br (decide p) x y = if p then x else y := by
  by_cases hp : p
  · rw [if_pos hp, decide_eq_true hp]; rfl
  · rw [if_neg hp, decide_eq_false hp]; rfl
theorem br_app {b : Bool} {x y : α} {f : α → β} : f (br b x y) = br b (f x) (f y) := by cases b <;> rfl
theorem br_bind {b : Bool} {x y : R α} {k : α → Ph → R β} : (br b x y).bind k = br b (x.bind k) (y.bind k) := by cases b <;> rfl
theorem br_toF {b : Bool} {x y : R α} {k : α → Ph → F} : (br b x y).toF e k = br b (x.toF e k) (y.toF e k) := by cases b <;> rfl
theorem br_seq {b : Bool} {x y : F} {k : Pe → Ph → F} : (br b x y).seq k = br b (x.seq k) (y.seq k) := by cases b <;> rfl
theorem br_end {b : Bool} {x y : F} : (br b x y).end = br b x.end y.end := by cases b <;> rfl
/-- a branch as simp likes it: the condition first -/
theorem br_ite {b : Bool} {x y : α} : br b x y = if b = true then x else y := by cases b <;> rfl
theorem it_bl {p : Prop} [Decidable p] {x y : Bool} : (if p then R.ok (D.bl x) h else R.ok (D.bl y) h) = R.ok (D.bl (if p then x else y)) h := by split <;> rfl
theorem it_okT {p : Prop} [Decidable p] {x y : Bool} : (if p then R.ok x h else R.ok y h) = R.ok (if p then x else y) h := by split <;> rfl
theorem it_tf {b : Bool} : (if b = true then true else false) = b := by cases b <;> rfl
theorem it_and {b x : Bool} : (if b = true then x else false) = (b && x) := by cases b <;> rfl
theorem it_or {b x : Bool} : (if b = true then true else x) = (b || x) := by cases b <;> rfl
/-- two truths that meet in one value -/
theorem br_bl {b x y : Bool} : br b (R.ok (D.bl x) h) (R.ok (D.bl y) h) = R.ok (D.bl (br b x y)) h := by cases b <;> rfl
theorem br_tf {b : Bool} : br b true false = b := by cases b <;> rfl
theorem br_and {b x : Bool} : br b x false = (b && x) := by cases b <;> rfl
theorem br_or {b x : Bool} : br b true x = (b || x) := by cases b <;> rfl
theorem br_okT {b x y : Bool} : br b (R.ok x h) (R.ok y h) = R.ok (br b x y) h := by cases b <;> rfl
end
/-! ### sizes -/
/-- fewer than k bits -/
structure Sm (k : Nat) (x : Int) : Prop where
  lt : x.natAbs < 2 ^ k
theorem Sm.mono {j k : Nat} {x : Int} (s : Sm j x) (h : j ≤ k) : Sm k x := ⟨Nat.lt_of_lt_of_le s.lt (Nat.pow_le_pow_right (by decide) h)⟩
theorem Sm.add {a b : Nat} {x y : Int} (s : Sm a x) (t : Sm b y) : Sm (a + b + 1) (x + y) := ⟨by
  have h1 := s.lt
  have h2 := t.lt
  have h3 : (2 : Nat) ^ a ≤ 2 ^ (a + b) := Nat.pow_le_pow_right (by decide) (by omega)
  have h4 : (2 : Nat) ^ b ≤ 2 ^ (a + b) := Nat.pow_le_pow_right (by decide) (by omega)
  have h5 : (2 : Nat) ^ (a + b + 1) = 2 * 2 ^ (a + b) := by rw [Nat.pow_succ]; omega
  omega⟩
theorem Sm.sub {a b : Nat} {x y : Int} (s : Sm a x) (t : Sm b y) : Sm (a + b + 1) (x - y) := ⟨by
  have h1 := s.lt
  have h2 := t.lt
  have h3 : (2 : Nat) ^ a ≤ 2 ^ (a + b) := Nat.pow_le_pow_right (by decide) (by omega)
  have h4 : (2 : Nat) ^ b ≤ 2 ^ (a + b) := Nat.pow_le_pow_right (by decide) (by omega)
  have h5 : (2 : Nat) ^ (a + b + 1) = 2 * 2 ^ (a + b) := by rw [Nat.pow_succ]; omega
  omega⟩
theorem Sm.neg {a : Nat} {x : Int} (s : Sm a x) : Sm a (-x) := ⟨by rw [Int.natAbs_neg]; exact s.lt⟩
theorem Sm.mul {a b : Nat} {x y : Int} (s : Sm a x) (t : Sm b y) : Sm (a + b) (x * y) := ⟨by
  rw [Int.natAbs_mul, Nat.pow_add]
  exact Nat.mul_lt_mul'' s.lt t.lt⟩
theorem log_lt {x k : Nat} (h : x < 2 ^ k) : x.log2 ≤ k := by
  by_cases h0 : x = 0
  · subst h0; simp
  · exact Nat.le_of_lt ((Nat.log2_lt h0).mpr h)
/-- a number as it is written -/
theorem Sm.lit {n : Nat} : Sm (n.log2 + 1) (@OfNat.ofNat Int n (@instOfNat n)) := ⟨by
  show ((n : Nat) : Int).natAbs < 2 ^ (n.log2 + 1)
  exact Nat.lt_log2_self⟩
theorem Sm.mod {a : Nat} {x y : Int} (h : 0 < y) (t : Sm a y) : Sm a (x % y) := ⟨by
  have h1 := t.lt
  have h2 := Int.emod_nonneg x (Int.ne_of_gt h)
  have h3 := Int.emod_lt_of_pos x h
  omega⟩
theorem Sm.of_bounds {a : Nat} {x : Int} (h1 : -(2 ^ a : Nat) < x) (h2 : x < (2 ^ a : Nat)) : Sm a x := ⟨by omega⟩
/-- a product that may be reckoned -/
def CM (i j : Int) : Prop := i.natAbs < 18446744073709551616 ∨ j.natAbs < 18446744073709551616 ∨ i.natAbs.log2 + j.natAbs.log2 < 1000000
theorem CM.of {i j : Int} {a b : Nat} (s : Sm a i) (t : Sm b j) (h : a + b < 1000000) : CM i j := by
  have h1 := log_lt s.lt
  have h2 := log_lt t.lt
  exact .inr (.inr (by omega))
theorem CM.left {i j : Int} (h : i.natAbs < 18446744073709551616) : CM i j := .inl h
theorem CM.right {i j : Int} (h : j.natAbs < 18446744073709551616) : CM i j := .inr (.inl h)
theorem dMul_cm {i j : Int} {h : Ph} (hs : CM i j) : dMul (.int i) (.int j) h = .ok (.int (i * j)) h := if_pos (c := i.natAbs < 18446744073709551616 ∨ j.natAbs < 18446744073709551616 ∨ i.natAbs.log2 + j.natAbs.log2 < 1000000) hs
theorem dAdd_int {i j : Int} {h : Ph} : dAdd (.int i) (.int j) h = .ok (.int (i + j)) h := rfl
theorem dSub_int {i j : Int} {h : Ph} : dSub (.int i) (.int j) h = .ok (.int (i - j)) h := rfl
theorem dLt_int {i j : Int} {h : Ph} : dLt (.int i) (.int j) h = .ok (.bl (decide (i < j))) h := rfl
theorem dLe_int {i j : Int} {h : Ph} : dLe (.int i) (.int j) h = .ok (.bl (decide (i ≤ j))) h := rfl
theorem dGt_int {i j : Int} {h : Ph} : dGt (.int i) (.int j) h = .ok (.bl (decide (j < i))) h := rfl
theorem dGe_int {i j : Int} {h : Ph} : dGe (.int i) (.int j) h = .ok (.bl (decide (j ≤ i))) h := rfl
theorem dMod_pos {i j : Int} {h : Ph} (hj : 0 < j) : dMod (.int i) (.int j) h = .ok (.int (i % j)) h := by
  show (if 0 < j then _ else _) = _
  rw [if_pos hj]
theorem dDiv_pos {i j : Int} {h : Ph} (hj : 0 < j) (hb : j.natAbs.log2 < 9000) : dDiv (.int i) (.int j) h = .ok (.int (i / j)) h := by
  show (if 0 < j then (if j.natAbs.log2 < 9000 then _ else _) else _) = _
  rw [if_pos hj, if_pos hb]
theorem shaped_int {i : Int} : SeqAt.shaped (.int i) = true := rfl
theorem shaped_bool {i : Bool} : SeqAt.shaped (.bool i) = true := rfl
theorem dEq_int {i j : Int} {h : Ph} : dEq (.int i) (.int j) h = .ok (.bl (i == j)) h := rfl
theorem dNe_int {i j : Int} {h : Ph} : dNe (.int i) (.int j) h = .ok (.bl (!(i == j))) h := rfl
theorem dEq_bl {i j : Bool} {h : Ph} : dEq (.bl i) (.bl j) h = .ok (.bl (i == j)) h := rfl
theorem dNe_bl {i j : Bool} {h : Ph} : dNe (.bl i) (.bl j) h = .ok (.bl (!(i == j))) h := rfl
theorem dNe_non {i : D} {h : Ph} : dIs i .non h = .ok (.bl i.isNon) h := rfl
theorem sVar_at {i : Nat} {d : D} {e : Pe} {h : Ph} (he : e[i]? = some (some d)) : sVar i e h = .ok d h := by
  unfold sVar
  rw [he]
theorem opt_some {α γ : Type} (x : γ) (f : γ → R α) : R.opt (some x) f = f x := rfl
theorem dAbs_int {i : Int} {h : Ph} : dAbs (.int i) h = .ok (.int (if i < 0 then -i else i)) h := nr rfl
theorem dMax2_int {i j : Int} {h : Ph} : dMax2 (.int i) (.int j) h = .ok (.int (if j > i then j else i)) h := nr rfl
theorem dMin2_int {i j : Int} {h : Ph} : dMin2 (.int i) (.int j) h = .ok (.int (if j < i then j else i)) h := nr rfl
theorem dInt_int {i : Int} {h : Ph} : dInt (.int i) h = .ok (.int i) h := nr rfl
theorem dInt_bl {i : Bool} {h : Ph} : dInt (.bl i) h = .ok (.int (if i then 1 else 0)) h := nr rfl
end Pd

/-! Pl: the helpers that the laws have in common -/
namespace Pd
open PySem L2 Evl
local macro_rules | `(tactic| walk_at "sm") => `(tactic| first | assumption | exact Sm.lit | exact Sm.mul (by walk_at "sm") (by walk_at "sm") | exact Sm.add (by walk_at "sm") (by walk_at "sm") | exact Sm.sub (by walk_at "sm") (by walk_at "sm") | exact Sm.neg (by walk_at "sm"))
local macro_rules | `(tactic| walk_at "cm") => `(tactic| ((with_reducible show CM _ _); first | assumption | exact CM.left (by decide) | exact CM.right (by decide) | exact CM.left (by omega) | exact CM.right (by omega) | exact CM.of (by walk_at "sm") (by walk_at "sm") (by decide)))
theorem mostL_def : mostL = 16777216 := rfl
theorem dIx_tup {xs : List D} {i : Int} {h : Ph} : dIx (.tup xs) (.int i) h = R.opt (atI xs i) fun v => .ok v h := rfl
theorem dIx_lst {xs : List D} {i : Int} {h : Ph} : dIx (.lst xs) (.int i) h = R.opt (atI xs i) fun v => .ok v h := rfl
theorem dIx_seq {xs : List D} {i : Int} {h : Ph} : dIx (.seq xs) (.int i) h = R.opt (atI xs i) fun v => .ok v h := rfl
theorem dIx_ref {xs : List D} {i : Int} {n : Nat} {h : Ph} (e : h[n]? = some (.lst xs)) : dIx (.ref n) (.int i) h = R.opt (atI xs i) fun v => .ok v h := by
  show R.opt (lstOf (.ref n) h) _ = _
  unfold lstOf
  simp only [e]
  rfl
theorem dLen_tup {xs : List D} {h : Ph} : dLen (.tup xs) h = .ok (.int xs.length) h := rfl
theorem dLen_lst {xs : List D} {h : Ph} : dLen (.lst xs) h = .ok (.int xs.length) h := rfl
theorem dLen_seq {xs : List D} {h : Ph} : dLen (.seq xs) h = .ok (.int xs.length) h := rfl
theorem atI_k {α : Type} {xs : List α} {v : α} (k : Nat) (e : xs[k]? = some v) : atI xs (k : Int) = some v := atI_nat e
theorem atI_0 {α : Type} {a : α} {r : List α} : atI (a :: r) 0 = some a := atI_nat (j := 0) rfl
theorem atI_1 {α : Type} {a b : α} {r : List α} : atI (a :: b :: r) 1 = some b := atI_nat (j := 1) rfl
theorem atI_2 {α : Type} {a b c : α} {r : List α} : atI (a :: b :: c :: r) 2 = some c := atI_nat (j := 2) rfl
theorem atI_3 {α : Type} {a b c d : α} {r : List α} : atI (a :: b :: c :: d :: r) 3 = some d := atI_nat (j := 3) rfl
theorem setIx_ref {xs : List D} {i : Int} {j : Nat} {n : Nat} {h : Ph} {x : D} (e : h[n]? = some (.lst xs)) (hj : ixN xs.length i = some j) : setIx (.ref n) (.int i) x h = .ok () (h.set n (.lst (xs.set j x))) := by
  unfold setIx
  simp only [e, hj]
/-! ### dice -/
def f__law_dice : Fn := runDef 4 (sSeq (sAsg (sIf (sTst (sBin dLt (sVar 1) (sCall (g1 dLen) (sCons (sVar 0) (sNil))))) (sCall (g1 dInt) (sCons (sBin dIx (sVar 0) (sVar 1)) (sNil))) (sBin dAdd (sBin dMul (sC (.int 71)) (sVar 1)) (sC (.int 23)))) (gNm 2)) (sSeq (sAsg (sBin dMod (sCall (g2 dMax2) (sCons (sC (.int 0)) (sCons (sBin dSub (sCall (g1 dAbs) (sCons (sVar 2) (sNil))) (sC (.int (100000000000000000)))) (sNil)))) (sC (.int (100000000000000000000000000000000000000000000000000000000000000000000000000000000000000000000000000000000000000000000000)))) (gNm 3)) (sRet (sLstM (sCons (sVar 3) (sCons (sBin dAdd (sBin dAdd (sBin dAdd (sBin dMul (sBin dMod (sCall (g1 dAbs) (sCons (sVar 2) (sNil))) (sC (.int 1152921504606846883))) (sC (.int 61))) (sBin dMul (sC (.int 877)) (sVar 1))) (sBin dMul (sC (.int 37)) (sCall (g1 dInt) (sCons (sBin dLt (sVar 2) (sC (.int 0))) (sNil))))) (sC (.int 5))) (sCons (sC (.int 0)) (sNil))))))))
def f__law_roll : Fn := runDef 5 (sSeq (sIte (sTst (sBin dGt (sBin dIx (sVar 0) (sC (.int 0))) (sC (.int 0)))) (sSeq (sAsg (sBin dMod (sCall (g1 dInt) (sCons (sBin dIx (sVar 0) (sC (.int 0))) (sNil))) (sVar 1)) (gNm 4)) (sSeq (sSetL (sBin dDiv (sBin dIx (sVar 0) (sC (.int 0))) (sVar 1)) (sVar 0) (sC (.int 0))) (sRet (sVar 4)))) (sNx)) (sSeq (sSetL (sBin dAdd (sBin dIx (sVar 0) (sC (.int 2))) (sC (.int 1))) (sVar 0) (sC (.int 2))) (sSeq (sAsg (sBin dMod (sCall (g1 dInt) (sCons (sBin dAdd (sBin dIx (sVar 0) (sC (.int 1))) (sBin dMul (sC (.int 49979687)) (sBin dIx (sVar 0) (sC (.int 2))))) (sNil))) (sC (.int 2305843009213693921))) (gNm 2)) (sSeq (sAsg (sBin dAdd (sBin dMul (sBin dMod (sCall (g1 dInt) (sCons (sBin dAdd (sBin dMul (sVar 2) (sVar 2)) (sBin dMul (sC (.int 131)) (sBin dIx (sVar 0) (sC (.int 2))))) (sNil))) (sC (.int 2305843009213693907))) (sC (.int 7778777))) (sVar 2)) (gNm 3)) (sRet (sBin dMod (sCall (g1 dInt) (sCons (sBin dDiv (sVar 3) (sC (.int 131072))) (sNil))) (sVar 1)))))))
def f__law_pick : Fn := runDef 2 (sRet (sBin dIx (sVar 1) (sFn f__law_roll (sCons (sVar 0) (sCons (sCall (g1 dLen) (sCons (sVar 1) (sNil))) (sNil))))))
def f__law_gcd : Fn := runDef 2 (sSeq (sPar 0 1 (sCons (sCall (g1 dAbs) (sCons (sVar 0) (sNil))) (sCons (sCall (g1 dAbs) (sCons (sVar 1) (sNil))) (sNil)))) (sSeq (sWhile FU (sTst (sBin dGt (sVar 1) (sC (.int 0)))) (sPar 0 1 (sCons (sVar 1) (sCons (sBin dMod (sCall (g1 dInt) (sCons (sVar 0) (sNil))) (sVar 1)) (sNil))))) (sRet (sVar 0))))
/-- the dice at n -/
def Dc (h : Ph) (n : Nat) : Prop := ∃ l m t : Int, h[n]? = some (.lst [.int l, .int m, .int t])
/-- only the dice have been used, and new things made -/
structure Dr (n : Nat) (h h' : Ph) : Prop where
  dc : Dc h' n
  len : h.length ≤ h'.length
  keep : ∀ k, k ≠ n → k < h.length → h'[k]? = h[k]?
theorem Dr.refl {n : Nat} {h : Ph} (d : Dc h n) : Dr n h h := ⟨d, Nat.le_refl _, fun _ _ _ => rfl⟩
theorem Dr.trans {n : Nat} {h h1 h2 : Ph} (a : Dr n h h1) (b : Dr n h1 h2) : Dr n h h2 := ⟨b.dc, Nat.le_trans a.len b.len, fun k hk hl => (b.keep k hk (Nat.lt_of_lt_of_le hl a.len)).trans (a.keep k hk hl)⟩
theorem Dr.push {n : Nat} {h h1 : Ph} (a : Dr n h h1) (o : PO) : Dr n h (h1 ++ [o]) := by
  refine ⟨?_, by rw [List.length_append]; have := a.len; omega, fun k hk hl => ?_⟩
  · obtain ⟨l, m, t, e⟩ := a.dc
    exact ⟨l, m, t, by rw [List.getElem?_append_left (List.getElem?_eq_some_iff.mp e).1]; exact e⟩
  · rw [List.getElem?_append_left (Nat.lt_of_lt_of_le hl a.len)]
    exact a.keep k hk hl
theorem Dr.set {n : Nat} {h : Ph} {l m t : Int} (hn : n < h.length) : Dr n h (h.set n (.lst [.int l, .int m, .int t])) :=
  ⟨⟨l, m, t, List.getElem?_set_self hn⟩, by rw [List.length_set]; exact Nat.le_refl _, fun k hk _ => List.getElem?_set_ne (Ne.symm hk)⟩
theorem dice_tail (d : D) (k c : Int) (h : Ph) : ∃ l m, (sSeq (sAsg (sBin dMod (sCall (g2 dMax2) (sCons (sC (.int 0)) (sCons (sBin dSub (sCall (g1 dAbs) (sCons (sVar 2) (sNil))) (sC (.int (100000000000000000)))) (sNil)))) (sC (.int (100000000000000000000000000000000000000000000000000000000000000000000000000000000000000000000000000000000000000000000000)))) (gNm 3)) (sRet (sLstM (sCons (sVar 3) (sCons (sBin dAdd (sBin dAdd (sBin dAdd (sBin dMul (sBin dMod (sCall (g1 dAbs) (sCons (sVar 2) (sNil))) (sC (.int 1152921504606846883))) (sC (.int 61))) (sBin dMul (sC (.int 877)) (sVar 1))) (sBin dMul (sC (.int 37)) (sCall (g1 dInt) (sCons (sBin dLt (sVar 2) (sC (.int 0))) (sNil))))) (sC (.int 5))) (sCons (sC (.int 0)) (sNil))))))) [some d, some (.int k), some (.int c), none] h = .ret (.ref h.length) (h ++ [.lst [.int l, .int m, .int 0]]) := by
  apply Exists.intro
  apply Exists.intro
  simp (maxSteps := 4000000) (dsimp := false) (disch := first | assumption | decide | omega | walk_at "cm") only [runDef_ap, sVar_ap, sC_ap, sBin_ap, sNeg_ap, sAnd_ap, sOr_ap, sNot_ap, sIf_ap, sTst_ap, qAnd_ap, qOr_ap, qNot_ap, qYes_ap, sChain_ap, sChain3_ap, sNil_ap, sCons_ap, sTup_ap, sLst_ap, sLstM_ap, sCall_ap, g1_ap, g2_ap, sFn_ap, sAsg_ap, gNm_ap, gTp_ap, gConsS_ap, gNilS_ap, sPar_ap, sPar3_ap, sRet_ap, sRetN_ap, sNx_ap, sBrk_ap, sCnt_ap, sSeq_ap, sIte_ap, sDrop_ap, sFrz_ap, sAug_ap, iRange1_ap, iRange2_ap, iSeq_ap, sFor_ap, sLc_ap, R.toG_ok, ↓R.bind_bnd, bnd_ok, ↓R.bd_bdn, bdn_ok, ↓R.toF_tof, tof_ok, ↓F.seq_sqn, sqn_nx, sqn_ret, sqn_cnt, sqn_brk, ↓F.turn_trn, trn_nx, trn_ret, trn_cnt, trn_brk, F.end_nx, F.end_ret, ↓br_true, br_true, ↓br_false, br_false, Dbr, Dneg, Dtst, opt_some, dAdd_int, dIAdd_int, dSub_int, dLt_int, dLe_int, dGt_int, dGe_int, dEq_int, dNe_int, dEq_bl, dNe_bl, dMul_cm, dMod_pos, dDiv_pos, dAbs_int, dMax2_int, dMin2_int, dInt_int, dInt_bl, dIx_tup, dIx_lst, dIx_seq, dLen_tup, dLen_lst, dLen_seq, atI_0, atI_1, atI_2, atI_3, List.map_cons, List.map_nil, List.length_cons, List.length_nil, List.replicate_succ, List.replicate_zero, List.cons_append, List.nil_append, List.getElem?_cons_zero, List.getElem?_cons_succ, List.set_cons_zero, List.set_cons_succ, Nat.reduceAdd, Nat.reduceSub, Nat.zero_add, Nat.add_zero, Nat.sub_self, Nat.reduceMul, mostL_def, Nat.reduceLeDiff, Nat.reduceLT, ite_true, ite_false, if_true, if_false, ↓reduceIte, reduceIte, ↓br_ite, Bool.false_eq_true, reduceCtorEq, Bool.not_true, Bool.not_false, decide_true, decide_false, Int.cast_ofNat_Int, Int.reduceBEq, Int.reduceAdd, Int.reduceSub, Int.reduceMul, Int.reduceNeg, Int.reduceLT, Int.reduceLE, Int.reduceMod, Int.reduceDiv, sMeth1_ap, sSl_ap, sRev_ap, oNo_ap, oPart_ap, sDict0_ap, sSetL_ap, sLc2_ap, sStar_ap]
  rfl
theorem dice_ok (ns : List Int) (k : Int) (hk : 0 ≤ k) (h : Ph) : ∃ l m, f__law_dice [.seq (ns.map D.int), .int k] h = .ok (.ref h.length) (h ++ [.lst [.int l, .int m, .int 0]]) := by
  have hc : ∃ c : Int, (sIf (sTst (sBin dLt (sVar 1) (sCall (g1 dLen) (sCons (sVar 0) (sNil))))) (sCall (g1 dInt) (sCons (sBin dIx (sVar 0) (sVar 1)) (sNil))) (sBin dAdd (sBin dMul (sC (.int 71)) (sVar 1)) (sC (.int 23)))) [some (.seq (ns.map D.int)), some (.int k), none, none] h = .ok (.int c) h := by
    obtain ⟨j, rfl⟩ := Int.eq_ofNat_of_zero_le hk
    by_cases hj : j < ns.length
    · have e : atI (ns.map D.int) (j : Int) = some (.int ns[j]) := atI_nat (by rw [List.getElem?_map]; simp [hj])
      have hlt : decide ((j : Int) < ((ns.map D.int).length : Int)) = true := decide_eq_true (by rw [List.length_map]; omega)
      refine ⟨ns[j], ?_⟩
      simp (maxSteps := 4000000) (dsimp := false) (disch := first | assumption | decide | omega | walk_at "cm") only [runDef_ap, sVar_ap, sC_ap, sBin_ap, sNeg_ap, sAnd_ap, sOr_ap, sNot_ap, sIf_ap, sTst_ap, qAnd_ap, qOr_ap, qNot_ap, qYes_ap, sChain_ap, sChain3_ap, sNil_ap, sCons_ap, sTup_ap, sLst_ap, sLstM_ap, sCall_ap, g1_ap, g2_ap, sFn_ap, sAsg_ap, gNm_ap, gTp_ap, gConsS_ap, gNilS_ap, sPar_ap, sPar3_ap, sRet_ap, sRetN_ap, sNx_ap, sBrk_ap, sCnt_ap, sSeq_ap, sIte_ap, sDrop_ap, sFrz_ap, sAug_ap, iRange1_ap, iRange2_ap, iSeq_ap, sFor_ap, sLc_ap, R.toG_ok, ↓R.bind_bnd, bnd_ok, ↓R.bd_bdn, bdn_ok, ↓R.toF_tof, tof_ok, ↓F.seq_sqn, sqn_nx, sqn_ret, sqn_cnt, sqn_brk, ↓F.turn_trn, trn_nx, trn_ret, trn_cnt, trn_brk, F.end_nx, F.end_ret, ↓br_true, br_true, ↓br_false, br_false, Dbr, Dneg, Dtst, opt_some, dAdd_int, dIAdd_int, dSub_int, dLt_int, dLe_int, dGt_int, dGe_int, dEq_int, dNe_int, dEq_bl, dNe_bl, dMul_cm, dMod_pos, dDiv_pos, dAbs_int, dMax2_int, dMin2_int, dInt_int, dInt_bl, dIx_tup, dIx_lst, dIx_seq, dLen_tup, dLen_lst, dLen_seq, atI_0, atI_1, atI_2, atI_3, List.map_cons, List.map_nil, List.length_cons, List.length_nil, List.replicate_succ, List.replicate_zero, List.cons_append, List.nil_append, List.getElem?_cons_zero, List.getElem?_cons_succ, List.set_cons_zero, List.set_cons_succ, Nat.reduceAdd, Nat.reduceSub, Nat.zero_add, Nat.add_zero, Nat.sub_self, Nat.reduceMul, mostL_def, Nat.reduceLeDiff, Nat.reduceLT, ite_true, ite_false, if_true, if_false, ↓reduceIte, reduceIte, ↓br_ite, Bool.false_eq_true, reduceCtorEq, Bool.not_true, Bool.not_false, decide_true, decide_false, Int.cast_ofNat_Int, Int.reduceBEq, Int.reduceAdd, Int.reduceSub, Int.reduceMul, Int.reduceNeg, Int.reduceLT, Int.reduceLE, Int.reduceMod, Int.reduceDiv, sMeth1_ap, sSl_ap, sRev_ap, oNo_ap, oPart_ap, sDict0_ap, sSetL_ap, sLc2_ap, sStar_ap, hlt, e]
    · have hlt : decide ((j : Int) < ((ns.map D.int).length : Int)) = false := decide_eq_false (by rw [List.length_map]; omega)
      refine ⟨71 * (j : Int) + 23, ?_⟩
      simp (maxSteps := 4000000) (dsimp := false) (disch := first | assumption | decide | omega | walk_at "cm") only [runDef_ap, sVar_ap, sC_ap, sBin_ap, sNeg_ap, sAnd_ap, sOr_ap, sNot_ap, sIf_ap, sTst_ap, qAnd_ap, qOr_ap, qNot_ap, qYes_ap, sChain_ap, sChain3_ap, sNil_ap, sCons_ap, sTup_ap, sLst_ap, sLstM_ap, sCall_ap, g1_ap, g2_ap, sFn_ap, sAsg_ap, gNm_ap, gTp_ap, gConsS_ap, gNilS_ap, sPar_ap, sPar3_ap, sRet_ap, sRetN_ap, sNx_ap, sBrk_ap, sCnt_ap, sSeq_ap, sIte_ap, sDrop_ap, sFrz_ap, sAug_ap, iRange1_ap, iRange2_ap, iSeq_ap, sFor_ap, sLc_ap, R.toG_ok, ↓R.bind_bnd, bnd_ok, ↓R.bd_bdn, bdn_ok, ↓R.toF_tof, tof_ok, ↓F.seq_sqn, sqn_nx, sqn_ret, sqn_cnt, sqn_brk, ↓F.turn_trn, trn_nx, trn_ret, trn_cnt, trn_brk, F.end_nx, F.end_ret, ↓br_true, br_true, ↓br_false, br_false, Dbr, Dneg, Dtst, opt_some, dAdd_int, dIAdd_int, dSub_int, dLt_int, dLe_int, dGt_int, dGe_int, dEq_int, dNe_int, dEq_bl, dNe_bl, dMul_cm, dMod_pos, dDiv_pos, dAbs_int, dMax2_int, dMin2_int, dInt_int, dInt_bl, dIx_tup, dIx_lst, dIx_seq, dLen_tup, dLen_lst, dLen_seq, atI_0, atI_1, atI_2, atI_3, List.map_cons, List.map_nil, List.length_cons, List.length_nil, List.replicate_succ, List.replicate_zero, List.cons_append, List.nil_append, List.getElem?_cons_zero, List.getElem?_cons_succ, List.set_cons_zero, List.set_cons_succ, Nat.reduceAdd, Nat.reduceSub, Nat.zero_add, Nat.add_zero, Nat.sub_self, Nat.reduceMul, mostL_def, Nat.reduceLeDiff, Nat.reduceLT, ite_true, ite_false, if_true, if_false, ↓reduceIte, reduceIte, ↓br_ite, Bool.false_eq_true, reduceCtorEq, Bool.not_true, Bool.not_false, decide_true, decide_false, Int.cast_ofNat_Int, Int.reduceBEq, Int.reduceAdd, Int.reduceSub, Int.reduceMul, Int.reduceNeg, Int.reduceLT, Int.reduceLE, Int.reduceMod, Int.reduceDiv, sMeth1_ap, sSl_ap, sRev_ap, oNo_ap, oPart_ap, sDict0_ap, sSetL_ap, sLc2_ap, sStar_ap, hlt]
  obtain ⟨c, hc⟩ := hc
  obtain ⟨l, m, ht⟩ := dice_tail (.seq (ns.map D.int)) k c h
  refine ⟨l, m, ?_⟩
  unfold f__law_dice runDef
  rw [sSeq, sAsg]
  show F.end (F.seq (R.toF (sIf _ _ _ [some (.seq (ns.map D.int)), some (.int k), none, none] h) _ _) _) = _
  rw [hc]
  exact congrArg F.end ht
theorem log_nat {x : Int} {k : Nat} (h : x.natAbs < 2 ^ k) : x.natAbs.log2 ≤ k := log_lt h
theorem roll_ok {h : Ph} {n : Nat} {T : Int} (hd : Dc h n) (hT : 0 < T) (hb : T.natAbs.log2 < 9000) : ∃ v h', f__law_roll [.ref n, .int T] h = .ok (.int v) h' ∧ 0 ≤ v ∧ v < T ∧ Dr n h h' := by
  obtain ⟨l, m, t, e⟩ := hd
  have hn : n < h.length := (List.getElem?_eq_some_iff.mp e).1
  have q := fun i => dIx_ref (i := i) e
  by_cases hl : 0 < l
  · refine ⟨l % T, h.set n (.lst [.int (l / T), .int m, .int t]), ?_, Int.emod_nonneg _ (Int.ne_of_gt hT), Int.emod_lt_of_pos _ hT, Dr.set hn⟩
    have hs : ∀ x, setIx (.ref n) (.int 0) x h = .ok () (h.set n (.lst [x, .int m, .int t])) := fun x => setIx_ref (j := 0) e rfl
    have hl' : decide (0 < l) = true := decide_eq_true hl
    unfold f__law_roll
    simp (maxSteps := 4000000) (dsimp := false) (disch := first | assumption | decide | omega | walk_at "cm") only [runDef_ap, sVar_ap, sC_ap, sBin_ap, sNeg_ap, sAnd_ap, sOr_ap, sNot_ap, sIf_ap, sTst_ap, qAnd_ap, qOr_ap, qNot_ap, qYes_ap, sChain_ap, sChain3_ap, sNil_ap, sCons_ap, sTup_ap, sLst_ap, sLstM_ap, sCall_ap, g1_ap, g2_ap, sFn_ap, sAsg_ap, gNm_ap, gTp_ap, gConsS_ap, gNilS_ap, sPar_ap, sPar3_ap, sRet_ap, sRetN_ap, sNx_ap, sBrk_ap, sCnt_ap, sSeq_ap, sIte_ap, sDrop_ap, sFrz_ap, sAug_ap, iRange1_ap, iRange2_ap, iSeq_ap, sFor_ap, sLc_ap, R.toG_ok, ↓R.bind_bnd, bnd_ok, ↓R.bd_bdn, bdn_ok, ↓R.toF_tof, tof_ok, ↓F.seq_sqn, sqn_nx, sqn_ret, sqn_cnt, sqn_brk, ↓F.turn_trn, trn_nx, trn_ret, trn_cnt, trn_brk, F.end_nx, F.end_ret, ↓br_true, br_true, ↓br_false, br_false, Dbr, Dneg, Dtst, opt_some, dAdd_int, dIAdd_int, dSub_int, dLt_int, dLe_int, dGt_int, dGe_int, dEq_int, dNe_int, dEq_bl, dNe_bl, dMul_cm, dMod_pos, dDiv_pos, dAbs_int, dMax2_int, dMin2_int, dInt_int, dInt_bl, dIx_tup, dIx_lst, dIx_seq, dLen_tup, dLen_lst, dLen_seq, atI_0, atI_1, atI_2, atI_3, List.map_cons, List.map_nil, List.length_cons, List.length_nil, List.replicate_succ, List.replicate_zero, List.cons_append, List.nil_append, List.getElem?_cons_zero, List.getElem?_cons_succ, List.set_cons_zero, List.set_cons_succ, Nat.reduceAdd, Nat.reduceSub, Nat.zero_add, Nat.add_zero, Nat.sub_self, Nat.reduceMul, mostL_def, Nat.reduceLeDiff, Nat.reduceLT, ite_true, ite_false, if_true, if_false, ↓reduceIte, reduceIte, ↓br_ite, Bool.false_eq_true, reduceCtorEq, Bool.not_true, Bool.not_false, decide_true, decide_false, Int.cast_ofNat_Int, Int.reduceBEq, Int.reduceAdd, Int.reduceSub, Int.reduceMul, Int.reduceNeg, Int.reduceLT, Int.reduceLE, Int.reduceMod, Int.reduceDiv, sMeth1_ap, sSl_ap, sRev_ap, oNo_ap, oPart_ap, sDict0_ap, sSetL_ap, sLc2_ap, sStar_ap, q, hl', sSetL_ap, hs]
  · have hl' : decide (0 < l) = false := decide_eq_false hl
    have e2 : (h.set n (.lst [.int l, .int m, .int (t + 1)]))[n]? = some (.lst [.int l, .int m, .int (t + 1)]) := List.getElem?_set_self hn
    have q2 := fun i => dIx_ref (i := i) e2
    have hs : ∀ x, setIx (.ref n) (.int 2) x h = .ok () (h.set n (.lst [.int l, .int m, x])) := fun x => setIx_ref (j := 2) e rfl
    generalize ho : (m + 49979687 * (t + 1)) % 2305843009213693921 = one
    have ho1 : 0 ≤ one := by omega
    have ho2 : one < 2305843009213693921 := by omega
    have c1 : CM one one := .inl (by omega)
    have c2 : CM ((one * one + 131 * (t + 1)) % 2305843009213693907) 7778777 := CM.right (by decide)
    refine ⟨((one * one + 131 * (t + 1)) % 2305843009213693907 * 7778777 + one) / 131072 % T, h.set n (.lst [.int l, .int m, .int (t + 1)]), ?_, Int.emod_nonneg _ (Int.ne_of_gt hT), Int.emod_lt_of_pos _ hT, Dr.set hn⟩
    unfold f__law_roll
    simp (maxSteps := 4000000) (dsimp := false) (disch := first | assumption | decide | omega | walk_at "cm") only [runDef_ap, sVar_ap, sC_ap, sBin_ap, sNeg_ap, sAnd_ap, sOr_ap, sNot_ap, sIf_ap, sTst_ap, qAnd_ap, qOr_ap, qNot_ap, qYes_ap, sChain_ap, sChain3_ap, sNil_ap, sCons_ap, sTup_ap, sLst_ap, sLstM_ap, sCall_ap, g1_ap, g2_ap, sFn_ap, sAsg_ap, gNm_ap, gTp_ap, gConsS_ap, gNilS_ap, sPar_ap, sPar3_ap, sRet_ap, sRetN_ap, sNx_ap, sBrk_ap, sCnt_ap, sSeq_ap, sIte_ap, sDrop_ap, sFrz_ap, sAug_ap, iRange1_ap, iRange2_ap, iSeq_ap, sFor_ap, sLc_ap, R.toG_ok, ↓R.bind_bnd, bnd_ok, ↓R.bd_bdn, bdn_ok, ↓R.toF_tof, tof_ok, ↓F.seq_sqn, sqn_nx, sqn_ret, sqn_cnt, sqn_brk, ↓F.turn_trn, trn_nx, trn_ret, trn_cnt, trn_brk, F.end_nx, F.end_ret, ↓br_true, br_true, ↓br_false, br_false, Dbr, Dneg, Dtst, opt_some, dAdd_int, dIAdd_int, dSub_int, dLt_int, dLe_int, dGt_int, dGe_int, dEq_int, dNe_int, dEq_bl, dNe_bl, dMul_cm, dMod_pos, dDiv_pos, dAbs_int, dMax2_int, dMin2_int, dInt_int, dInt_bl, dIx_tup, dIx_lst, dIx_seq, dLen_tup, dLen_lst, dLen_seq, atI_0, atI_1, atI_2, atI_3, List.map_cons, List.map_nil, List.length_cons, List.length_nil, List.replicate_succ, List.replicate_zero, List.cons_append, List.nil_append, List.getElem?_cons_zero, List.getElem?_cons_succ, List.set_cons_zero, List.set_cons_succ, Nat.reduceAdd, Nat.reduceSub, Nat.zero_add, Nat.add_zero, Nat.sub_self, Nat.reduceMul, mostL_def, Nat.reduceLeDiff, Nat.reduceLT, ite_true, ite_false, if_true, if_false, ↓reduceIte, reduceIte, ↓br_ite, Bool.false_eq_true, reduceCtorEq, Bool.not_true, Bool.not_false, decide_true, decide_false, Int.cast_ofNat_Int, Int.reduceBEq, Int.reduceAdd, Int.reduceSub, Int.reduceMul, Int.reduceNeg, Int.reduceLT, Int.reduceLE, Int.reduceMod, Int.reduceDiv, sMeth1_ap, sSl_ap, sRev_ap, oNo_ap, oPart_ap, sDict0_ap, sSetL_ap, sLc2_ap, sStar_ap, q, hl', sSetL_ap, hs, q2, ho, c1, c2]

theorem pick_ok {h : Ph} {n : Nat} {xs : List D} (hd : Dc h n) (h0 : xs ≠ []) (hl : xs.length < 1000000) : ∃ d h', f__law_pick [.ref n, .lst xs] h = .ok d h' ∧ d ∈ xs ∧ Dr n h h' := by
  have hpos : 0 < xs.length := List.length_pos_iff.mpr h0
  obtain ⟨v, h', e, v0, v1, dr⟩ := roll_ok (T := (xs.length : Int)) hd (by omega) (Nat.lt_of_le_of_lt (log_lt (k := 20) (by simp; omega)) (by decide))
  obtain ⟨j, rfl⟩ := Int.eq_ofNat_of_zero_le v0
  have hj : j < xs.length := by omega
  refine ⟨xs[j], h', ?_, List.getElem_mem hj, dr⟩
  have ha : atI xs (j : Int) = some xs[j] := atI_nat (by simp [hj])
  unfold f__law_pick
  simp (maxSteps := 4000000) (dsimp := false) (disch := first | assumption | decide | omega | walk_at "cm") only [runDef_ap, sVar_ap, sC_ap, sBin_ap, sNeg_ap, sAnd_ap, sOr_ap, sNot_ap, sIf_ap, sTst_ap, qAnd_ap, qOr_ap, qNot_ap, qYes_ap, sChain_ap, sChain3_ap, sNil_ap, sCons_ap, sTup_ap, sLst_ap, sLstM_ap, sCall_ap, g1_ap, g2_ap, sFn_ap, sAsg_ap, gNm_ap, gTp_ap, gConsS_ap, gNilS_ap, sPar_ap, sPar3_ap, sRet_ap, sRetN_ap, sNx_ap, sBrk_ap, sCnt_ap, sSeq_ap, sIte_ap, sDrop_ap, sFrz_ap, sAug_ap, iRange1_ap, iRange2_ap, iSeq_ap, sFor_ap, sLc_ap, R.toG_ok, ↓R.bind_bnd, bnd_ok, ↓R.bd_bdn, bdn_ok, ↓R.toF_tof, tof_ok, ↓F.seq_sqn, sqn_nx, sqn_ret, sqn_cnt, sqn_brk, ↓F.turn_trn, trn_nx, trn_ret, trn_cnt, trn_brk, F.end_nx, F.end_ret, ↓br_true, br_true, ↓br_false, br_false, Dbr, Dneg, Dtst, opt_some, dAdd_int, dIAdd_int, dSub_int, dLt_int, dLe_int, dGt_int, dGe_int, dEq_int, dNe_int, dEq_bl, dNe_bl, dMul_cm, dMod_pos, dDiv_pos, dAbs_int, dMax2_int, dMin2_int, dInt_int, dInt_bl, dIx_tup, dIx_lst, dIx_seq, dLen_tup, dLen_lst, dLen_seq, atI_0, atI_1, atI_2, atI_3, List.map_cons, List.map_nil, List.length_cons, List.length_nil, List.replicate_succ, List.replicate_zero, List.cons_append, List.nil_append, List.getElem?_cons_zero, List.getElem?_cons_succ, List.set_cons_zero, List.set_cons_succ, Nat.reduceAdd, Nat.reduceSub, Nat.zero_add, Nat.add_zero, Nat.sub_self, Nat.reduceMul, mostL_def, Nat.reduceLeDiff, Nat.reduceLT, ite_true, ite_false, if_true, if_false, ↓reduceIte, reduceIte, ↓br_ite, Bool.false_eq_true, reduceCtorEq, Bool.not_true, Bool.not_false, decide_true, decide_false, Int.cast_ofNat_Int, Int.reduceBEq, Int.reduceAdd, Int.reduceSub, Int.reduceMul, Int.reduceNeg, Int.reduceLT, Int.reduceLE, Int.reduceMod, Int.reduceDiv, sMeth1_ap, sSl_ap, sRev_ap, oNo_ap, oPart_ap, sDict0_ap, sSetL_ap, sLc2_ap, sStar_ap, e, ha]
theorem gcd_mod {a b : Int} (ha : 0 ≤ a) (hb : 0 ≤ b) : Int.gcd b (a % b) = Int.gcd a b := by
  obtain ⟨m, rfl⟩ := Int.eq_ofNat_of_zero_le ha
  obtain ⟨n, rfl⟩ := Int.eq_ofNat_of_zero_le hb
  rw [← Int.natCast_emod]
  show Nat.gcd n (m % n) = Nat.gcd m n
  rw [Nat.gcd_comm m n, Nat.gcd_rec n m, Nat.gcd_comm]
/-- the common divisor -/
theorem gcd_loop (c : ST) (hc : ∀ (a b : Int) (h : Ph), 0 ≤ a → 0 ≤ b → c [some (.int a), some (.int b)] h = .ok (decide (0 < b)) h)
    (f : SS) (hf : ∀ (a b : Int) (h : Ph), 0 ≤ a → 0 < b → f [some (.int a), some (.int b)] h = .nx [some (.int b), some (.int (a % b))] h) :
    ∀ (k : Nat) (a b : Int) (h : Ph) (N : Nat), 0 ≤ a → 0 ≤ b → b.toNat ≤ k → k < N → sWhile N c f [some (.int a), some (.int b)] h = .nx [some (.int (Int.gcd a b)), some (.int 0)] h := by
  intro k
  induction k with
  | zero =>
    intro a b h N ha hb hk hN
    obtain ⟨N, rfl⟩ : ∃ M, N = M + 1 := ⟨N - 1, by omega⟩
    have : b = 0 := by omega
    subst this
    unfold sWhile
    rw [hc a 0 h ha (by omega), Int.gcd_zero_right]
    show F.nx [some (.int a), some (.int 0)] h = _
    rw [show ((a.natAbs : Nat) : Int) = a by omega]
  | succ k ih =>
    intro a b h N ha hb hk hN
    obtain ⟨N, rfl⟩ : ∃ M, N = M + 1 := ⟨N - 1, by omega⟩
    by_cases h0 : b = 0
    · subst h0
      unfold sWhile
      rw [hc a 0 h ha (by omega), Int.gcd_zero_right]
      show F.nx [some (.int a), some (.int 0)] h = _
      rw [show ((a.natAbs : Nat) : Int) = a by omega]
    · have hb0 : 0 < b := by omega
      unfold sWhile
      rw [hc a b h ha hb, decide_eq_true hb0]
      show (f [some (.int a), some (.int b)] h).turn _ = _
      rw [hf a b h ha hb0]
      show sWhile N c f [some (.int b), some (.int (a % b))] h = _
      have m0 := Int.emod_nonneg a (Int.ne_of_gt hb0)
      have m1 := Int.emod_lt_of_pos a hb0
      rw [ih b (a % b) h N hb m0 (by omega) (by omega)]
      rw [gcd_mod ha hb]
theorem gcd_cond (a b : Int) (h : Ph) : sTst (sBin dGt (sVar 1) (sC (.int 0))) [some (.int a), some (.int b)] h = .ok (decide (0 < b)) h := by
  simp (maxSteps := 4000000) (dsimp := false) (disch := first | assumption | decide | omega | walk_at "cm") only [runDef_ap, sVar_ap, sC_ap, sBin_ap, sNeg_ap, sAnd_ap, sOr_ap, sNot_ap, sIf_ap, sTst_ap, qAnd_ap, qOr_ap, qNot_ap, qYes_ap, sChain_ap, sChain3_ap, sNil_ap, sCons_ap, sTup_ap, sLst_ap, sLstM_ap, sCall_ap, g1_ap, g2_ap, sFn_ap, sAsg_ap, gNm_ap, gTp_ap, gConsS_ap, gNilS_ap, sPar_ap, sPar3_ap, sRet_ap, sRetN_ap, sNx_ap, sBrk_ap, sCnt_ap, sSeq_ap, sIte_ap, sDrop_ap, sFrz_ap, sAug_ap, iRange1_ap, iRange2_ap, iSeq_ap, sFor_ap, sLc_ap, R.toG_ok, ↓R.bind_bnd, bnd_ok, ↓R.bd_bdn, bdn_ok, ↓R.toF_tof, tof_ok, ↓F.seq_sqn, sqn_nx, sqn_ret, sqn_cnt, sqn_brk, ↓F.turn_trn, trn_nx, trn_ret, trn_cnt, trn_brk, F.end_nx, F.end_ret, ↓br_true, br_true, ↓br_false, br_false, Dbr, Dneg, Dtst, opt_some, dAdd_int, dIAdd_int, dSub_int, dLt_int, dLe_int, dGt_int, dGe_int, dEq_int, dNe_int, dEq_bl, dNe_bl, dMul_cm, dMod_pos, dDiv_pos, dAbs_int, dMax2_int, dMin2_int, dInt_int, dInt_bl, dIx_tup, dIx_lst, dIx_seq, dLen_tup, dLen_lst, dLen_seq, atI_0, atI_1, atI_2, atI_3, List.map_cons, List.map_nil, List.length_cons, List.length_nil, List.replicate_succ, List.replicate_zero, List.cons_append, List.nil_append, List.getElem?_cons_zero, List.getElem?_cons_succ, List.set_cons_zero, List.set_cons_succ, Nat.reduceAdd, Nat.reduceSub, Nat.zero_add, Nat.add_zero, Nat.sub_self, Nat.reduceMul, mostL_def, Nat.reduceLeDiff, Nat.reduceLT, ite_true, ite_false, if_true, if_false, ↓reduceIte, reduceIte, ↓br_ite, Bool.false_eq_true, reduceCtorEq, Bool.not_true, Bool.not_false, decide_true, decide_false, Int.cast_ofNat_Int, Int.reduceBEq, Int.reduceAdd, Int.reduceSub, Int.reduceMul, Int.reduceNeg, Int.reduceLT, Int.reduceLE, Int.reduceMod, Int.reduceDiv, sMeth1_ap, sSl_ap, sRev_ap, oNo_ap, oPart_ap, sDict0_ap, sSetL_ap, sLc2_ap, sStar_ap]
theorem gcd_step (a b : Int) (h : Ph) (hb : 0 < b) : sPar 0 1 (sCons (sVar 1) (sCons (sBin dMod (sCall (g1 dInt) (sCons (sVar 0) (sNil))) (sVar 1)) (sNil))) [some (.int a), some (.int b)] h = .nx [some (.int b), some (.int (a % b))] h := by
  simp (maxSteps := 4000000) (dsimp := false) (disch := first | assumption | decide | omega | walk_at "cm") only [runDef_ap, sVar_ap, sC_ap, sBin_ap, sNeg_ap, sAnd_ap, sOr_ap, sNot_ap, sIf_ap, sTst_ap, qAnd_ap, qOr_ap, qNot_ap, qYes_ap, sChain_ap, sChain3_ap, sNil_ap, sCons_ap, sTup_ap, sLst_ap, sLstM_ap, sCall_ap, g1_ap, g2_ap, sFn_ap, sAsg_ap, gNm_ap, gTp_ap, gConsS_ap, gNilS_ap, sPar_ap, sPar3_ap, sRet_ap, sRetN_ap, sNx_ap, sBrk_ap, sCnt_ap, sSeq_ap, sIte_ap, sDrop_ap, sFrz_ap, sAug_ap, iRange1_ap, iRange2_ap, iSeq_ap, sFor_ap, sLc_ap, R.toG_ok, ↓R.bind_bnd, bnd_ok, ↓R.bd_bdn, bdn_ok, ↓R.toF_tof, tof_ok, ↓F.seq_sqn, sqn_nx, sqn_ret, sqn_cnt, sqn_brk, ↓F.turn_trn, trn_nx, trn_ret, trn_cnt, trn_brk, F.end_nx, F.end_ret, ↓br_true, br_true, ↓br_false, br_false, Dbr, Dneg, Dtst, opt_some, dAdd_int, dIAdd_int, dSub_int, dLt_int, dLe_int, dGt_int, dGe_int, dEq_int, dNe_int, dEq_bl, dNe_bl, dMul_cm, dMod_pos, dDiv_pos, dAbs_int, dMax2_int, dMin2_int, dInt_int, dInt_bl, dIx_tup, dIx_lst, dIx_seq, dLen_tup, dLen_lst, dLen_seq, atI_0, atI_1, atI_2, atI_3, List.map_cons, List.map_nil, List.length_cons, List.length_nil, List.replicate_succ, List.replicate_zero, List.cons_append, List.nil_append, List.getElem?_cons_zero, List.getElem?_cons_succ, List.set_cons_zero, List.set_cons_succ, Nat.reduceAdd, Nat.reduceSub, Nat.zero_add, Nat.add_zero, Nat.sub_self, Nat.reduceMul, mostL_def, Nat.reduceLeDiff, Nat.reduceLT, ite_true, ite_false, if_true, if_false, ↓reduceIte, reduceIte, ↓br_ite, Bool.false_eq_true, reduceCtorEq, Bool.not_true, Bool.not_false, decide_true, decide_false, Int.cast_ofNat_Int, Int.reduceBEq, Int.reduceAdd, Int.reduceSub, Int.reduceMul, Int.reduceNeg, Int.reduceLT, Int.reduceLE, Int.reduceMod, Int.reduceDiv, sMeth1_ap, sSl_ap, sRev_ap, oNo_ap, oPart_ap, sDict0_ap, sSetL_ap, sLc2_ap, sStar_ap]
theorem gcd_abs (a b : Int) : Int.gcd (if a < 0 then -a else a) (if b < 0 then -b else b) = Int.gcd a b := by
  split <;> split <;> simp
theorem gcdL_ok (a b : Int) (h : Ph) (hb : b.natAbs + 1 < FU) : f__law_gcd [.int a, .int b] h = .ok (.int (Int.gcd a b)) h := by
  generalize hF : FU = N at hb
  have e := gcd_loop _ (fun a b h _ _ => gcd_cond a b h) _ (fun a b h _ hb => gcd_step a b h hb)
    b.natAbs (if a < 0 then -a else a) (if b < 0 then -b else b) h N (by split <;> omega) (by split <;> omega) (by split <;> omega) (by omega)
  rw [gcd_abs] at e
  unfold f__law_gcd
  rw [hF]
  simp (maxSteps := 4000000) (dsimp := false) (disch := first | assumption | decide | omega | walk_at "cm") only [runDef_ap, sVar_ap, sC_ap, sBin_ap, sNeg_ap, sAnd_ap, sOr_ap, sNot_ap, sIf_ap, sTst_ap, qAnd_ap, qOr_ap, qNot_ap, qYes_ap, sChain_ap, sChain3_ap, sNil_ap, sCons_ap, sTup_ap, sLst_ap, sLstM_ap, sCall_ap, g1_ap, g2_ap, sFn_ap, sAsg_ap, gNm_ap, gTp_ap, gConsS_ap, gNilS_ap, sPar_ap, sPar3_ap, sRet_ap, sRetN_ap, sNx_ap, sBrk_ap, sCnt_ap, sSeq_ap, sIte_ap, sDrop_ap, sFrz_ap, sAug_ap, iRange1_ap, iRange2_ap, iSeq_ap, sFor_ap, sLc_ap, R.toG_ok, ↓R.bind_bnd, bnd_ok, ↓R.bd_bdn, bdn_ok, ↓R.toF_tof, tof_ok, ↓F.seq_sqn, sqn_nx, sqn_ret, sqn_cnt, sqn_brk, ↓F.turn_trn, trn_nx, trn_ret, trn_cnt, trn_brk, F.end_nx, F.end_ret, ↓br_true, br_true, ↓br_false, br_false, Dbr, Dneg, Dtst, opt_some, dAdd_int, dIAdd_int, dSub_int, dLt_int, dLe_int, dGt_int, dGe_int, dEq_int, dNe_int, dEq_bl, dNe_bl, dMul_cm, dMod_pos, dDiv_pos, dAbs_int, dMax2_int, dMin2_int, dInt_int, dInt_bl, dIx_tup, dIx_lst, dIx_seq, dLen_tup, dLen_lst, dLen_seq, atI_0, atI_1, atI_2, atI_3, List.map_cons, List.map_nil, List.length_cons, List.length_nil, List.replicate_succ, List.replicate_zero, List.cons_append, List.nil_append, List.getElem?_cons_zero, List.getElem?_cons_succ, List.set_cons_zero, List.set_cons_succ, Nat.reduceAdd, Nat.reduceSub, Nat.zero_add, Nat.add_zero, Nat.sub_self, Nat.reduceMul, mostL_def, Nat.reduceLeDiff, Nat.reduceLT, ite_true, ite_false, if_true, if_false, ↓reduceIte, reduceIte, ↓br_ite, Bool.false_eq_true, reduceCtorEq, Bool.not_true, Bool.not_false, decide_true, decide_false, Int.cast_ofNat_Int, Int.reduceBEq, Int.reduceAdd, Int.reduceSub, Int.reduceMul, Int.reduceNeg, Int.reduceLT, Int.reduceLE, Int.reduceMod, Int.reduceDiv, sMeth1_ap, sSl_ap, sRev_ap, oNo_ap, oPart_ap, sDict0_ap, sSetL_ap, sLc2_ap, sStar_ap, e]
end Pd

/-! Pf: the functions about forms -/
namespace Pd
open PySem L2 Evl
local macro_rules | `(tactic| walk_at "sm") => `(tactic| first | assumption | exact Sm.lit | exact Sm.mul (by walk_at "sm") (by walk_at "sm") | exact Sm.add (by walk_at "sm") (by walk_at "sm") | exact Sm.sub (by walk_at "sm") (by walk_at "sm") | exact Sm.neg (by walk_at "sm"))
local macro_rules | `(tactic| walk_at "cm") => `(tactic| ((with_reducible show CM _ _); first | assumption | exact CM.left (by decide) | exact CM.right (by decide) | exact CM.left (by omega) | exact CM.right (by omega) | exact CM.of (by walk_at "sm") (by walk_at "sm") (by decide)))
def f_is_whole : Fn := runDef 1 (sRet (sAnd (sCall (g2 dIsi) (sCons (sVar 0) (sCons (sC (.ty "int")) (sNil)))) (sNot (sCall (g2 dIsi) (sCons (sVar 0) (sCons (sC (.ty "bool")) (sNil)))))))
def f_is_integer : Fn := runDef 1 (sRet (sAnd (sFn f_is_whole (sCons (sVar 0) (sNil))) (sChain dLt dLt (sNeg (sC (.int (1000000000000000000000000000000000000000000000000000000000000)))) (sVar 0) (sC (.int (1000000000000000000000000000000000000000000000000000000000000))))))
def f_measure_in : Fn := runDef 1 (sRet (sBin dSub (sBin dMul (sBin dMul (sC (.int 4)) (sBin dIx (sVar 0) (sC (.int 0)))) (sBin dIx (sVar 0) (sC (.int 2)))) (sBin dMul (sBin dIx (sVar 0) (sC (.int 1))) (sBin dIx (sVar 0) (sC (.int 1))))))
def f_is_form : Fn := runDef 2 (sSeq (sIte (qOr (qNot (sTst (sCall (g2 dIsi) (sCons (sVar 0) (sCons (sC (.ty "tuple")) (sNil)))))) (qOr (sTst (sBin dNe (sCall (g1 dLen) (sCons (sVar 0) (sNil))) (sC (.int (3))))) (qNot (sTst (sCall (g1 dAll) (sCons (sLc (iSeq (sVar 0)) (gNm 1) (qYes) (sFn f_is_integer (sCons (sVar 1) (sNil))) [1]) (sNil))))))) (sRet (sC (.bl false))) (sNx)) (sRet (sAnd (sBin dGt (sBin dIx (sVar 0) (sC (.int 0))) (sC (.int 0))) (sBin dGt (sFn f_measure_in (sCons (sVar 0) (sNil))) (sC (.int 0))))))
def f_require_form : Fn := runDef 1 (sIte (qNot (sTst (sFn f_is_form (sCons (sVar 0) (sNil))))) (sBad) (sNx))
def f_divisor_of : Fn := runDef 2 (sSeq (sWhile FU (sTst (sBin dNe (sVar 1) (sC (.int 0)))) (sPar 0 1 (sCons (sVar 1) (sCons (sBin dMod (sVar 0) (sVar 1)) (sNil))))) (sRet (sCall (g1 dAbs) (sCons (sVar 0) (sNil)))))
def f_is_whole_primitive : Fn := runDef 1 (sRet (sBin dEq (sFn f_divisor_of (sCons (sFn f_divisor_of (sCons (sBin dIx (sVar 0) (sC (.int 0))) (sCons (sBin dIx (sVar 0) (sC (.int 1))) (sNil)))) (sCons (sBin dIx (sVar 0) (sC (.int 2))) (sNil)))) (sC (.int 1))))
def f_is_primitive : Fn := runDef 1 (sSeq (sDrop (sFn f_require_form (sCons (sVar 0) (sNil)))) (sRet (sFn f_is_whole_primitive (sCons (sVar 0) (sNil)))))
def f_is_least : Fn := runDef 4 (sSeq (sAsg (sVar 0) (gTp 3 (gConsS (gNm 1) (gConsS (gNm 2) (gConsS (gNm 3) (gNilS)))))) (sSeq (sIte (qNot (sTst (sChain3 dLe dLe dLe (sNeg (sVar 1)) (sVar 2) (sVar 1) (sVar 3)))) (sRet (sC (.bl false))) (sNx)) (sRet (sOr (sBin dGe (sVar 2) (sC (.int 0))) (sAnd (sBin dNe (sVar 2) (sNeg (sVar 1))) (sBin dNe (sVar 1) (sVar 3)))))))
def f_is_reduced : Fn := runDef 1 (sSeq (sDrop (sFn f_require_form (sCons (sVar 0) (sNil)))) (sRet (sFn f_is_least (sCons (sVar 0) (sNil)))))
def f_measure_of : Fn := runDef 1 (sSeq (sDrop (sFn f_require_form (sCons (sVar 0) (sNil)))) (sRet (sFn f_measure_in (sCons (sVar 0) (sNil)))))
def f_require_integer : Fn := runDef 1 (sIte (qNot (sTst (sFn f_is_integer (sCons (sVar 0) (sNil))))) (sBad) (sNx))
def f_value_at : Fn := runDef 3 (sRet (sBin dAdd (sBin dAdd (sBin dMul (sBin dMul (sBin dIx (sVar 0) (sC (.int 0))) (sVar 1)) (sVar 1)) (sBin dMul (sBin dMul (sBin dIx (sVar 0) (sC (.int 1))) (sVar 1)) (sVar 2))) (sBin dMul (sBin dMul (sBin dIx (sVar 0) (sC (.int 2))) (sVar 2)) (sVar 2))))
def f_value_of : Fn := runDef 3 (sSeq (sDrop (sFn f_require_form (sCons (sVar 0) (sNil)))) (sSeq (sDrop (sFn f_require_integer (sCons (sVar 1) (sNil)))) (sSeq (sDrop (sFn f_require_integer (sCons (sVar 2) (sNil)))) (sRet (sFn f_value_at (sCons (sVar 0) (sCons (sVar 1) (sCons (sVar 2) (sNil)))))))))
def f_is_turn : Fn := runDef 2 (sSeq (sIte (qOr (qNot (sTst (sCall (g2 dIsi) (sCons (sVar 0) (sCons (sC (.ty "tuple")) (sNil)))))) (qOr (sTst (sBin dNe (sCall (g1 dLen) (sCons (sVar 0) (sNil))) (sC (.int (4))))) (qNot (sTst (sCall (g1 dAll) (sCons (sLc (iSeq (sVar 0)) (gNm 1) (qYes) (sFn f_is_whole (sCons (sVar 1) (sNil))) [1]) (sNil))))))) (sRet (sC (.bl false))) (sNx)) (sRet (sBin dEq (sBin dSub (sBin dMul (sBin dIx (sVar 0) (sC (.int 0))) (sBin dIx (sVar 0) (sC (.int 3)))) (sBin dMul (sBin dIx (sVar 0) (sC (.int 1))) (sBin dIx (sVar 0) (sC (.int 2))))) (sC (.int 1)))))
def f_require_turn : Fn := runDef 2 (sIte (qOr (qNot (sTst (sFn f_is_turn (sCons (sVar 0) (sNil))))) (qNot (sTst (sCall (g1 dAll) (sCons (sLc (iSeq (sVar 0)) (gNm 1) (qYes) (sFn f_is_integer (sCons (sVar 1) (sNil))) [1]) (sNil)))))) (sBad) (sNx))
def f_led_by : Fn := runDef 7 (sSeq (sAsg (sVar 1) (gTp 4 (gConsS (gNm 3) (gConsS (gNm 4) (gConsS (gNm 5) (gConsS (gNm 6) (gNilS))))))) (sSeq (sAsg (sBin dAdd (sBin dAdd (sBin dMul (sBin dMul (sBin dMul (sC (.int 2)) (sBin dIx (sVar 0) (sC (.int 0)))) (sVar 3)) (sVar 4)) (sBin dMul (sBin dIx (sVar 0) (sC (.int 1))) (sBin dAdd (sBin dMul (sVar 3) (sVar 6)) (sBin dMul (sVar 4) (sVar 5))))) (sBin dMul (sBin dMul (sBin dMul (sC (.int 2)) (sBin dIx (sVar 0) (sC (.int 2)))) (sVar 5)) (sVar 6))) (gNm 2)) (sRet (sTup (sCons (sFn f_value_at (sCons (sVar 0) (sCons (sVar 3) (sCons (sVar 5) (sNil))))) (sCons (sVar 2) (sCons (sFn f_value_at (sCons (sVar 0) (sCons (sVar 4) (sCons (sVar 6) (sNil))))) (sNil))))))))
def f_led_form : Fn := runDef 2 (sSeq (sDrop (sFn f_require_form (sCons (sVar 0) (sNil)))) (sSeq (sDrop (sFn f_require_turn (sCons (sVar 1) (sNil)))) (sRet (sFn f_led_by (sCons (sVar 0) (sCons (sVar 1) (sNil)))))))
/-! ### comprehensions, reckoned -/
theorem compGo_nil {g : SG} {tt : ST} {te : SE} {e : Pe} {h : Ph} : compGo g tt te [] e h = .ok [] h := nr rfl
theorem compGo_cons {g : SG} {tt : ST} {te : SE} {x : D} {r : List D} {e : Pe} {h : Ph} : compGo g tt te (x :: r) e h = (g x e h).bd fun e1 h1 => (tt e1 h1).bd fun b h2 => br b ((te e1 h2).bd fun y h3 => (compGo g tt te r e h3).bd fun ys h4 => .ok (y :: ys) h4) (compGo g tt te r e h2) := rfl
theorem compGo_yes {g : SG} {te : SE} {x : D} {r : List D} {e : Pe} {h : Ph} : compGo g qYes te (x :: r) e h = (g x e h).bd fun e1 h1 => (te e1 h1).bd fun y h3 => (compGo g qYes te r e h3).bd fun ys h4 => .ok (y :: ys) h4 := nr rfl
theorem wipe_nil {e : Pe} : wipeD e [] = e := rfl
theorem wipe_cons {e : Pe} {v : Nat} {vs : List Nat} : wipeD e (v :: vs) = (wipeD e vs).set v none := rfl
theorem isi_int {t : String} {i : Int} {h : Ph} : dIsi (.int i) (.ty t) h = R.opt (kitB "int" t) fun k => .ok (.bl k) h := rfl
theorem isi_bl {t : String} {i : Bool} {h : Ph} : dIsi (.bl i) (.ty t) h = R.opt (kitB "bool" t) fun k => .ok (.bl k) h := rfl
theorem isi_str {t : String} {i : Str} {h : Ph} : dIsi (.str i) (.ty t) h = R.opt (kitB "str" t) fun k => .ok (.bl k) h := rfl
theorem isi_non {t : String} {h : Ph} : dIsi .non (.ty t) h = R.opt (kitB "NoneType" t) fun k => .ok (.bl k) h := rfl
theorem isi_tup {t : String} {i : List D} {h : Ph} : dIsi (.tup i) (.ty t) h = R.opt (kitB "tuple" t) fun k => .ok (.bl k) h := rfl
theorem isi_lst {t : String} {i : List D} {h : Ph} : dIsi (.lst i) (.ty t) h = R.opt (kitB "list" t) fun k => .ok (.bl k) h := rfl
theorem kit_int_int : kitB "int" "int" = some true := rfl
theorem kit_int_bool : kitB "int" "bool" = some false := rfl
theorem kit_bool_int : kitB "bool" "int" = some true := rfl
theorem kit_bool_bool : kitB "bool" "bool" = some true := rfl
theorem kit_str_int : kitB "str" "int" = some false := rfl
theorem kit_str_bool : kitB "str" "bool" = some false := rfl
theorem kit_str_tuple : kitB "str" "tuple" = some false := rfl
theorem kit_tuple_tuple : kitB "tuple" "tuple" = some true := rfl
theorem kit_tuple_int : kitB "tuple" "int" = some false := rfl
theorem kit_tuple_bool : kitB "tuple" "bool" = some false := rfl
theorem kit_int_tuple : kitB "int" "tuple" = some false := rfl
theorem kit_bool_tuple : kitB "bool" "tuple" = some false := rfl
theorem kit_list_tuple : kitB "list" "tuple" = some false := rfl
theorem kit_list_int : kitB "list" "int" = some false := rfl
theorem kit_list_bool : kitB "list" "bool" = some false := rfl
theorem kit_non_tuple : kitB "NoneType" "tuple" = some false := rfl
theorem kit_non_int : kitB "NoneType" "int" = some false := rfl
theorem kit_non_bool : kitB "NoneType" "bool" = some false := rfl
theorem iSeq_at {f : SE} {e : Pe} {h : Ph} : iSeq f e h = (f e h).bind fun a h1 => match a with
  | .lst xs => .ok xs h1
  | .seq xs => .ok xs h1
  | .tup xs => .ok xs h1
  | _ => .bad := rfl
theorem dAll_lst {xs : List D} {h : Ph} : dAll (.lst xs) h = R.opt (blsOf xs) fun bs => .ok (.bl (bs.all id)) h := rfl
theorem dAny_lst {xs : List D} {h : Ph} : dAny (.lst xs) h = R.opt (blsOf xs) fun bs => .ok (.bl (bs.any id)) h := rfl
theorem bls_cons {b : Bool} {r : List D} : blsOf (.bl b :: r) = (blsOf r).map (b :: ·) := rfl
theorem bls_nil : blsOf [] = some [] := rfl
/-! ### whole numbers -/
theorem whole_int {i : Int} {h : Ph} : f_is_whole [.int i] h = .ok (.bl true) h := by
  unfold f_is_whole; simp (maxSteps := 4000000) (dsimp := false) (disch := first | assumption | decide | omega | walk_at "cm") only [runDef_ap, sVar_ap, sC_ap, sBin_ap, sNeg_ap, sAnd_ap, sOr_ap, sNot_ap, sIf_ap, sTst_ap, qAnd_ap, qOr_ap, qNot_ap, qYes_ap, sChain_ap, sChain3_ap, sNil_ap, sCons_ap, sTup_ap, sLst_ap, sLstM_ap, sCall_ap, g1_ap, g2_ap, sFn_ap, sAsg_ap, gNm_ap, gTp_ap, gConsS_ap, gNilS_ap, sPar_ap, sPar3_ap, sRet_ap, sRetN_ap, sNx_ap, sBrk_ap, sCnt_ap, sSeq_ap, sIte_ap, sDrop_ap, sFrz_ap, sAug_ap, iRange1_ap, iRange2_ap, iSeq_ap, sFor_ap, sLc_ap, R.toG_ok, ↓R.bind_bnd, bnd_ok, ↓R.bd_bdn, bdn_ok, ↓R.toF_tof, tof_ok, ↓F.seq_sqn, sqn_nx, sqn_ret, sqn_cnt, sqn_brk, ↓F.turn_trn, trn_nx, trn_ret, trn_cnt, trn_brk, F.end_nx, F.end_ret, ↓br_true, br_true, ↓br_false, br_false, Dbr, Dneg, Dtst, opt_some, dAdd_int, dIAdd_int, dSub_int, dLt_int, dLe_int, dGt_int, dGe_int, dEq_int, dNe_int, dEq_bl, dNe_bl, dMul_cm, dMod_pos, dDiv_pos, dAbs_int, dMax2_int, dMin2_int, dInt_int, dInt_bl, dIx_tup, dIx_lst, dIx_seq, dLen_tup, dLen_lst, dLen_seq, atI_0, atI_1, atI_2, atI_3, List.map_cons, List.map_nil, List.length_cons, List.length_nil, List.replicate_succ, List.replicate_zero, List.cons_append, List.nil_append, List.getElem?_cons_zero, List.getElem?_cons_succ, List.set_cons_zero, List.set_cons_succ, Nat.reduceAdd, Nat.reduceSub, Nat.zero_add, Nat.add_zero, Nat.sub_self, Nat.reduceMul, mostL_def, Nat.reduceLeDiff, Nat.reduceLT, ite_true, ite_false, if_true, if_false, ↓reduceIte, reduceIte, ↓br_ite, Bool.false_eq_true, reduceCtorEq, Bool.not_true, Bool.not_false, decide_true, decide_false, Int.cast_ofNat_Int, Int.reduceBEq, Int.reduceAdd, Int.reduceSub, Int.reduceMul, Int.reduceNeg, Int.reduceLT, Int.reduceLE, Int.reduceMod, Int.reduceDiv, sMeth1_ap, sSl_ap, sRev_ap, oNo_ap, oPart_ap, sDict0_ap, sSetL_ap, sLc2_ap, sStar_ap, isi_int, kit_int_int, kit_int_bool]
theorem whole_bl {i : Bool} {h : Ph} : f_is_whole [.bl i] h = .ok (.bl false) h := by
  unfold f_is_whole; simp (maxSteps := 4000000) (dsimp := false) (disch := first | assumption | decide | omega | walk_at "cm") only [runDef_ap, sVar_ap, sC_ap, sBin_ap, sNeg_ap, sAnd_ap, sOr_ap, sNot_ap, sIf_ap, sTst_ap, qAnd_ap, qOr_ap, qNot_ap, qYes_ap, sChain_ap, sChain3_ap, sNil_ap, sCons_ap, sTup_ap, sLst_ap, sLstM_ap, sCall_ap, g1_ap, g2_ap, sFn_ap, sAsg_ap, gNm_ap, gTp_ap, gConsS_ap, gNilS_ap, sPar_ap, sPar3_ap, sRet_ap, sRetN_ap, sNx_ap, sBrk_ap, sCnt_ap, sSeq_ap, sIte_ap, sDrop_ap, sFrz_ap, sAug_ap, iRange1_ap, iRange2_ap, iSeq_ap, sFor_ap, sLc_ap, R.toG_ok, ↓R.bind_bnd, bnd_ok, ↓R.bd_bdn, bdn_ok, ↓R.toF_tof, tof_ok, ↓F.seq_sqn, sqn_nx, sqn_ret, sqn_cnt, sqn_brk, ↓F.turn_trn, trn_nx, trn_ret, trn_cnt, trn_brk, F.end_nx, F.end_ret, ↓br_true, br_true, ↓br_false, br_false, Dbr, Dneg, Dtst, opt_some, dAdd_int, dIAdd_int, dSub_int, dLt_int, dLe_int, dGt_int, dGe_int, dEq_int, dNe_int, dEq_bl, dNe_bl, dMul_cm, dMod_pos, dDiv_pos, dAbs_int, dMax2_int, dMin2_int, dInt_int, dInt_bl, dIx_tup, dIx_lst, dIx_seq, dLen_tup, dLen_lst, dLen_seq, atI_0, atI_1, atI_2, atI_3, List.map_cons, List.map_nil, List.length_cons, List.length_nil, List.replicate_succ, List.replicate_zero, List.cons_append, List.nil_append, List.getElem?_cons_zero, List.getElem?_cons_succ, List.set_cons_zero, List.set_cons_succ, Nat.reduceAdd, Nat.reduceSub, Nat.zero_add, Nat.add_zero, Nat.sub_self, Nat.reduceMul, mostL_def, Nat.reduceLeDiff, Nat.reduceLT, ite_true, ite_false, if_true, if_false, ↓reduceIte, reduceIte, ↓br_ite, Bool.false_eq_true, reduceCtorEq, Bool.not_true, Bool.not_false, decide_true, decide_false, Int.cast_ofNat_Int, Int.reduceBEq, Int.reduceAdd, Int.reduceSub, Int.reduceMul, Int.reduceNeg, Int.reduceLT, Int.reduceLE, Int.reduceMod, Int.reduceDiv, sMeth1_ap, sSl_ap, sRev_ap, oNo_ap, oPart_ap, sDict0_ap, sSetL_ap, sLc2_ap, sStar_ap, isi_bl, kit_bool_int, kit_bool_bool]
theorem whole_str {i : Str} {h : Ph} : f_is_whole [.str i] h = .ok (.bl false) h := by
  unfold f_is_whole; simp (maxSteps := 4000000) (dsimp := false) (disch := first | assumption | decide | omega | walk_at "cm") only [runDef_ap, sVar_ap, sC_ap, sBin_ap, sNeg_ap, sAnd_ap, sOr_ap, sNot_ap, sIf_ap, sTst_ap, qAnd_ap, qOr_ap, qNot_ap, qYes_ap, sChain_ap, sChain3_ap, sNil_ap, sCons_ap, sTup_ap, sLst_ap, sLstM_ap, sCall_ap, g1_ap, g2_ap, sFn_ap, sAsg_ap, gNm_ap, gTp_ap, gConsS_ap, gNilS_ap, sPar_ap, sPar3_ap, sRet_ap, sRetN_ap, sNx_ap, sBrk_ap, sCnt_ap, sSeq_ap, sIte_ap, sDrop_ap, sFrz_ap, sAug_ap, iRange1_ap, iRange2_ap, iSeq_ap, sFor_ap, sLc_ap, R.toG_ok, ↓R.bind_bnd, bnd_ok, ↓R.bd_bdn, bdn_ok, ↓R.toF_tof, tof_ok, ↓F.seq_sqn, sqn_nx, sqn_ret, sqn_cnt, sqn_brk, ↓F.turn_trn, trn_nx, trn_ret, trn_cnt, trn_brk, F.end_nx, F.end_ret, ↓br_true, br_true, ↓br_false, br_false, Dbr, Dneg, Dtst, opt_some, dAdd_int, dIAdd_int, dSub_int, dLt_int, dLe_int, dGt_int, dGe_int, dEq_int, dNe_int, dEq_bl, dNe_bl, dMul_cm, dMod_pos, dDiv_pos, dAbs_int, dMax2_int, dMin2_int, dInt_int, dInt_bl, dIx_tup, dIx_lst, dIx_seq, dLen_tup, dLen_lst, dLen_seq, atI_0, atI_1, atI_2, atI_3, List.map_cons, List.map_nil, List.length_cons, List.length_nil, List.replicate_succ, List.replicate_zero, List.cons_append, List.nil_append, List.getElem?_cons_zero, List.getElem?_cons_succ, List.set_cons_zero, List.set_cons_succ, Nat.reduceAdd, Nat.reduceSub, Nat.zero_add, Nat.add_zero, Nat.sub_self, Nat.reduceMul, mostL_def, Nat.reduceLeDiff, Nat.reduceLT, ite_true, ite_false, if_true, if_false, ↓reduceIte, reduceIte, ↓br_ite, Bool.false_eq_true, reduceCtorEq, Bool.not_true, Bool.not_false, decide_true, decide_false, Int.cast_ofNat_Int, Int.reduceBEq, Int.reduceAdd, Int.reduceSub, Int.reduceMul, Int.reduceNeg, Int.reduceLT, Int.reduceLE, Int.reduceMod, Int.reduceDiv, sMeth1_ap, sSl_ap, sRev_ap, oNo_ap, oPart_ap, sDict0_ap, sSetL_ap, sLc2_ap, sStar_ap, isi_str, kit_str_int, kit_str_bool]
theorem whole_non {h : Ph} : f_is_whole [.non] h = .ok (.bl false) h := by
  unfold f_is_whole; simp (maxSteps := 4000000) (dsimp := false) (disch := first | assumption | decide | omega | walk_at "cm") only [runDef_ap, sVar_ap, sC_ap, sBin_ap, sNeg_ap, sAnd_ap, sOr_ap, sNot_ap, sIf_ap, sTst_ap, qAnd_ap, qOr_ap, qNot_ap, qYes_ap, sChain_ap, sChain3_ap, sNil_ap, sCons_ap, sTup_ap, sLst_ap, sLstM_ap, sCall_ap, g1_ap, g2_ap, sFn_ap, sAsg_ap, gNm_ap, gTp_ap, gConsS_ap, gNilS_ap, sPar_ap, sPar3_ap, sRet_ap, sRetN_ap, sNx_ap, sBrk_ap, sCnt_ap, sSeq_ap, sIte_ap, sDrop_ap, sFrz_ap, sAug_ap, iRange1_ap, iRange2_ap, iSeq_ap, sFor_ap, sLc_ap, R.toG_ok, ↓R.bind_bnd, bnd_ok, ↓R.bd_bdn, bdn_ok, ↓R.toF_tof, tof_ok, ↓F.seq_sqn, sqn_nx, sqn_ret, sqn_cnt, sqn_brk, ↓F.turn_trn, trn_nx, trn_ret, trn_cnt, trn_brk, F.end_nx, F.end_ret, ↓br_true, br_true, ↓br_false, br_false, Dbr, Dneg, Dtst, opt_some, dAdd_int, dIAdd_int, dSub_int, dLt_int, dLe_int, dGt_int, dGe_int, dEq_int, dNe_int, dEq_bl, dNe_bl, dMul_cm, dMod_pos, dDiv_pos, dAbs_int, dMax2_int, dMin2_int, dInt_int, dInt_bl, dIx_tup, dIx_lst, dIx_seq, dLen_tup, dLen_lst, dLen_seq, atI_0, atI_1, atI_2, atI_3, List.map_cons, List.map_nil, List.length_cons, List.length_nil, List.replicate_succ, List.replicate_zero, List.cons_append, List.nil_append, List.getElem?_cons_zero, List.getElem?_cons_succ, List.set_cons_zero, List.set_cons_succ, Nat.reduceAdd, Nat.reduceSub, Nat.zero_add, Nat.add_zero, Nat.sub_self, Nat.reduceMul, mostL_def, Nat.reduceLeDiff, Nat.reduceLT, ite_true, ite_false, if_true, if_false, ↓reduceIte, reduceIte, ↓br_ite, Bool.false_eq_true, reduceCtorEq, Bool.not_true, Bool.not_false, decide_true, decide_false, Int.cast_ofNat_Int, Int.reduceBEq, Int.reduceAdd, Int.reduceSub, Int.reduceMul, Int.reduceNeg, Int.reduceLT, Int.reduceLE, Int.reduceMod, Int.reduceDiv, sMeth1_ap, sSl_ap, sRev_ap, oNo_ap, oPart_ap, sDict0_ap, sSetL_ap, sLc2_ap, sStar_ap, isi_non, kit_non_int, kit_non_bool]
theorem whole_tup {i : List D} {h : Ph} : f_is_whole [.tup i] h = .ok (.bl false) h := by
  unfold f_is_whole; simp (maxSteps := 4000000) (dsimp := false) (disch := first | assumption | decide | omega | walk_at "cm") only [runDef_ap, sVar_ap, sC_ap, sBin_ap, sNeg_ap, sAnd_ap, sOr_ap, sNot_ap, sIf_ap, sTst_ap, qAnd_ap, qOr_ap, qNot_ap, qYes_ap, sChain_ap, sChain3_ap, sNil_ap, sCons_ap, sTup_ap, sLst_ap, sLstM_ap, sCall_ap, g1_ap, g2_ap, sFn_ap, sAsg_ap, gNm_ap, gTp_ap, gConsS_ap, gNilS_ap, sPar_ap, sPar3_ap, sRet_ap, sRetN_ap, sNx_ap, sBrk_ap, sCnt_ap, sSeq_ap, sIte_ap, sDrop_ap, sFrz_ap, sAug_ap, iRange1_ap, iRange2_ap, iSeq_ap, sFor_ap, sLc_ap, R.toG_ok, ↓R.bind_bnd, bnd_ok, ↓R.bd_bdn, bdn_ok, ↓R.toF_tof, tof_ok, ↓F.seq_sqn, sqn_nx, sqn_ret, sqn_cnt, sqn_brk, ↓F.turn_trn, trn_nx, trn_ret, trn_cnt, trn_brk, F.end_nx, F.end_ret, ↓br_true, br_true, ↓br_false, br_false, Dbr, Dneg, Dtst, opt_some, dAdd_int, dIAdd_int, dSub_int, dLt_int, dLe_int, dGt_int, dGe_int, dEq_int, dNe_int, dEq_bl, dNe_bl, dMul_cm, dMod_pos, dDiv_pos, dAbs_int, dMax2_int, dMin2_int, dInt_int, dInt_bl, dIx_tup, dIx_lst, dIx_seq, dLen_tup, dLen_lst, dLen_seq, atI_0, atI_1, atI_2, atI_3, List.map_cons, List.map_nil, List.length_cons, List.length_nil, List.replicate_succ, List.replicate_zero, List.cons_append, List.nil_append, List.getElem?_cons_zero, List.getElem?_cons_succ, List.set_cons_zero, List.set_cons_succ, Nat.reduceAdd, Nat.reduceSub, Nat.zero_add, Nat.add_zero, Nat.sub_self, Nat.reduceMul, mostL_def, Nat.reduceLeDiff, Nat.reduceLT, ite_true, ite_false, if_true, if_false, ↓reduceIte, reduceIte, ↓br_ite, Bool.false_eq_true, reduceCtorEq, Bool.not_true, Bool.not_false, decide_true, decide_false, Int.cast_ofNat_Int, Int.reduceBEq, Int.reduceAdd, Int.reduceSub, Int.reduceMul, Int.reduceNeg, Int.reduceLT, Int.reduceLE, Int.reduceMod, Int.reduceDiv, sMeth1_ap, sSl_ap, sRev_ap, oNo_ap, oPart_ap, sDict0_ap, sSetL_ap, sLc2_ap, sStar_ap, isi_tup, kit_tuple_int, kit_tuple_bool]
theorem whole_lst {i : List D} {h : Ph} : f_is_whole [.lst i] h = .ok (.bl false) h := by
  unfold f_is_whole; simp (maxSteps := 4000000) (dsimp := false) (disch := first | assumption | decide | omega | walk_at "cm") only [runDef_ap, sVar_ap, sC_ap, sBin_ap, sNeg_ap, sAnd_ap, sOr_ap, sNot_ap, sIf_ap, sTst_ap, qAnd_ap, qOr_ap, qNot_ap, qYes_ap, sChain_ap, sChain3_ap, sNil_ap, sCons_ap, sTup_ap, sLst_ap, sLstM_ap, sCall_ap, g1_ap, g2_ap, sFn_ap, sAsg_ap, gNm_ap, gTp_ap, gConsS_ap, gNilS_ap, sPar_ap, sPar3_ap, sRet_ap, sRetN_ap, sNx_ap, sBrk_ap, sCnt_ap, sSeq_ap, sIte_ap, sDrop_ap, sFrz_ap, sAug_ap, iRange1_ap, iRange2_ap, iSeq_ap, sFor_ap, sLc_ap, R.toG_ok, ↓R.bind_bnd, bnd_ok, ↓R.bd_bdn, bdn_ok, ↓R.toF_tof, tof_ok, ↓F.seq_sqn, sqn_nx, sqn_ret, sqn_cnt, sqn_brk, ↓F.turn_trn, trn_nx, trn_ret, trn_cnt, trn_brk, F.end_nx, F.end_ret, ↓br_true, br_true, ↓br_false, br_false, Dbr, Dneg, Dtst, opt_some, dAdd_int, dIAdd_int, dSub_int, dLt_int, dLe_int, dGt_int, dGe_int, dEq_int, dNe_int, dEq_bl, dNe_bl, dMul_cm, dMod_pos, dDiv_pos, dAbs_int, dMax2_int, dMin2_int, dInt_int, dInt_bl, dIx_tup, dIx_lst, dIx_seq, dLen_tup, dLen_lst, dLen_seq, atI_0, atI_1, atI_2, atI_3, List.map_cons, List.map_nil, List.length_cons, List.length_nil, List.replicate_succ, List.replicate_zero, List.cons_append, List.nil_append, List.getElem?_cons_zero, List.getElem?_cons_succ, List.set_cons_zero, List.set_cons_succ, Nat.reduceAdd, Nat.reduceSub, Nat.zero_add, Nat.add_zero, Nat.sub_self, Nat.reduceMul, mostL_def, Nat.reduceLeDiff, Nat.reduceLT, ite_true, ite_false, if_true, if_false, ↓reduceIte, reduceIte, ↓br_ite, Bool.false_eq_true, reduceCtorEq, Bool.not_true, Bool.not_false, decide_true, decide_false, Int.cast_ofNat_Int, Int.reduceBEq, Int.reduceAdd, Int.reduceSub, Int.reduceMul, Int.reduceNeg, Int.reduceLT, Int.reduceLE, Int.reduceMod, Int.reduceDiv, sMeth1_ap, sSl_ap, sRev_ap, oNo_ap, oPart_ap, sDict0_ap, sSetL_ap, sLc2_ap, sStar_ap, isi_lst, kit_list_int, kit_list_bool]
/-- within the greatest -/
def Iz (i : Int) : Bool := decide (-1000000000000000000000000000000000000000000000000000000000000 < i) && decide (i < 1000000000000000000000000000000000000000000000000000000000000)
theorem Iz.ok {i : Int} (s : Sm 199 i) : Iz i = true := by
  have := s.lt
  have h2 : (2 : Nat) ^ 199 < 1000000000000000000000000000000000000000000000000000000000000 := by decide
  unfold Iz
  simp
  omega
theorem integer_int {i : Int} {h : Ph} : f_is_integer [.int i] h = .ok (.bl (Iz i)) h := by
  unfold f_is_integer Iz; simp (maxSteps := 4000000) (dsimp := false) (disch := first | assumption | decide | omega | walk_at "cm") only [runDef_ap, sVar_ap, sC_ap, sBin_ap, sNeg_ap, sAnd_ap, sOr_ap, sNot_ap, sIf_ap, sTst_ap, qAnd_ap, qOr_ap, qNot_ap, qYes_ap, sChain_ap, sChain3_ap, sNil_ap, sCons_ap, sTup_ap, sLst_ap, sLstM_ap, sCall_ap, g1_ap, g2_ap, sFn_ap, sAsg_ap, gNm_ap, gTp_ap, gConsS_ap, gNilS_ap, sPar_ap, sPar3_ap, sRet_ap, sRetN_ap, sNx_ap, sBrk_ap, sCnt_ap, sSeq_ap, sIte_ap, sDrop_ap, sFrz_ap, sAug_ap, iRange1_ap, iRange2_ap, iSeq_ap, sFor_ap, sLc_ap, R.toG_ok, ↓R.bind_bnd, bnd_ok, ↓R.bd_bdn, bdn_ok, ↓R.toF_tof, tof_ok, ↓F.seq_sqn, sqn_nx, sqn_ret, sqn_cnt, sqn_brk, ↓F.turn_trn, trn_nx, trn_ret, trn_cnt, trn_brk, F.end_nx, F.end_ret, ↓br_true, br_true, ↓br_false, br_false, Dbr, Dneg, Dtst, opt_some, dAdd_int, dIAdd_int, dSub_int, dLt_int, dLe_int, dGt_int, dGe_int, dEq_int, dNe_int, dEq_bl, dNe_bl, dMul_cm, dMod_pos, dDiv_pos, dAbs_int, dMax2_int, dMin2_int, dInt_int, dInt_bl, dIx_tup, dIx_lst, dIx_seq, dLen_tup, dLen_lst, dLen_seq, atI_0, atI_1, atI_2, atI_3, List.map_cons, List.map_nil, List.length_cons, List.length_nil, List.replicate_succ, List.replicate_zero, List.cons_append, List.nil_append, List.getElem?_cons_zero, List.getElem?_cons_succ, List.set_cons_zero, List.set_cons_succ, Nat.reduceAdd, Nat.reduceSub, Nat.zero_add, Nat.add_zero, Nat.sub_self, Nat.reduceMul, mostL_def, Nat.reduceLeDiff, Nat.reduceLT, ite_true, ite_false, if_true, if_false, ↓reduceIte, reduceIte, ↓br_ite, Bool.false_eq_true, reduceCtorEq, Bool.not_true, Bool.not_false, decide_true, decide_false, Int.cast_ofNat_Int, Int.reduceBEq, Int.reduceAdd, Int.reduceSub, Int.reduceMul, Int.reduceNeg, Int.reduceLT, Int.reduceLE, Int.reduceMod, Int.reduceDiv, sMeth1_ap, sSl_ap, sRev_ap, oNo_ap, oPart_ap, sDict0_ap, sSetL_ap, sLc2_ap, sStar_ap, whole_int, sNeg_ap, it_bl, br_bl, it_and, br_and]
theorem integer_bl {i : Bool} {h : Ph} : f_is_integer [.bl i] h = .ok (.bl false) h := by
  unfold f_is_integer; simp (maxSteps := 4000000) (dsimp := false) (disch := first | assumption | decide | omega | walk_at "cm") only [runDef_ap, sVar_ap, sC_ap, sBin_ap, sNeg_ap, sAnd_ap, sOr_ap, sNot_ap, sIf_ap, sTst_ap, qAnd_ap, qOr_ap, qNot_ap, qYes_ap, sChain_ap, sChain3_ap, sNil_ap, sCons_ap, sTup_ap, sLst_ap, sLstM_ap, sCall_ap, g1_ap, g2_ap, sFn_ap, sAsg_ap, gNm_ap, gTp_ap, gConsS_ap, gNilS_ap, sPar_ap, sPar3_ap, sRet_ap, sRetN_ap, sNx_ap, sBrk_ap, sCnt_ap, sSeq_ap, sIte_ap, sDrop_ap, sFrz_ap, sAug_ap, iRange1_ap, iRange2_ap, iSeq_ap, sFor_ap, sLc_ap, R.toG_ok, ↓R.bind_bnd, bnd_ok, ↓R.bd_bdn, bdn_ok, ↓R.toF_tof, tof_ok, ↓F.seq_sqn, sqn_nx, sqn_ret, sqn_cnt, sqn_brk, ↓F.turn_trn, trn_nx, trn_ret, trn_cnt, trn_brk, F.end_nx, F.end_ret, ↓br_true, br_true, ↓br_false, br_false, Dbr, Dneg, Dtst, opt_some, dAdd_int, dIAdd_int, dSub_int, dLt_int, dLe_int, dGt_int, dGe_int, dEq_int, dNe_int, dEq_bl, dNe_bl, dMul_cm, dMod_pos, dDiv_pos, dAbs_int, dMax2_int, dMin2_int, dInt_int, dInt_bl, dIx_tup, dIx_lst, dIx_seq, dLen_tup, dLen_lst, dLen_seq, atI_0, atI_1, atI_2, atI_3, List.map_cons, List.map_nil, List.length_cons, List.length_nil, List.replicate_succ, List.replicate_zero, List.cons_append, List.nil_append, List.getElem?_cons_zero, List.getElem?_cons_succ, List.set_cons_zero, List.set_cons_succ, Nat.reduceAdd, Nat.reduceSub, Nat.zero_add, Nat.add_zero, Nat.sub_self, Nat.reduceMul, mostL_def, Nat.reduceLeDiff, Nat.reduceLT, ite_true, ite_false, if_true, if_false, ↓reduceIte, reduceIte, ↓br_ite, Bool.false_eq_true, reduceCtorEq, Bool.not_true, Bool.not_false, decide_true, decide_false, Int.cast_ofNat_Int, Int.reduceBEq, Int.reduceAdd, Int.reduceSub, Int.reduceMul, Int.reduceNeg, Int.reduceLT, Int.reduceLE, Int.reduceMod, Int.reduceDiv, sMeth1_ap, sSl_ap, sRev_ap, oNo_ap, oPart_ap, sDict0_ap, sSetL_ap, sLc2_ap, sStar_ap, whole_bl]
theorem integer_str {i : Str} {h : Ph} : f_is_integer [.str i] h = .ok (.bl false) h := by
  unfold f_is_integer; simp (maxSteps := 4000000) (dsimp := false) (disch := first | assumption | decide | omega | walk_at "cm") only [runDef_ap, sVar_ap, sC_ap, sBin_ap, sNeg_ap, sAnd_ap, sOr_ap, sNot_ap, sIf_ap, sTst_ap, qAnd_ap, qOr_ap, qNot_ap, qYes_ap, sChain_ap, sChain3_ap, sNil_ap, sCons_ap, sTup_ap, sLst_ap, sLstM_ap, sCall_ap, g1_ap, g2_ap, sFn_ap, sAsg_ap, gNm_ap, gTp_ap, gConsS_ap, gNilS_ap, sPar_ap, sPar3_ap, sRet_ap, sRetN_ap, sNx_ap, sBrk_ap, sCnt_ap, sSeq_ap, sIte_ap, sDrop_ap, sFrz_ap, sAug_ap, iRange1_ap, iRange2_ap, iSeq_ap, sFor_ap, sLc_ap, R.toG_ok, ↓R.bind_bnd, bnd_ok, ↓R.bd_bdn, bdn_ok, ↓R.toF_tof, tof_ok, ↓F.seq_sqn, sqn_nx, sqn_ret, sqn_cnt, sqn_brk, ↓F.turn_trn, trn_nx, trn_ret, trn_cnt, trn_brk, F.end_nx, F.end_ret, ↓br_true, br_true, ↓br_false, br_false, Dbr, Dneg, Dtst, opt_some, dAdd_int, dIAdd_int, dSub_int, dLt_int, dLe_int, dGt_int, dGe_int, dEq_int, dNe_int, dEq_bl, dNe_bl, dMul_cm, dMod_pos, dDiv_pos, dAbs_int, dMax2_int, dMin2_int, dInt_int, dInt_bl, dIx_tup, dIx_lst, dIx_seq, dLen_tup, dLen_lst, dLen_seq, atI_0, atI_1, atI_2, atI_3, List.map_cons, List.map_nil, List.length_cons, List.length_nil, List.replicate_succ, List.replicate_zero, List.cons_append, List.nil_append, List.getElem?_cons_zero, List.getElem?_cons_succ, List.set_cons_zero, List.set_cons_succ, Nat.reduceAdd, Nat.reduceSub, Nat.zero_add, Nat.add_zero, Nat.sub_self, Nat.reduceMul, mostL_def, Nat.reduceLeDiff, Nat.reduceLT, ite_true, ite_false, if_true, if_false, ↓reduceIte, reduceIte, ↓br_ite, Bool.false_eq_true, reduceCtorEq, Bool.not_true, Bool.not_false, decide_true, decide_false, Int.cast_ofNat_Int, Int.reduceBEq, Int.reduceAdd, Int.reduceSub, Int.reduceMul, Int.reduceNeg, Int.reduceLT, Int.reduceLE, Int.reduceMod, Int.reduceDiv, sMeth1_ap, sSl_ap, sRev_ap, oNo_ap, oPart_ap, sDict0_ap, sSetL_ap, sLc2_ap, sStar_ap, whole_str]
theorem integer_non {h : Ph} : f_is_integer [.non] h = .ok (.bl false) h := by
  unfold f_is_integer; simp (maxSteps := 4000000) (dsimp := false) (disch := first | assumption | decide | omega | walk_at "cm") only [runDef_ap, sVar_ap, sC_ap, sBin_ap, sNeg_ap, sAnd_ap, sOr_ap, sNot_ap, sIf_ap, sTst_ap, qAnd_ap, qOr_ap, qNot_ap, qYes_ap, sChain_ap, sChain3_ap, sNil_ap, sCons_ap, sTup_ap, sLst_ap, sLstM_ap, sCall_ap, g1_ap, g2_ap, sFn_ap, sAsg_ap, gNm_ap, gTp_ap, gConsS_ap, gNilS_ap, sPar_ap, sPar3_ap, sRet_ap, sRetN_ap, sNx_ap, sBrk_ap, sCnt_ap, sSeq_ap, sIte_ap, sDrop_ap, sFrz_ap, sAug_ap, iRange1_ap, iRange2_ap, iSeq_ap, sFor_ap, sLc_ap, R.toG_ok, ↓R.bind_bnd, bnd_ok, ↓R.bd_bdn, bdn_ok, ↓R.toF_tof, tof_ok, ↓F.seq_sqn, sqn_nx, sqn_ret, sqn_cnt, sqn_brk, ↓F.turn_trn, trn_nx, trn_ret, trn_cnt, trn_brk, F.end_nx, F.end_ret, ↓br_true, br_true, ↓br_false, br_false, Dbr, Dneg, Dtst, opt_some, dAdd_int, dIAdd_int, dSub_int, dLt_int, dLe_int, dGt_int, dGe_int, dEq_int, dNe_int, dEq_bl, dNe_bl, dMul_cm, dMod_pos, dDiv_pos, dAbs_int, dMax2_int, dMin2_int, dInt_int, dInt_bl, dIx_tup, dIx_lst, dIx_seq, dLen_tup, dLen_lst, dLen_seq, atI_0, atI_1, atI_2, atI_3, List.map_cons, List.map_nil, List.length_cons, List.length_nil, List.replicate_succ, List.replicate_zero, List.cons_append, List.nil_append, List.getElem?_cons_zero, List.getElem?_cons_succ, List.set_cons_zero, List.set_cons_succ, Nat.reduceAdd, Nat.reduceSub, Nat.zero_add, Nat.add_zero, Nat.sub_self, Nat.reduceMul, mostL_def, Nat.reduceLeDiff, Nat.reduceLT, ite_true, ite_false, if_true, if_false, ↓reduceIte, reduceIte, ↓br_ite, Bool.false_eq_true, reduceCtorEq, Bool.not_true, Bool.not_false, decide_true, decide_false, Int.cast_ofNat_Int, Int.reduceBEq, Int.reduceAdd, Int.reduceSub, Int.reduceMul, Int.reduceNeg, Int.reduceLT, Int.reduceLE, Int.reduceMod, Int.reduceDiv, sMeth1_ap, sSl_ap, sRev_ap, oNo_ap, oPart_ap, sDict0_ap, sSetL_ap, sLc2_ap, sStar_ap, whole_non]
theorem integer_tup {i : List D} {h : Ph} : f_is_integer [.tup i] h = .ok (.bl false) h := by
  unfold f_is_integer; simp (maxSteps := 4000000) (dsimp := false) (disch := first | assumption | decide | omega | walk_at "cm") only [runDef_ap, sVar_ap, sC_ap, sBin_ap, sNeg_ap, sAnd_ap, sOr_ap, sNot_ap, sIf_ap, sTst_ap, qAnd_ap, qOr_ap, qNot_ap, qYes_ap, sChain_ap, sChain3_ap, sNil_ap, sCons_ap, sTup_ap, sLst_ap, sLstM_ap, sCall_ap, g1_ap, g2_ap, sFn_ap, sAsg_ap, gNm_ap, gTp_ap, gConsS_ap, gNilS_ap, sPar_ap, sPar3_ap, sRet_ap, sRetN_ap, sNx_ap, sBrk_ap, sCnt_ap, sSeq_ap, sIte_ap, sDrop_ap, sFrz_ap, sAug_ap, iRange1_ap, iRange2_ap, iSeq_ap, sFor_ap, sLc_ap, R.toG_ok, ↓R.bind_bnd, bnd_ok, ↓R.bd_bdn, bdn_ok, ↓R.toF_tof, tof_ok, ↓F.seq_sqn, sqn_nx, sqn_ret, sqn_cnt, sqn_brk, ↓F.turn_trn, trn_nx, trn_ret, trn_cnt, trn_brk, F.end_nx, F.end_ret, ↓br_true, br_true, ↓br_false, br_false, Dbr, Dneg, Dtst, opt_some, dAdd_int, dIAdd_int, dSub_int, dLt_int, dLe_int, dGt_int, dGe_int, dEq_int, dNe_int, dEq_bl, dNe_bl, dMul_cm, dMod_pos, dDiv_pos, dAbs_int, dMax2_int, dMin2_int, dInt_int, dInt_bl, dIx_tup, dIx_lst, dIx_seq, dLen_tup, dLen_lst, dLen_seq, atI_0, atI_1, atI_2, atI_3, List.map_cons, List.map_nil, List.length_cons, List.length_nil, List.replicate_succ, List.replicate_zero, List.cons_append, List.nil_append, List.getElem?_cons_zero, List.getElem?_cons_succ, List.set_cons_zero, List.set_cons_succ, Nat.reduceAdd, Nat.reduceSub, Nat.zero_add, Nat.add_zero, Nat.sub_self, Nat.reduceMul, mostL_def, Nat.reduceLeDiff, Nat.reduceLT, ite_true, ite_false, if_true, if_false, ↓reduceIte, reduceIte, ↓br_ite, Bool.false_eq_true, reduceCtorEq, Bool.not_true, Bool.not_false, decide_true, decide_false, Int.cast_ofNat_Int, Int.reduceBEq, Int.reduceAdd, Int.reduceSub, Int.reduceMul, Int.reduceNeg, Int.reduceLT, Int.reduceLE, Int.reduceMod, Int.reduceDiv, sMeth1_ap, sSl_ap, sRev_ap, oNo_ap, oPart_ap, sDict0_ap, sSetL_ap, sLc2_ap, sStar_ap, whole_tup]
/-! ### forms -/
theorem measure_in_ok {a b c : Int} {h : Ph} (sa : Sm 200 a) (sb : Sm 200 b) (sc : Sm 200 c) : f_measure_in [.tup [.int a, .int b, .int c]] h = .ok (.int (4 * a * c - b * b)) h := by
  unfold f_measure_in; simp (maxSteps := 4000000) (dsimp := false) (disch := first | assumption | decide | omega | walk_at "cm") only [runDef_ap, sVar_ap, sC_ap, sBin_ap, sNeg_ap, sAnd_ap, sOr_ap, sNot_ap, sIf_ap, sTst_ap, qAnd_ap, qOr_ap, qNot_ap, qYes_ap, sChain_ap, sChain3_ap, sNil_ap, sCons_ap, sTup_ap, sLst_ap, sLstM_ap, sCall_ap, g1_ap, g2_ap, sFn_ap, sAsg_ap, gNm_ap, gTp_ap, gConsS_ap, gNilS_ap, sPar_ap, sPar3_ap, sRet_ap, sRetN_ap, sNx_ap, sBrk_ap, sCnt_ap, sSeq_ap, sIte_ap, sDrop_ap, sFrz_ap, sAug_ap, iRange1_ap, iRange2_ap, iSeq_ap, sFor_ap, sLc_ap, R.toG_ok, ↓R.bind_bnd, bnd_ok, ↓R.bd_bdn, bdn_ok, ↓R.toF_tof, tof_ok, ↓F.seq_sqn, sqn_nx, sqn_ret, sqn_cnt, sqn_brk, ↓F.turn_trn, trn_nx, trn_ret, trn_cnt, trn_brk, F.end_nx, F.end_ret, ↓br_true, br_true, ↓br_false, br_false, Dbr, Dneg, Dtst, opt_some, dAdd_int, dIAdd_int, dSub_int, dLt_int, dLe_int, dGt_int, dGe_int, dEq_int, dNe_int, dEq_bl, dNe_bl, dMul_cm, dMod_pos, dDiv_pos, dAbs_int, dMax2_int, dMin2_int, dInt_int, dInt_bl, dIx_tup, dIx_lst, dIx_seq, dLen_tup, dLen_lst, dLen_seq, atI_0, atI_1, atI_2, atI_3, List.map_cons, List.map_nil, List.length_cons, List.length_nil, List.replicate_succ, List.replicate_zero, List.cons_append, List.nil_append, List.getElem?_cons_zero, List.getElem?_cons_succ, List.set_cons_zero, List.set_cons_succ, Nat.reduceAdd, Nat.reduceSub, Nat.zero_add, Nat.add_zero, Nat.sub_self, Nat.reduceMul, mostL_def, Nat.reduceLeDiff, Nat.reduceLT, ite_true, ite_false, if_true, if_false, ↓reduceIte, reduceIte, ↓br_ite, Bool.false_eq_true, reduceCtorEq, Bool.not_true, Bool.not_false, decide_true, decide_false, Int.cast_ofNat_Int, Int.reduceBEq, Int.reduceAdd, Int.reduceSub, Int.reduceMul, Int.reduceNeg, Int.reduceLT, Int.reduceLE, Int.reduceMod, Int.reduceDiv, sMeth1_ap, sSl_ap, sRev_ap, oNo_ap, oPart_ap, sDict0_ap, sSetL_ap, sLc2_ap, sStar_ap]
theorem form_non {h : Ph} : f_is_form [.non] h = .ok (.bl false) h := by
  unfold f_is_form; simp (maxSteps := 4000000) (dsimp := false) (disch := first | assumption | decide | omega | walk_at "cm") only [runDef_ap, sVar_ap, sC_ap, sBin_ap, sNeg_ap, sAnd_ap, sOr_ap, sNot_ap, sIf_ap, sTst_ap, qAnd_ap, qOr_ap, qNot_ap, qYes_ap, sChain_ap, sChain3_ap, sNil_ap, sCons_ap, sTup_ap, sLst_ap, sLstM_ap, sCall_ap, g1_ap, g2_ap, sFn_ap, sAsg_ap, gNm_ap, gTp_ap, gConsS_ap, gNilS_ap, sPar_ap, sPar3_ap, sRet_ap, sRetN_ap, sNx_ap, sBrk_ap, sCnt_ap, sSeq_ap, sIte_ap, sDrop_ap, sFrz_ap, sAug_ap, iRange1_ap, iRange2_ap, iSeq_ap, sFor_ap, sLc_ap, R.toG_ok, ↓R.bind_bnd, bnd_ok, ↓R.bd_bdn, bdn_ok, ↓R.toF_tof, tof_ok, ↓F.seq_sqn, sqn_nx, sqn_ret, sqn_cnt, sqn_brk, ↓F.turn_trn, trn_nx, trn_ret, trn_cnt, trn_brk, F.end_nx, F.end_ret, ↓br_true, br_true, ↓br_false, br_false, Dbr, Dneg, Dtst, opt_some, dAdd_int, dIAdd_int, dSub_int, dLt_int, dLe_int, dGt_int, dGe_int, dEq_int, dNe_int, dEq_bl, dNe_bl, dMul_cm, dMod_pos, dDiv_pos, dAbs_int, dMax2_int, dMin2_int, dInt_int, dInt_bl, dIx_tup, dIx_lst, dIx_seq, dLen_tup, dLen_lst, dLen_seq, atI_0, atI_1, atI_2, atI_3, List.map_cons, List.map_nil, List.length_cons, List.length_nil, List.replicate_succ, List.replicate_zero, List.cons_append, List.nil_append, List.getElem?_cons_zero, List.getElem?_cons_succ, List.set_cons_zero, List.set_cons_succ, Nat.reduceAdd, Nat.reduceSub, Nat.zero_add, Nat.add_zero, Nat.sub_self, Nat.reduceMul, mostL_def, Nat.reduceLeDiff, Nat.reduceLT, ite_true, ite_false, if_true, if_false, ↓reduceIte, reduceIte, ↓br_ite, Bool.false_eq_true, reduceCtorEq, Bool.not_true, Bool.not_false, decide_true, decide_false, Int.cast_ofNat_Int, Int.reduceBEq, Int.reduceAdd, Int.reduceSub, Int.reduceMul, Int.reduceNeg, Int.reduceLT, Int.reduceLE, Int.reduceMod, Int.reduceDiv, sMeth1_ap, sSl_ap, sRev_ap, oNo_ap, oPart_ap, sDict0_ap, sSetL_ap, sLc2_ap, sStar_ap, isi_non, kit_non_tuple]
theorem form_int {i : Int} {h : Ph} : f_is_form [.int i] h = .ok (.bl false) h := by
  unfold f_is_form; simp (maxSteps := 4000000) (dsimp := false) (disch := first | assumption | decide | omega | walk_at "cm") only [runDef_ap, sVar_ap, sC_ap, sBin_ap, sNeg_ap, sAnd_ap, sOr_ap, sNot_ap, sIf_ap, sTst_ap, qAnd_ap, qOr_ap, qNot_ap, qYes_ap, sChain_ap, sChain3_ap, sNil_ap, sCons_ap, sTup_ap, sLst_ap, sLstM_ap, sCall_ap, g1_ap, g2_ap, sFn_ap, sAsg_ap, gNm_ap, gTp_ap, gConsS_ap, gNilS_ap, sPar_ap, sPar3_ap, sRet_ap, sRetN_ap, sNx_ap, sBrk_ap, sCnt_ap, sSeq_ap, sIte_ap, sDrop_ap, sFrz_ap, sAug_ap, iRange1_ap, iRange2_ap, iSeq_ap, sFor_ap, sLc_ap, R.toG_ok, ↓R.bind_bnd, bnd_ok, ↓R.bd_bdn, bdn_ok, ↓R.toF_tof, tof_ok, ↓F.seq_sqn, sqn_nx, sqn_ret, sqn_cnt, sqn_brk, ↓F.turn_trn, trn_nx, trn_ret, trn_cnt, trn_brk, F.end_nx, F.end_ret, ↓br_true, br_true, ↓br_false, br_false, Dbr, Dneg, Dtst, opt_some, dAdd_int, dIAdd_int, dSub_int, dLt_int, dLe_int, dGt_int, dGe_int, dEq_int, dNe_int, dEq_bl, dNe_bl, dMul_cm, dMod_pos, dDiv_pos, dAbs_int, dMax2_int, dMin2_int, dInt_int, dInt_bl, dIx_tup, dIx_lst, dIx_seq, dLen_tup, dLen_lst, dLen_seq, atI_0, atI_1, atI_2, atI_3, List.map_cons, List.map_nil, List.length_cons, List.length_nil, List.replicate_succ, List.replicate_zero, List.cons_append, List.nil_append, List.getElem?_cons_zero, List.getElem?_cons_succ, List.set_cons_zero, List.set_cons_succ, Nat.reduceAdd, Nat.reduceSub, Nat.zero_add, Nat.add_zero, Nat.sub_self, Nat.reduceMul, mostL_def, Nat.reduceLeDiff, Nat.reduceLT, ite_true, ite_false, if_true, if_false, ↓reduceIte, reduceIte, ↓br_ite, Bool.false_eq_true, reduceCtorEq, Bool.not_true, Bool.not_false, decide_true, decide_false, Int.cast_ofNat_Int, Int.reduceBEq, Int.reduceAdd, Int.reduceSub, Int.reduceMul, Int.reduceNeg, Int.reduceLT, Int.reduceLE, Int.reduceMod, Int.reduceDiv, sMeth1_ap, sSl_ap, sRev_ap, oNo_ap, oPart_ap, sDict0_ap, sSetL_ap, sLc2_ap, sStar_ap, isi_int, kit_int_tuple]
theorem form_str {i : Str} {h : Ph} : f_is_form [.str i] h = .ok (.bl false) h := by
  unfold f_is_form; simp (maxSteps := 4000000) (dsimp := false) (disch := first | assumption | decide | omega | walk_at "cm") only [runDef_ap, sVar_ap, sC_ap, sBin_ap, sNeg_ap, sAnd_ap, sOr_ap, sNot_ap, sIf_ap, sTst_ap, qAnd_ap, qOr_ap, qNot_ap, qYes_ap, sChain_ap, sChain3_ap, sNil_ap, sCons_ap, sTup_ap, sLst_ap, sLstM_ap, sCall_ap, g1_ap, g2_ap, sFn_ap, sAsg_ap, gNm_ap, gTp_ap, gConsS_ap, gNilS_ap, sPar_ap, sPar3_ap, sRet_ap, sRetN_ap, sNx_ap, sBrk_ap, sCnt_ap, sSeq_ap, sIte_ap, sDrop_ap, sFrz_ap, sAug_ap, iRange1_ap, iRange2_ap, iSeq_ap, sFor_ap, sLc_ap, R.toG_ok, ↓R.bind_bnd, bnd_ok, ↓R.bd_bdn, bdn_ok, ↓R.toF_tof, tof_ok, ↓F.seq_sqn, sqn_nx, sqn_ret, sqn_cnt, sqn_brk, ↓F.turn_trn, trn_nx, trn_ret, trn_cnt, trn_brk, F.end_nx, F.end_ret, ↓br_true, br_true, ↓br_false, br_false, Dbr, Dneg, Dtst, opt_some, dAdd_int, dIAdd_int, dSub_int, dLt_int, dLe_int, dGt_int, dGe_int, dEq_int, dNe_int, dEq_bl, dNe_bl, dMul_cm, dMod_pos, dDiv_pos, dAbs_int, dMax2_int, dMin2_int, dInt_int, dInt_bl, dIx_tup, dIx_lst, dIx_seq, dLen_tup, dLen_lst, dLen_seq, atI_0, atI_1, atI_2, atI_3, List.map_cons, List.map_nil, List.length_cons, List.length_nil, List.replicate_succ, List.replicate_zero, List.cons_append, List.nil_append, List.getElem?_cons_zero, List.getElem?_cons_succ, List.set_cons_zero, List.set_cons_succ, Nat.reduceAdd, Nat.reduceSub, Nat.zero_add, Nat.add_zero, Nat.sub_self, Nat.reduceMul, mostL_def, Nat.reduceLeDiff, Nat.reduceLT, ite_true, ite_false, if_true, if_false, ↓reduceIte, reduceIte, ↓br_ite, Bool.false_eq_true, reduceCtorEq, Bool.not_true, Bool.not_false, decide_true, decide_false, Int.cast_ofNat_Int, Int.reduceBEq, Int.reduceAdd, Int.reduceSub, Int.reduceMul, Int.reduceNeg, Int.reduceLT, Int.reduceLE, Int.reduceMod, Int.reduceDiv, sMeth1_ap, sSl_ap, sRev_ap, oNo_ap, oPart_ap, sDict0_ap, sSetL_ap, sLc2_ap, sStar_ap, isi_str, kit_str_tuple]
theorem form_lst {i : List D} {h : Ph} : f_is_form [.lst i] h = .ok (.bl false) h := by
  unfold f_is_form; simp (maxSteps := 4000000) (dsimp := false) (disch := first | assumption | decide | omega | walk_at "cm") only [runDef_ap, sVar_ap, sC_ap, sBin_ap, sNeg_ap, sAnd_ap, sOr_ap, sNot_ap, sIf_ap, sTst_ap, qAnd_ap, qOr_ap, qNot_ap, qYes_ap, sChain_ap, sChain3_ap, sNil_ap, sCons_ap, sTup_ap, sLst_ap, sLstM_ap, sCall_ap, g1_ap, g2_ap, sFn_ap, sAsg_ap, gNm_ap, gTp_ap, gConsS_ap, gNilS_ap, sPar_ap, sPar3_ap, sRet_ap, sRetN_ap, sNx_ap, sBrk_ap, sCnt_ap, sSeq_ap, sIte_ap, sDrop_ap, sFrz_ap, sAug_ap, iRange1_ap, iRange2_ap, iSeq_ap, sFor_ap, sLc_ap, R.toG_ok, ↓R.bind_bnd, bnd_ok, ↓R.bd_bdn, bdn_ok, ↓R.toF_tof, tof_ok, ↓F.seq_sqn, sqn_nx, sqn_ret, sqn_cnt, sqn_brk, ↓F.turn_trn, trn_nx, trn_ret, trn_cnt, trn_brk, F.end_nx, F.end_ret, ↓br_true, br_true, ↓br_false, br_false, Dbr, Dneg, Dtst, opt_some, dAdd_int, dIAdd_int, dSub_int, dLt_int, dLe_int, dGt_int, dGe_int, dEq_int, dNe_int, dEq_bl, dNe_bl, dMul_cm, dMod_pos, dDiv_pos, dAbs_int, dMax2_int, dMin2_int, dInt_int, dInt_bl, dIx_tup, dIx_lst, dIx_seq, dLen_tup, dLen_lst, dLen_seq, atI_0, atI_1, atI_2, atI_3, List.map_cons, List.map_nil, List.length_cons, List.length_nil, List.replicate_succ, List.replicate_zero, List.cons_append, List.nil_append, List.getElem?_cons_zero, List.getElem?_cons_succ, List.set_cons_zero, List.set_cons_succ, Nat.reduceAdd, Nat.reduceSub, Nat.zero_add, Nat.add_zero, Nat.sub_self, Nat.reduceMul, mostL_def, Nat.reduceLeDiff, Nat.reduceLT, ite_true, ite_false, if_true, if_false, ↓reduceIte, reduceIte, ↓br_ite, Bool.false_eq_true, reduceCtorEq, Bool.not_true, Bool.not_false, decide_true, decide_false, Int.cast_ofNat_Int, Int.reduceBEq, Int.reduceAdd, Int.reduceSub, Int.reduceMul, Int.reduceNeg, Int.reduceLT, Int.reduceLE, Int.reduceMod, Int.reduceDiv, sMeth1_ap, sSl_ap, sRev_ap, oNo_ap, oPart_ap, sDict0_ap, sSetL_ap, sLc2_ap, sStar_ap, isi_lst, kit_list_tuple]
theorem form_len {xs : List D} {h : Ph} (hn : ((xs.length : Int) == 3) = false) : f_is_form [.tup xs] h = .ok (.bl false) h := by
  unfold f_is_form; simp (maxSteps := 4000000) (dsimp := false) (disch := first | assumption | decide | omega | walk_at "cm") only [runDef_ap, sVar_ap, sC_ap, sBin_ap, sNeg_ap, sAnd_ap, sOr_ap, sNot_ap, sIf_ap, sTst_ap, qAnd_ap, qOr_ap, qNot_ap, qYes_ap, sChain_ap, sChain3_ap, sNil_ap, sCons_ap, sTup_ap, sLst_ap, sLstM_ap, sCall_ap, g1_ap, g2_ap, sFn_ap, sAsg_ap, gNm_ap, gTp_ap, gConsS_ap, gNilS_ap, sPar_ap, sPar3_ap, sRet_ap, sRetN_ap, sNx_ap, sBrk_ap, sCnt_ap, sSeq_ap, sIte_ap, sDrop_ap, sFrz_ap, sAug_ap, iRange1_ap, iRange2_ap, iSeq_ap, sFor_ap, sLc_ap, R.toG_ok, ↓R.bind_bnd, bnd_ok, ↓R.bd_bdn, bdn_ok, ↓R.toF_tof, tof_ok, ↓F.seq_sqn, sqn_nx, sqn_ret, sqn_cnt, sqn_brk, ↓F.turn_trn, trn_nx, trn_ret, trn_cnt, trn_brk, F.end_nx, F.end_ret, ↓br_true, br_true, ↓br_false, br_false, Dbr, Dneg, Dtst, opt_some, dAdd_int, dIAdd_int, dSub_int, dLt_int, dLe_int, dGt_int, dGe_int, dEq_int, dNe_int, dEq_bl, dNe_bl, dMul_cm, dMod_pos, dDiv_pos, dAbs_int, dMax2_int, dMin2_int, dInt_int, dInt_bl, dIx_tup, dIx_lst, dIx_seq, dLen_tup, dLen_lst, dLen_seq, atI_0, atI_1, atI_2, atI_3, List.map_cons, List.map_nil, List.length_cons, List.length_nil, List.replicate_succ, List.replicate_zero, List.cons_append, List.nil_append, List.getElem?_cons_zero, List.getElem?_cons_succ, List.set_cons_zero, List.set_cons_succ, Nat.reduceAdd, Nat.reduceSub, Nat.zero_add, Nat.add_zero, Nat.sub_self, Nat.reduceMul, mostL_def, Nat.reduceLeDiff, Nat.reduceLT, ite_true, ite_false, if_true, if_false, ↓reduceIte, reduceIte, ↓br_ite, Bool.false_eq_true, reduceCtorEq, Bool.not_true, Bool.not_false, decide_true, decide_false, Int.cast_ofNat_Int, Int.reduceBEq, Int.reduceAdd, Int.reduceSub, Int.reduceMul, Int.reduceNeg, Int.reduceLT, Int.reduceLE, Int.reduceMod, Int.reduceDiv, sMeth1_ap, sSl_ap, sRev_ap, oNo_ap, oPart_ap, sDict0_ap, sSetL_ap, sLc2_ap, sStar_ap, isi_tup, kit_tuple_tuple, hn]
theorem form_bad {x y z : D} {p q r : Bool} {h : Ph} (hx : f_is_integer [x] h = .ok (.bl p) h) (hy : f_is_integer [y] h = .ok (.bl q) h) (hz : f_is_integer [z] h = .ok (.bl r) h) (hb : (p && (q && r)) = false) : f_is_form [.tup [x, y, z]] h = .ok (.bl false) h := by
  have e : ((3 : Int) == 3) = true := rfl
  unfold f_is_form; simp (maxSteps := 4000000) (dsimp := false) (disch := first | assumption | decide | omega | walk_at "cm") only [runDef_ap, sVar_ap, sC_ap, sBin_ap, sNeg_ap, sAnd_ap, sOr_ap, sNot_ap, sIf_ap, sTst_ap, qAnd_ap, qOr_ap, qNot_ap, qYes_ap, sChain_ap, sChain3_ap, sNil_ap, sCons_ap, sTup_ap, sLst_ap, sLstM_ap, sCall_ap, g1_ap, g2_ap, sFn_ap, sAsg_ap, gNm_ap, gTp_ap, gConsS_ap, gNilS_ap, sPar_ap, sPar3_ap, sRet_ap, sRetN_ap, sNx_ap, sBrk_ap, sCnt_ap, sSeq_ap, sIte_ap, sDrop_ap, sFrz_ap, sAug_ap, iRange1_ap, iRange2_ap, iSeq_ap, sFor_ap, sLc_ap, R.toG_ok, ↓R.bind_bnd, bnd_ok, ↓R.bd_bdn, bdn_ok, ↓R.toF_tof, tof_ok, ↓F.seq_sqn, sqn_nx, sqn_ret, sqn_cnt, sqn_brk, ↓F.turn_trn, trn_nx, trn_ret, trn_cnt, trn_brk, F.end_nx, F.end_ret, ↓br_true, br_true, ↓br_false, br_false, Dbr, Dneg, Dtst, opt_some, dAdd_int, dIAdd_int, dSub_int, dLt_int, dLe_int, dGt_int, dGe_int, dEq_int, dNe_int, dEq_bl, dNe_bl, dMul_cm, dMod_pos, dDiv_pos, dAbs_int, dMax2_int, dMin2_int, dInt_int, dInt_bl, dIx_tup, dIx_lst, dIx_seq, dLen_tup, dLen_lst, dLen_seq, atI_0, atI_1, atI_2, atI_3, List.map_cons, List.map_nil, List.length_cons, List.length_nil, List.replicate_succ, List.replicate_zero, List.cons_append, List.nil_append, List.getElem?_cons_zero, List.getElem?_cons_succ, List.set_cons_zero, List.set_cons_succ, Nat.reduceAdd, Nat.reduceSub, Nat.zero_add, Nat.add_zero, Nat.sub_self, Nat.reduceMul, mostL_def, Nat.reduceLeDiff, Nat.reduceLT, ite_true, ite_false, if_true, if_false, ↓reduceIte, reduceIte, ↓br_ite, Bool.false_eq_true, reduceCtorEq, Bool.not_true, Bool.not_false, decide_true, decide_false, Int.cast_ofNat_Int, Int.reduceBEq, Int.reduceAdd, Int.reduceSub, Int.reduceMul, Int.reduceNeg, Int.reduceLT, Int.reduceLE, Int.reduceMod, Int.reduceDiv, sMeth1_ap, sSl_ap, sRev_ap, oNo_ap, oPart_ap, sDict0_ap, sSetL_ap, sLc2_ap, sStar_ap, isi_tup, kit_tuple_tuple, compGo_cons, compGo_nil, wipe_cons, wipe_nil, iSeq_at, dAll_lst, bls_cons, bls_nil, Option.map_some, List.all_cons, List.all_nil, id, hx, hy, hz, hb, Bool.and_true]
theorem form_ok {a b c : Int} {h : Ph} (sa : Sm 199 a) (sb : Sm 199 b) (sc : Sm 199 c) : f_is_form [.tup [.int a, .int b, .int c]] h = .ok (.bl (decide (0 < a) && decide (0 < 4 * a * c - b * b))) h := by
  have m := measure_in_ok (h := h) (sa.mono (by decide : 199 ≤ 200)) (sb.mono (by decide : 199 ≤ 200)) (sc.mono (by decide : 199 ≤ 200))
  unfold f_is_form; simp (maxSteps := 4000000) (dsimp := false) (disch := first | assumption | decide | omega | walk_at "cm") only [runDef_ap, sVar_ap, sC_ap, sBin_ap, sNeg_ap, sAnd_ap, sOr_ap, sNot_ap, sIf_ap, sTst_ap, qAnd_ap, qOr_ap, qNot_ap, qYes_ap, sChain_ap, sChain3_ap, sNil_ap, sCons_ap, sTup_ap, sLst_ap, sLstM_ap, sCall_ap, g1_ap, g2_ap, sFn_ap, sAsg_ap, gNm_ap, gTp_ap, gConsS_ap, gNilS_ap, sPar_ap, sPar3_ap, sRet_ap, sRetN_ap, sNx_ap, sBrk_ap, sCnt_ap, sSeq_ap, sIte_ap, sDrop_ap, sFrz_ap, sAug_ap, iRange1_ap, iRange2_ap, iSeq_ap, sFor_ap, sLc_ap, R.toG_ok, ↓R.bind_bnd, bnd_ok, ↓R.bd_bdn, bdn_ok, ↓R.toF_tof, tof_ok, ↓F.seq_sqn, sqn_nx, sqn_ret, sqn_cnt, sqn_brk, ↓F.turn_trn, trn_nx, trn_ret, trn_cnt, trn_brk, F.end_nx, F.end_ret, ↓br_true, br_true, ↓br_false, br_false, Dbr, Dneg, Dtst, opt_some, dAdd_int, dIAdd_int, dSub_int, dLt_int, dLe_int, dGt_int, dGe_int, dEq_int, dNe_int, dEq_bl, dNe_bl, dMul_cm, dMod_pos, dDiv_pos, dAbs_int, dMax2_int, dMin2_int, dInt_int, dInt_bl, dIx_tup, dIx_lst, dIx_seq, dLen_tup, dLen_lst, dLen_seq, atI_0, atI_1, atI_2, atI_3, List.map_cons, List.map_nil, List.length_cons, List.length_nil, List.replicate_succ, List.replicate_zero, List.cons_append, List.nil_append, List.getElem?_cons_zero, List.getElem?_cons_succ, List.set_cons_zero, List.set_cons_succ, Nat.reduceAdd, Nat.reduceSub, Nat.zero_add, Nat.add_zero, Nat.sub_self, Nat.reduceMul, mostL_def, Nat.reduceLeDiff, Nat.reduceLT, ite_true, ite_false, if_true, if_false, ↓reduceIte, reduceIte, ↓br_ite, Bool.false_eq_true, reduceCtorEq, Bool.not_true, Bool.not_false, decide_true, decide_false, Int.cast_ofNat_Int, Int.reduceBEq, Int.reduceAdd, Int.reduceSub, Int.reduceMul, Int.reduceNeg, Int.reduceLT, Int.reduceLE, Int.reduceMod, Int.reduceDiv, sMeth1_ap, sSl_ap, sRev_ap, oNo_ap, oPart_ap, sDict0_ap, sSetL_ap, sLc2_ap, sStar_ap, isi_tup, kit_tuple_tuple, compGo_cons, compGo_nil, wipe_cons, wipe_nil, iSeq_at, dAll_lst, bls_cons, bls_nil, Option.map_some, List.all_cons, List.all_nil, id, integer_int, Iz.ok sa, Iz.ok sb, Iz.ok sc, Bool.and_true, m, it_bl, br_bl, it_and, br_and]
/-- three whole numbers of a form with a measure above 0 -/
structure Fm (k : Nat) (a b c : Int) : Prop where
  sa : Sm k a
  sb : Sm k b
  sc : Sm k c
  pos : 0 < a
  mea : 0 < 4 * a * c - b * b
theorem Fm.mono {j k : Nat} {a b c : Int} (f : Fm j a b c) (h : j ≤ k) : Fm k a b c := ⟨f.sa.mono h, f.sb.mono h, f.sc.mono h, f.pos, f.mea⟩
abbrev T3 (a b c : Int) : D := .tup [.int a, .int b, .int c]
abbrev T4 (a b c d : Int) : D := .tup [.int a, .int b, .int c, .int d]
section
variable {a b c : Int} {h : Ph}
theorem form_fm (f : Fm 199 a b c) : f_is_form [T3 a b c] h = .ok (.bl true) h := by
  rw [form_ok f.sa f.sb f.sc, decide_eq_true f.pos, decide_eq_true f.mea]; rfl
theorem require_form_fm (f : Fm 199 a b c) : f_require_form [T3 a b c] h = .ok .non h := by
  unfold f_require_form; simp (maxSteps := 4000000) (dsimp := false) (disch := first | assumption | decide | omega | walk_at "cm") only [runDef_ap, sVar_ap, sC_ap, sBin_ap, sNeg_ap, sAnd_ap, sOr_ap, sNot_ap, sIf_ap, sTst_ap, qAnd_ap, qOr_ap, qNot_ap, qYes_ap, sChain_ap, sChain3_ap, sNil_ap, sCons_ap, sTup_ap, sLst_ap, sLstM_ap, sCall_ap, g1_ap, g2_ap, sFn_ap, sAsg_ap, gNm_ap, gTp_ap, gConsS_ap, gNilS_ap, sPar_ap, sPar3_ap, sRet_ap, sRetN_ap, sNx_ap, sBrk_ap, sCnt_ap, sSeq_ap, sIte_ap, sDrop_ap, sFrz_ap, sAug_ap, iRange1_ap, iRange2_ap, iSeq_ap, sFor_ap, sLc_ap, R.toG_ok, ↓R.bind_bnd, bnd_ok, ↓R.bd_bdn, bdn_ok, ↓R.toF_tof, tof_ok, ↓F.seq_sqn, sqn_nx, sqn_ret, sqn_cnt, sqn_brk, ↓F.turn_trn, trn_nx, trn_ret, trn_cnt, trn_brk, F.end_nx, F.end_ret, ↓br_true, br_true, ↓br_false, br_false, Dbr, Dneg, Dtst, opt_some, dAdd_int, dIAdd_int, dSub_int, dLt_int, dLe_int, dGt_int, dGe_int, dEq_int, dNe_int, dEq_bl, dNe_bl, dMul_cm, dMod_pos, dDiv_pos, dAbs_int, dMax2_int, dMin2_int, dInt_int, dInt_bl, dIx_tup, dIx_lst, dIx_seq, dLen_tup, dLen_lst, dLen_seq, atI_0, atI_1, atI_2, atI_3, List.map_cons, List.map_nil, List.length_cons, List.length_nil, List.replicate_succ, List.replicate_zero, List.cons_append, List.nil_append, List.getElem?_cons_zero, List.getElem?_cons_succ, List.set_cons_zero, List.set_cons_succ, Nat.reduceAdd, Nat.reduceSub, Nat.zero_add, Nat.add_zero, Nat.sub_self, Nat.reduceMul, mostL_def, Nat.reduceLeDiff, Nat.reduceLT, ite_true, ite_false, if_true, if_false, ↓reduceIte, reduceIte, ↓br_ite, Bool.false_eq_true, reduceCtorEq, Bool.not_true, Bool.not_false, decide_true, decide_false, Int.cast_ofNat_Int, Int.reduceBEq, Int.reduceAdd, Int.reduceSub, Int.reduceMul, Int.reduceNeg, Int.reduceLT, Int.reduceLE, Int.reduceMod, Int.reduceDiv, sMeth1_ap, sSl_ap, sRev_ap, oNo_ap, oPart_ap, sDict0_ap, sSetL_ap, sLc2_ap, sStar_ap, form_fm f]
theorem measure_of_fm (f : Fm 199 a b c) : f_measure_of [T3 a b c] h = .ok (.int (4 * a * c - b * b)) h := by
  unfold f_measure_of; simp (maxSteps := 4000000) (dsimp := false) (disch := first | assumption | decide | omega | walk_at "cm") only [runDef_ap, sVar_ap, sC_ap, sBin_ap, sNeg_ap, sAnd_ap, sOr_ap, sNot_ap, sIf_ap, sTst_ap, qAnd_ap, qOr_ap, qNot_ap, qYes_ap, sChain_ap, sChain3_ap, sNil_ap, sCons_ap, sTup_ap, sLst_ap, sLstM_ap, sCall_ap, g1_ap, g2_ap, sFn_ap, sAsg_ap, gNm_ap, gTp_ap, gConsS_ap, gNilS_ap, sPar_ap, sPar3_ap, sRet_ap, sRetN_ap, sNx_ap, sBrk_ap, sCnt_ap, sSeq_ap, sIte_ap, sDrop_ap, sFrz_ap, sAug_ap, iRange1_ap, iRange2_ap, iSeq_ap, sFor_ap, sLc_ap, R.toG_ok, ↓R.bind_bnd, bnd_ok, ↓R.bd_bdn, bdn_ok, ↓R.toF_tof, tof_ok, ↓F.seq_sqn, sqn_nx, sqn_ret, sqn_cnt, sqn_brk, ↓F.turn_trn, trn_nx, trn_ret, trn_cnt, trn_brk, F.end_nx, F.end_ret, ↓br_true, br_true, ↓br_false, br_false, Dbr, Dneg, Dtst, opt_some, dAdd_int, dIAdd_int, dSub_int, dLt_int, dLe_int, dGt_int, dGe_int, dEq_int, dNe_int, dEq_bl, dNe_bl, dMul_cm, dMod_pos, dDiv_pos, dAbs_int, dMax2_int, dMin2_int, dInt_int, dInt_bl, dIx_tup, dIx_lst, dIx_seq, dLen_tup, dLen_lst, dLen_seq, atI_0, atI_1, atI_2, atI_3, List.map_cons, List.map_nil, List.length_cons, List.length_nil, List.replicate_succ, List.replicate_zero, List.cons_append, List.nil_append, List.getElem?_cons_zero, List.getElem?_cons_succ, List.set_cons_zero, List.set_cons_succ, Nat.reduceAdd, Nat.reduceSub, Nat.zero_add, Nat.add_zero, Nat.sub_self, Nat.reduceMul, mostL_def, Nat.reduceLeDiff, Nat.reduceLT, ite_true, ite_false, if_true, if_false, ↓reduceIte, reduceIte, ↓br_ite, Bool.false_eq_true, reduceCtorEq, Bool.not_true, Bool.not_false, decide_true, decide_false, Int.cast_ofNat_Int, Int.reduceBEq, Int.reduceAdd, Int.reduceSub, Int.reduceMul, Int.reduceNeg, Int.reduceLT, Int.reduceLE, Int.reduceMod, Int.reduceDiv, sMeth1_ap, sSl_ap, sRev_ap, oNo_ap, oPart_ap, sDict0_ap, sSetL_ap, sLc2_ap, sStar_ap, require_form_fm f, measure_in_ok (f.sa.mono (by decide : 199 ≤ 200)) (f.sb.mono (by decide : 199 ≤ 200)) (f.sc.mono (by decide : 199 ≤ 200))]
/-- reduced -/
def Lst (a b c : Int) : Bool := (decide (-a ≤ b) && (decide (b ≤ a) && decide (a ≤ c))) && (decide (0 ≤ b) || (!(b == -a) && !(a == c)))
theorem least_ok : f_is_least [T3 a b c] h = .ok (.bl (Lst a b c)) h := by
  unfold f_is_least Lst
  by_cases h1 : -a ≤ b <;> by_cases h2 : b ≤ a <;> by_cases h3 : a ≤ c <;> by_cases h4 : 0 ≤ b <;> first | (exfalso; omega) | (simp (maxSteps := 4000000) (dsimp := false) (disch := first | assumption | decide | omega | walk_at "cm") only [runDef_ap, sVar_ap, sC_ap, sBin_ap, sNeg_ap, sAnd_ap, sOr_ap, sNot_ap, sIf_ap, sTst_ap, qAnd_ap, qOr_ap, qNot_ap, qYes_ap, sChain_ap, sChain3_ap, sNil_ap, sCons_ap, sTup_ap, sLst_ap, sLstM_ap, sCall_ap, g1_ap, g2_ap, sFn_ap, sAsg_ap, gNm_ap, gTp_ap, gConsS_ap, gNilS_ap, sPar_ap, sPar3_ap, sRet_ap, sRetN_ap, sNx_ap, sBrk_ap, sCnt_ap, sSeq_ap, sIte_ap, sDrop_ap, sFrz_ap, sAug_ap, iRange1_ap, iRange2_ap, iSeq_ap, sFor_ap, sLc_ap, R.toG_ok, ↓R.bind_bnd, bnd_ok, ↓R.bd_bdn, bdn_ok, ↓R.toF_tof, tof_ok, ↓F.seq_sqn, sqn_nx, sqn_ret, sqn_cnt, sqn_brk, ↓F.turn_trn, trn_nx, trn_ret, trn_cnt, trn_brk, F.end_nx, F.end_ret, ↓br_true, br_true, ↓br_false, br_false, Dbr, Dneg, Dtst, opt_some, dAdd_int, dIAdd_int, dSub_int, dLt_int, dLe_int, dGt_int, dGe_int, dEq_int, dNe_int, dEq_bl, dNe_bl, dMul_cm, dMod_pos, dDiv_pos, dAbs_int, dMax2_int, dMin2_int, dInt_int, dInt_bl, dIx_tup, dIx_lst, dIx_seq, dLen_tup, dLen_lst, dLen_seq, atI_0, atI_1, atI_2, atI_3, List.map_cons, List.map_nil, List.length_cons, List.length_nil, List.replicate_succ, List.replicate_zero, List.cons_append, List.nil_append, List.getElem?_cons_zero, List.getElem?_cons_succ, List.set_cons_zero, List.set_cons_succ, Nat.reduceAdd, Nat.reduceSub, Nat.zero_add, Nat.add_zero, Nat.sub_self, Nat.reduceMul, mostL_def, Nat.reduceLeDiff, Nat.reduceLT, ite_true, ite_false, if_true, if_false, ↓reduceIte, reduceIte, ↓br_ite, Bool.false_eq_true, reduceCtorEq, Bool.not_true, Bool.not_false, decide_true, decide_false, Int.cast_ofNat_Int, Int.reduceBEq, Int.reduceAdd, Int.reduceSub, Int.reduceMul, Int.reduceNeg, Int.reduceLT, Int.reduceLE, Int.reduceMod, Int.reduceDiv, sMeth1_ap, sSl_ap, sRev_ap, oNo_ap, oPart_ap, sDict0_ap, sSetL_ap, sLc2_ap, sStar_ap, gTp_ap, gConsS_ap, gNilS_ap, sNeg_ap, h1, h2, h3, h4, it_bl, br_bl, it_and, br_and, it_or, br_or]; done) | (simp (maxSteps := 4000000) (dsimp := false) (disch := first | assumption | decide | omega | walk_at "cm") only [runDef_ap, sVar_ap, sC_ap, sBin_ap, sNeg_ap, sAnd_ap, sOr_ap, sNot_ap, sIf_ap, sTst_ap, qAnd_ap, qOr_ap, qNot_ap, qYes_ap, sChain_ap, sChain3_ap, sNil_ap, sCons_ap, sTup_ap, sLst_ap, sLstM_ap, sCall_ap, g1_ap, g2_ap, sFn_ap, sAsg_ap, gNm_ap, gTp_ap, gConsS_ap, gNilS_ap, sPar_ap, sPar3_ap, sRet_ap, sRetN_ap, sNx_ap, sBrk_ap, sCnt_ap, sSeq_ap, sIte_ap, sDrop_ap, sFrz_ap, sAug_ap, iRange1_ap, iRange2_ap, iSeq_ap, sFor_ap, sLc_ap, R.toG_ok, ↓R.bind_bnd, bnd_ok, ↓R.bd_bdn, bdn_ok, ↓R.toF_tof, tof_ok, ↓F.seq_sqn, sqn_nx, sqn_ret, sqn_cnt, sqn_brk, ↓F.turn_trn, trn_nx, trn_ret, trn_cnt, trn_brk, F.end_nx, F.end_ret, ↓br_true, br_true, ↓br_false, br_false, Dbr, Dneg, Dtst, opt_some, dAdd_int, dIAdd_int, dSub_int, dLt_int, dLe_int, dGt_int, dGe_int, dEq_int, dNe_int, dEq_bl, dNe_bl, dMul_cm, dMod_pos, dDiv_pos, dAbs_int, dMax2_int, dMin2_int, dInt_int, dInt_bl, dIx_tup, dIx_lst, dIx_seq, dLen_tup, dLen_lst, dLen_seq, atI_0, atI_1, atI_2, atI_3, List.map_cons, List.map_nil, List.length_cons, List.length_nil, List.replicate_succ, List.replicate_zero, List.cons_append, List.nil_append, List.getElem?_cons_zero, List.getElem?_cons_succ, List.set_cons_zero, List.set_cons_succ, Nat.reduceAdd, Nat.reduceSub, Nat.zero_add, Nat.add_zero, Nat.sub_self, Nat.reduceMul, mostL_def, Nat.reduceLeDiff, Nat.reduceLT, ite_true, ite_false, if_true, if_false, ↓reduceIte, reduceIte, ↓br_ite, Bool.false_eq_true, reduceCtorEq, Bool.not_true, Bool.not_false, decide_true, decide_false, Int.cast_ofNat_Int, Int.reduceBEq, Int.reduceAdd, Int.reduceSub, Int.reduceMul, Int.reduceNeg, Int.reduceLT, Int.reduceLE, Int.reduceMod, Int.reduceDiv, sMeth1_ap, sSl_ap, sRev_ap, oNo_ap, oPart_ap, sDict0_ap, sSetL_ap, sLc2_ap, sStar_ap, gTp_ap, gConsS_ap, gNilS_ap, sNeg_ap, h1, h2, h3, h4, it_bl, br_bl, it_and, br_and, it_or, br_or]; rfl)
theorem reduced_fm (f : Fm 199 a b c) : f_is_reduced [T3 a b c] h = .ok (.bl (Lst a b c)) h := by
  unfold f_is_reduced; simp (maxSteps := 4000000) (dsimp := false) (disch := first | assumption | decide | omega | walk_at "cm") only [runDef_ap, sVar_ap, sC_ap, sBin_ap, sNeg_ap, sAnd_ap, sOr_ap, sNot_ap, sIf_ap, sTst_ap, qAnd_ap, qOr_ap, qNot_ap, qYes_ap, sChain_ap, sChain3_ap, sNil_ap, sCons_ap, sTup_ap, sLst_ap, sLstM_ap, sCall_ap, g1_ap, g2_ap, sFn_ap, sAsg_ap, gNm_ap, gTp_ap, gConsS_ap, gNilS_ap, sPar_ap, sPar3_ap, sRet_ap, sRetN_ap, sNx_ap, sBrk_ap, sCnt_ap, sSeq_ap, sIte_ap, sDrop_ap, sFrz_ap, sAug_ap, iRange1_ap, iRange2_ap, iSeq_ap, sFor_ap, sLc_ap, R.toG_ok, ↓R.bind_bnd, bnd_ok, ↓R.bd_bdn, bdn_ok, ↓R.toF_tof, tof_ok, ↓F.seq_sqn, sqn_nx, sqn_ret, sqn_cnt, sqn_brk, ↓F.turn_trn, trn_nx, trn_ret, trn_cnt, trn_brk, F.end_nx, F.end_ret, ↓br_true, br_true, ↓br_false, br_false, Dbr, Dneg, Dtst, opt_some, dAdd_int, dIAdd_int, dSub_int, dLt_int, dLe_int, dGt_int, dGe_int, dEq_int, dNe_int, dEq_bl, dNe_bl, dMul_cm, dMod_pos, dDiv_pos, dAbs_int, dMax2_int, dMin2_int, dInt_int, dInt_bl, dIx_tup, dIx_lst, dIx_seq, dLen_tup, dLen_lst, dLen_seq, atI_0, atI_1, atI_2, atI_3, List.map_cons, List.map_nil, List.length_cons, List.length_nil, List.replicate_succ, List.replicate_zero, List.cons_append, List.nil_append, List.getElem?_cons_zero, List.getElem?_cons_succ, List.set_cons_zero, List.set_cons_succ, Nat.reduceAdd, Nat.reduceSub, Nat.zero_add, Nat.add_zero, Nat.sub_self, Nat.reduceMul, mostL_def, Nat.reduceLeDiff, Nat.reduceLT, ite_true, ite_false, if_true, if_false, ↓reduceIte, reduceIte, ↓br_ite, Bool.false_eq_true, reduceCtorEq, Bool.not_true, Bool.not_false, decide_true, decide_false, Int.cast_ofNat_Int, Int.reduceBEq, Int.reduceAdd, Int.reduceSub, Int.reduceMul, Int.reduceNeg, Int.reduceLT, Int.reduceLE, Int.reduceMod, Int.reduceDiv, sMeth1_ap, sSl_ap, sRev_ap, oNo_ap, oPart_ap, sDict0_ap, sSetL_ap, sLc2_ap, sStar_ap, require_form_fm f, least_ok]
end
/-! ### the divisor -/
theorem dMod_f {i j : Int} {h : Ph} (hj : j ≠ 0) : dMod (.int i) (.int j) h = .ok (.int (i.fmod j)) h := by
  show (if 0 < j then _ else _) = _
  by_cases h0 : 0 < j
  · rw [if_pos h0, Int.fmod_eq_emod_of_nonneg i (by omega)]
  · rw [if_neg h0, if_pos hj]
theorem fmod_gcd (a b : Int) : Int.gcd b (a.fmod b) = Int.gcd a b := by
  have e : a.fmod b = a - b * a.fdiv b := by have := Int.mul_fdiv_add_fmod a b; omega
  rw [e, Int.gcd_sub_mul_left_right, Int.gcd_comm]
theorem fmod_lt (a b : Int) (h : b ≠ 0) : (a.fmod b).natAbs < b.natAbs := by
  by_cases h0 : 0 < b
  · have h1 := Int.fmod_lt_of_pos a h0
    have h2 := Int.fmod_nonneg_of_pos a h0
    omega
  · have h1 := Int.fmod_lt_of_pos (-a) (b := -b) (by omega)
    have h2 := Int.fmod_nonneg_of_pos (-a) (b := -b) (by omega)
    rw [Int.neg_fmod_neg] at h1 h2
    omega
theorem div_loop (c : ST) (hc : ∀ (a b : Int) (h : Ph), c [some (.int a), some (.int b)] h = .ok (!(b == 0)) h)
    (f : SS) (hf : ∀ (a b : Int) (h : Ph), b ≠ 0 → f [some (.int a), some (.int b)] h = .nx [some (.int b), some (.int (a.fmod b))] h) :
    ∀ (k : Nat) (a b : Int) (h : Ph) (N : Nat), b.natAbs ≤ k → k < N → ∃ x : Int, x.natAbs = Int.gcd a b ∧ sWhile N c f [some (.int a), some (.int b)] h = .nx [some (.int x), some (.int 0)] h := by
  intro k
  induction k with
  | zero =>
    intro a b h N hk hN
    obtain ⟨N, rfl⟩ : ∃ M, N = M + 1 := ⟨N - 1, by omega⟩
    have : b = 0 := by omega
    subst this
    refine ⟨a, (Int.gcd_zero_right a).symm, ?_⟩
    unfold sWhile
    rw [hc a 0 h]
    rfl
  | succ k ih =>
    intro a b h N hk hN
    obtain ⟨N, rfl⟩ : ∃ M, N = M + 1 := ⟨N - 1, by omega⟩
    by_cases h0 : b = 0
    · subst h0
      refine ⟨a, (Int.gcd_zero_right a).symm, ?_⟩
      unfold sWhile
      rw [hc a 0 h]
      rfl
    · have hl := fmod_lt a b h0
      obtain ⟨x, hx, hw⟩ := ih b (a.fmod b) h N (by omega) (by omega)
      refine ⟨x, by rw [hx, fmod_gcd], ?_⟩
      unfold sWhile
      rw [hc a b h, show (b == 0) = false from beq_false_of_ne h0]
      show (f [some (.int a), some (.int b)] h).turn _ = _
      rw [hf a b h h0]
      exact hw
theorem div_cond (a b : Int) (h : Ph) : sTst (sBin dNe (sVar 1) (sC (.int 0))) [some (.int a), some (.int b)] h = .ok (!(b == 0)) h := by
  simp (maxSteps := 4000000) (dsimp := false) (disch := first | assumption | decide | omega | walk_at "cm") only [runDef_ap, sVar_ap, sC_ap, sBin_ap, sNeg_ap, sAnd_ap, sOr_ap, sNot_ap, sIf_ap, sTst_ap, qAnd_ap, qOr_ap, qNot_ap, qYes_ap, sChain_ap, sChain3_ap, sNil_ap, sCons_ap, sTup_ap, sLst_ap, sLstM_ap, sCall_ap, g1_ap, g2_ap, sFn_ap, sAsg_ap, gNm_ap, gTp_ap, gConsS_ap, gNilS_ap, sPar_ap, sPar3_ap, sRet_ap, sRetN_ap, sNx_ap, sBrk_ap, sCnt_ap, sSeq_ap, sIte_ap, sDrop_ap, sFrz_ap, sAug_ap, iRange1_ap, iRange2_ap, iSeq_ap, sFor_ap, sLc_ap, R.toG_ok, ↓R.bind_bnd, bnd_ok, ↓R.bd_bdn, bdn_ok, ↓R.toF_tof, tof_ok, ↓F.seq_sqn, sqn_nx, sqn_ret, sqn_cnt, sqn_brk, ↓F.turn_trn, trn_nx, trn_ret, trn_cnt, trn_brk, F.end_nx, F.end_ret, ↓br_true, br_true, ↓br_false, br_false, Dbr, Dneg, Dtst, opt_some, dAdd_int, dIAdd_int, dSub_int, dLt_int, dLe_int, dGt_int, dGe_int, dEq_int, dNe_int, dEq_bl, dNe_bl, dMul_cm, dMod_pos, dDiv_pos, dAbs_int, dMax2_int, dMin2_int, dInt_int, dInt_bl, dIx_tup, dIx_lst, dIx_seq, dLen_tup, dLen_lst, dLen_seq, atI_0, atI_1, atI_2, atI_3, List.map_cons, List.map_nil, List.length_cons, List.length_nil, List.replicate_succ, List.replicate_zero, List.cons_append, List.nil_append, List.getElem?_cons_zero, List.getElem?_cons_succ, List.set_cons_zero, List.set_cons_succ, Nat.reduceAdd, Nat.reduceSub, Nat.zero_add, Nat.add_zero, Nat.sub_self, Nat.reduceMul, mostL_def, Nat.reduceLeDiff, Nat.reduceLT, ite_true, ite_false, if_true, if_false, ↓reduceIte, reduceIte, ↓br_ite, Bool.false_eq_true, reduceCtorEq, Bool.not_true, Bool.not_false, decide_true, decide_false, Int.cast_ofNat_Int, Int.reduceBEq, Int.reduceAdd, Int.reduceSub, Int.reduceMul, Int.reduceNeg, Int.reduceLT, Int.reduceLE, Int.reduceMod, Int.reduceDiv, sMeth1_ap, sSl_ap, sRev_ap, oNo_ap, oPart_ap, sDict0_ap, sSetL_ap, sLc2_ap, sStar_ap]
theorem div_step (a b : Int) (h : Ph) (hb : b ≠ 0) : sPar 0 1 (sCons (sVar 1) (sCons (sBin dMod (sVar 0) (sVar 1)) (sNil))) [some (.int a), some (.int b)] h = .nx [some (.int b), some (.int (a.fmod b))] h := by
  simp (maxSteps := 4000000) (dsimp := false) (disch := first | assumption | decide | omega | walk_at "cm") only [runDef_ap, sVar_ap, sC_ap, sBin_ap, sNeg_ap, sAnd_ap, sOr_ap, sNot_ap, sIf_ap, sTst_ap, qAnd_ap, qOr_ap, qNot_ap, qYes_ap, sChain_ap, sChain3_ap, sNil_ap, sCons_ap, sTup_ap, sLst_ap, sLstM_ap, sCall_ap, g1_ap, g2_ap, sFn_ap, sAsg_ap, gNm_ap, gTp_ap, gConsS_ap, gNilS_ap, sPar_ap, sPar3_ap, sRet_ap, sRetN_ap, sNx_ap, sBrk_ap, sCnt_ap, sSeq_ap, sIte_ap, sDrop_ap, sFrz_ap, sAug_ap, iRange1_ap, iRange2_ap, iSeq_ap, sFor_ap, sLc_ap, R.toG_ok, ↓R.bind_bnd, bnd_ok, ↓R.bd_bdn, bdn_ok, ↓R.toF_tof, tof_ok, ↓F.seq_sqn, sqn_nx, sqn_ret, sqn_cnt, sqn_brk, ↓F.turn_trn, trn_nx, trn_ret, trn_cnt, trn_brk, F.end_nx, F.end_ret, ↓br_true, br_true, ↓br_false, br_false, Dbr, Dneg, Dtst, opt_some, dAdd_int, dIAdd_int, dSub_int, dLt_int, dLe_int, dGt_int, dGe_int, dEq_int, dNe_int, dEq_bl, dNe_bl, dMul_cm, dMod_pos, dDiv_pos, dAbs_int, dMax2_int, dMin2_int, dInt_int, dInt_bl, dIx_tup, dIx_lst, dIx_seq, dLen_tup, dLen_lst, dLen_seq, atI_0, atI_1, atI_2, atI_3, List.map_cons, List.map_nil, List.length_cons, List.length_nil, List.replicate_succ, List.replicate_zero, List.cons_append, List.nil_append, List.getElem?_cons_zero, List.getElem?_cons_succ, List.set_cons_zero, List.set_cons_succ, Nat.reduceAdd, Nat.reduceSub, Nat.zero_add, Nat.add_zero, Nat.sub_self, Nat.reduceMul, mostL_def, Nat.reduceLeDiff, Nat.reduceLT, ite_true, ite_false, if_true, if_false, ↓reduceIte, reduceIte, ↓br_ite, Bool.false_eq_true, reduceCtorEq, Bool.not_true, Bool.not_false, decide_true, decide_false, Int.cast_ofNat_Int, Int.reduceBEq, Int.reduceAdd, Int.reduceSub, Int.reduceMul, Int.reduceNeg, Int.reduceLT, Int.reduceLE, Int.reduceMod, Int.reduceDiv, sMeth1_ap, sSl_ap, sRev_ap, oNo_ap, oPart_ap, sDict0_ap, sSetL_ap, sLc2_ap, sStar_ap, dMod_f]
theorem divisor_ok {a b : Int} {h : Ph} (hb : b.natAbs + 1 < FU) : f_divisor_of [.int a, .int b] h = .ok (.int (Int.gcd a b)) h := by
  generalize hF : FU = N at hb
  obtain ⟨x, hx, e⟩ := div_loop _ div_cond _ div_step b.natAbs a b h N (Nat.le_refl _) (by omega)
  have hx' : (if x < 0 then -x else x) = (Int.gcd a b : Int) := by rw [← hx]; split <;> omega
  unfold f_divisor_of
  rw [hF]
  simp (maxSteps := 4000000) (dsimp := false) (disch := first | assumption | decide | omega | walk_at "cm") only [runDef_ap, sVar_ap, sC_ap, sBin_ap, sNeg_ap, sAnd_ap, sOr_ap, sNot_ap, sIf_ap, sTst_ap, qAnd_ap, qOr_ap, qNot_ap, qYes_ap, sChain_ap, sChain3_ap, sNil_ap, sCons_ap, sTup_ap, sLst_ap, sLstM_ap, sCall_ap, g1_ap, g2_ap, sFn_ap, sAsg_ap, gNm_ap, gTp_ap, gConsS_ap, gNilS_ap, sPar_ap, sPar3_ap, sRet_ap, sRetN_ap, sNx_ap, sBrk_ap, sCnt_ap, sSeq_ap, sIte_ap, sDrop_ap, sFrz_ap, sAug_ap, iRange1_ap, iRange2_ap, iSeq_ap, sFor_ap, sLc_ap, R.toG_ok, ↓R.bind_bnd, bnd_ok, ↓R.bd_bdn, bdn_ok, ↓R.toF_tof, tof_ok, ↓F.seq_sqn, sqn_nx, sqn_ret, sqn_cnt, sqn_brk, ↓F.turn_trn, trn_nx, trn_ret, trn_cnt, trn_brk, F.end_nx, F.end_ret, ↓br_true, br_true, ↓br_false, br_false, Dbr, Dneg, Dtst, opt_some, dAdd_int, dIAdd_int, dSub_int, dLt_int, dLe_int, dGt_int, dGe_int, dEq_int, dNe_int, dEq_bl, dNe_bl, dMul_cm, dMod_pos, dDiv_pos, dAbs_int, dMax2_int, dMin2_int, dInt_int, dInt_bl, dIx_tup, dIx_lst, dIx_seq, dLen_tup, dLen_lst, dLen_seq, atI_0, atI_1, atI_2, atI_3, List.map_cons, List.map_nil, List.length_cons, List.length_nil, List.replicate_succ, List.replicate_zero, List.cons_append, List.nil_append, List.getElem?_cons_zero, List.getElem?_cons_succ, List.set_cons_zero, List.set_cons_succ, Nat.reduceAdd, Nat.reduceSub, Nat.zero_add, Nat.add_zero, Nat.sub_self, Nat.reduceMul, mostL_def, Nat.reduceLeDiff, Nat.reduceLT, ite_true, ite_false, if_true, if_false, ↓reduceIte, reduceIte, ↓br_ite, Bool.false_eq_true, reduceCtorEq, Bool.not_true, Bool.not_false, decide_true, decide_false, Int.cast_ofNat_Int, Int.reduceBEq, Int.reduceAdd, Int.reduceSub, Int.reduceMul, Int.reduceNeg, Int.reduceLT, Int.reduceLE, Int.reduceMod, Int.reduceDiv, sMeth1_ap, sSl_ap, sRev_ap, oNo_ap, oPart_ap, sDict0_ap, sSetL_ap, sLc2_ap, sStar_ap, e, hx']
theorem fu_lt {x : Int} (s : Sm 600 x) : x.natAbs + 1 < FU := by
  have := s.lt
  have h2 : (2 : Nat) ^ 600 + 1 < FU := by decide +kernel
  omega
/-- the common divisor of three -/
def g3 (a b c : Int) : Nat := Int.gcd (Int.gcd a b) c
theorem whole_primitive_ok {a b c : Int} {h : Ph} (sb : Sm 600 b) (sc : Sm 600 c) : f_is_whole_primitive [T3 a b c] h = .ok (.bl ((g3 a b c : Int) == 1)) h := by
  have e1 := fun x h => divisor_ok (a := x) (h := h) (fu_lt sb)
  have e2 := fun x h => divisor_ok (a := x) (h := h) (fu_lt sc)
  unfold f_is_whole_primitive g3; simp (maxSteps := 4000000) (dsimp := false) (disch := first | assumption | decide | omega | walk_at "cm") only [runDef_ap, sVar_ap, sC_ap, sBin_ap, sNeg_ap, sAnd_ap, sOr_ap, sNot_ap, sIf_ap, sTst_ap, qAnd_ap, qOr_ap, qNot_ap, qYes_ap, sChain_ap, sChain3_ap, sNil_ap, sCons_ap, sTup_ap, sLst_ap, sLstM_ap, sCall_ap, g1_ap, g2_ap, sFn_ap, sAsg_ap, gNm_ap, gTp_ap, gConsS_ap, gNilS_ap, sPar_ap, sPar3_ap, sRet_ap, sRetN_ap, sNx_ap, sBrk_ap, sCnt_ap, sSeq_ap, sIte_ap, sDrop_ap, sFrz_ap, sAug_ap, iRange1_ap, iRange2_ap, iSeq_ap, sFor_ap, sLc_ap, R.toG_ok, ↓R.bind_bnd, bnd_ok, ↓R.bd_bdn, bdn_ok, ↓R.toF_tof, tof_ok, ↓F.seq_sqn, sqn_nx, sqn_ret, sqn_cnt, sqn_brk, ↓F.turn_trn, trn_nx, trn_ret, trn_cnt, trn_brk, F.end_nx, F.end_ret, ↓br_true, br_true, ↓br_false, br_false, Dbr, Dneg, Dtst, opt_some, dAdd_int, dIAdd_int, dSub_int, dLt_int, dLe_int, dGt_int, dGe_int, dEq_int, dNe_int, dEq_bl, dNe_bl, dMul_cm, dMod_pos, dDiv_pos, dAbs_int, dMax2_int, dMin2_int, dInt_int, dInt_bl, dIx_tup, dIx_lst, dIx_seq, dLen_tup, dLen_lst, dLen_seq, atI_0, atI_1, atI_2, atI_3, List.map_cons, List.map_nil, List.length_cons, List.length_nil, List.replicate_succ, List.replicate_zero, List.cons_append, List.nil_append, List.getElem?_cons_zero, List.getElem?_cons_succ, List.set_cons_zero, List.set_cons_succ, Nat.reduceAdd, Nat.reduceSub, Nat.zero_add, Nat.add_zero, Nat.sub_self, Nat.reduceMul, mostL_def, Nat.reduceLeDiff, Nat.reduceLT, ite_true, ite_false, if_true, if_false, ↓reduceIte, reduceIte, ↓br_ite, Bool.false_eq_true, reduceCtorEq, Bool.not_true, Bool.not_false, decide_true, decide_false, Int.cast_ofNat_Int, Int.reduceBEq, Int.reduceAdd, Int.reduceSub, Int.reduceMul, Int.reduceNeg, Int.reduceLT, Int.reduceLE, Int.reduceMod, Int.reduceDiv, sMeth1_ap, sSl_ap, sRev_ap, oNo_ap, oPart_ap, sDict0_ap, sSetL_ap, sLc2_ap, sStar_ap, e1, e2]
theorem primitive_fm {a b c : Int} {h : Ph} (f : Fm 199 a b c) : f_is_primitive [T3 a b c] h = .ok (.bl ((g3 a b c : Int) == 1)) h := by
  unfold f_is_primitive; simp (maxSteps := 4000000) (dsimp := false) (disch := first | assumption | decide | omega | walk_at "cm") only [runDef_ap, sVar_ap, sC_ap, sBin_ap, sNeg_ap, sAnd_ap, sOr_ap, sNot_ap, sIf_ap, sTst_ap, qAnd_ap, qOr_ap, qNot_ap, qYes_ap, sChain_ap, sChain3_ap, sNil_ap, sCons_ap, sTup_ap, sLst_ap, sLstM_ap, sCall_ap, g1_ap, g2_ap, sFn_ap, sAsg_ap, gNm_ap, gTp_ap, gConsS_ap, gNilS_ap, sPar_ap, sPar3_ap, sRet_ap, sRetN_ap, sNx_ap, sBrk_ap, sCnt_ap, sSeq_ap, sIte_ap, sDrop_ap, sFrz_ap, sAug_ap, iRange1_ap, iRange2_ap, iSeq_ap, sFor_ap, sLc_ap, R.toG_ok, ↓R.bind_bnd, bnd_ok, ↓R.bd_bdn, bdn_ok, ↓R.toF_tof, tof_ok, ↓F.seq_sqn, sqn_nx, sqn_ret, sqn_cnt, sqn_brk, ↓F.turn_trn, trn_nx, trn_ret, trn_cnt, trn_brk, F.end_nx, F.end_ret, ↓br_true, br_true, ↓br_false, br_false, Dbr, Dneg, Dtst, opt_some, dAdd_int, dIAdd_int, dSub_int, dLt_int, dLe_int, dGt_int, dGe_int, dEq_int, dNe_int, dEq_bl, dNe_bl, dMul_cm, dMod_pos, dDiv_pos, dAbs_int, dMax2_int, dMin2_int, dInt_int, dInt_bl, dIx_tup, dIx_lst, dIx_seq, dLen_tup, dLen_lst, dLen_seq, atI_0, atI_1, atI_2, atI_3, List.map_cons, List.map_nil, List.length_cons, List.length_nil, List.replicate_succ, List.replicate_zero, List.cons_append, List.nil_append, List.getElem?_cons_zero, List.getElem?_cons_succ, List.set_cons_zero, List.set_cons_succ, Nat.reduceAdd, Nat.reduceSub, Nat.zero_add, Nat.add_zero, Nat.sub_self, Nat.reduceMul, mostL_def, Nat.reduceLeDiff, Nat.reduceLT, ite_true, ite_false, if_true, if_false, ↓reduceIte, reduceIte, ↓br_ite, Bool.false_eq_true, reduceCtorEq, Bool.not_true, Bool.not_false, decide_true, decide_false, Int.cast_ofNat_Int, Int.reduceBEq, Int.reduceAdd, Int.reduceSub, Int.reduceMul, Int.reduceNeg, Int.reduceLT, Int.reduceLE, Int.reduceMod, Int.reduceDiv, sMeth1_ap, sSl_ap, sRev_ap, oNo_ap, oPart_ap, sDict0_ap, sSetL_ap, sLc2_ap, sStar_ap, require_form_fm f, whole_primitive_ok (f.sb.mono (by decide : 199 ≤ 600)) (f.sc.mono (by decide : 199 ≤ 600))]
theorem gcd3L {a b c : Int} {h : Ph} (sb : Sm 600 b) (sc : Sm 600 c) : (f__law_gcd [.int a, .int b] h = .ok (.int (Int.gcd a b)) h) ∧ f__law_gcd [.int (Int.gcd a b), .int c] h = .ok (.int (g3 a b c)) h := ⟨gcdL_ok _ _ _ (fu_lt sb), gcdL_ok _ _ _ (fu_lt sc)⟩
/-! ### values -/
theorem require_integer_ok {x : Int} {h : Ph} (s : Sm 199 x) : f_require_integer [.int x] h = .ok .non h := by
  unfold f_require_integer; simp (maxSteps := 4000000) (dsimp := false) (disch := first | assumption | decide | omega | walk_at "cm") only [runDef_ap, sVar_ap, sC_ap, sBin_ap, sNeg_ap, sAnd_ap, sOr_ap, sNot_ap, sIf_ap, sTst_ap, qAnd_ap, qOr_ap, qNot_ap, qYes_ap, sChain_ap, sChain3_ap, sNil_ap, sCons_ap, sTup_ap, sLst_ap, sLstM_ap, sCall_ap, g1_ap, g2_ap, sFn_ap, sAsg_ap, gNm_ap, gTp_ap, gConsS_ap, gNilS_ap, sPar_ap, sPar3_ap, sRet_ap, sRetN_ap, sNx_ap, sBrk_ap, sCnt_ap, sSeq_ap, sIte_ap, sDrop_ap, sFrz_ap, sAug_ap, iRange1_ap, iRange2_ap, iSeq_ap, sFor_ap, sLc_ap, R.toG_ok, ↓R.bind_bnd, bnd_ok, ↓R.bd_bdn, bdn_ok, ↓R.toF_tof, tof_ok, ↓F.seq_sqn, sqn_nx, sqn_ret, sqn_cnt, sqn_brk, ↓F.turn_trn, trn_nx, trn_ret, trn_cnt, trn_brk, F.end_nx, F.end_ret, ↓br_true, br_true, ↓br_false, br_false, Dbr, Dneg, Dtst, opt_some, dAdd_int, dIAdd_int, dSub_int, dLt_int, dLe_int, dGt_int, dGe_int, dEq_int, dNe_int, dEq_bl, dNe_bl, dMul_cm, dMod_pos, dDiv_pos, dAbs_int, dMax2_int, dMin2_int, dInt_int, dInt_bl, dIx_tup, dIx_lst, dIx_seq, dLen_tup, dLen_lst, dLen_seq, atI_0, atI_1, atI_2, atI_3, List.map_cons, List.map_nil, List.length_cons, List.length_nil, List.replicate_succ, List.replicate_zero, List.cons_append, List.nil_append, List.getElem?_cons_zero, List.getElem?_cons_succ, List.set_cons_zero, List.set_cons_succ, Nat.reduceAdd, Nat.reduceSub, Nat.zero_add, Nat.add_zero, Nat.sub_self, Nat.reduceMul, mostL_def, Nat.reduceLeDiff, Nat.reduceLT, ite_true, ite_false, if_true, if_false, ↓reduceIte, reduceIte, ↓br_ite, Bool.false_eq_true, reduceCtorEq, Bool.not_true, Bool.not_false, decide_true, decide_false, Int.cast_ofNat_Int, Int.reduceBEq, Int.reduceAdd, Int.reduceSub, Int.reduceMul, Int.reduceNeg, Int.reduceLT, Int.reduceLE, Int.reduceMod, Int.reduceDiv, sMeth1_ap, sSl_ap, sRev_ap, oNo_ap, oPart_ap, sDict0_ap, sSetL_ap, sLc2_ap, sStar_ap, integer_int, Iz.ok s]
theorem value_at_ok {a b c x y : Int} {h : Ph} (sa : Sm 600 a) (sb : Sm 600 b) (sc : Sm 600 c) (sx : Sm 600 x) (sy : Sm 600 y) : f_value_at [T3 a b c, .int x, .int y] h = .ok (.int (a * x * x + b * x * y + c * y * y)) h := by
  unfold f_value_at; simp (maxSteps := 4000000) (dsimp := false) (disch := first | assumption | decide | omega | walk_at "cm") only [runDef_ap, sVar_ap, sC_ap, sBin_ap, sNeg_ap, sAnd_ap, sOr_ap, sNot_ap, sIf_ap, sTst_ap, qAnd_ap, qOr_ap, qNot_ap, qYes_ap, sChain_ap, sChain3_ap, sNil_ap, sCons_ap, sTup_ap, sLst_ap, sLstM_ap, sCall_ap, g1_ap, g2_ap, sFn_ap, sAsg_ap, gNm_ap, gTp_ap, gConsS_ap, gNilS_ap, sPar_ap, sPar3_ap, sRet_ap, sRetN_ap, sNx_ap, sBrk_ap, sCnt_ap, sSeq_ap, sIte_ap, sDrop_ap, sFrz_ap, sAug_ap, iRange1_ap, iRange2_ap, iSeq_ap, sFor_ap, sLc_ap, R.toG_ok, ↓R.bind_bnd, bnd_ok, ↓R.bd_bdn, bdn_ok, ↓R.toF_tof, tof_ok, ↓F.seq_sqn, sqn_nx, sqn_ret, sqn_cnt, sqn_brk, ↓F.turn_trn, trn_nx, trn_ret, trn_cnt, trn_brk, F.end_nx, F.end_ret, ↓br_true, br_true, ↓br_false, br_false, Dbr, Dneg, Dtst, opt_some, dAdd_int, dIAdd_int, dSub_int, dLt_int, dLe_int, dGt_int, dGe_int, dEq_int, dNe_int, dEq_bl, dNe_bl, dMul_cm, dMod_pos, dDiv_pos, dAbs_int, dMax2_int, dMin2_int, dInt_int, dInt_bl, dIx_tup, dIx_lst, dIx_seq, dLen_tup, dLen_lst, dLen_seq, atI_0, atI_1, atI_2, atI_3, List.map_cons, List.map_nil, List.length_cons, List.length_nil, List.replicate_succ, List.replicate_zero, List.cons_append, List.nil_append, List.getElem?_cons_zero, List.getElem?_cons_succ, List.set_cons_zero, List.set_cons_succ, Nat.reduceAdd, Nat.reduceSub, Nat.zero_add, Nat.add_zero, Nat.sub_self, Nat.reduceMul, mostL_def, Nat.reduceLeDiff, Nat.reduceLT, ite_true, ite_false, if_true, if_false, ↓reduceIte, reduceIte, ↓br_ite, Bool.false_eq_true, reduceCtorEq, Bool.not_true, Bool.not_false, decide_true, decide_false, Int.cast_ofNat_Int, Int.reduceBEq, Int.reduceAdd, Int.reduceSub, Int.reduceMul, Int.reduceNeg, Int.reduceLT, Int.reduceLE, Int.reduceMod, Int.reduceDiv, sMeth1_ap, sSl_ap, sRev_ap, oNo_ap, oPart_ap, sDict0_ap, sSetL_ap, sLc2_ap, sStar_ap]
theorem value_of_ok {a b c x y : Int} {h : Ph} (f : Fm 199 a b c) (sx : Sm 199 x) (sy : Sm 199 y) : f_value_of [T3 a b c, .int x, .int y] h = .ok (.int (a * x * x + b * x * y + c * y * y)) h := by
  have e := value_at_ok (h := h) (f.sa.mono (by decide : 199 ≤ 600)) (f.sb.mono (by decide : 199 ≤ 600)) (f.sc.mono (by decide : 199 ≤ 600)) (sx.mono (by decide : 199 ≤ 600)) (sy.mono (by decide : 199 ≤ 600))
  unfold f_value_of; simp (maxSteps := 4000000) (dsimp := false) (disch := first | assumption | decide | omega | walk_at "cm") only [runDef_ap, sVar_ap, sC_ap, sBin_ap, sNeg_ap, sAnd_ap, sOr_ap, sNot_ap, sIf_ap, sTst_ap, qAnd_ap, qOr_ap, qNot_ap, qYes_ap, sChain_ap, sChain3_ap, sNil_ap, sCons_ap, sTup_ap, sLst_ap, sLstM_ap, sCall_ap, g1_ap, g2_ap, sFn_ap, sAsg_ap, gNm_ap, gTp_ap, gConsS_ap, gNilS_ap, sPar_ap, sPar3_ap, sRet_ap, sRetN_ap, sNx_ap, sBrk_ap, sCnt_ap, sSeq_ap, sIte_ap, sDrop_ap, sFrz_ap, sAug_ap, iRange1_ap, iRange2_ap, iSeq_ap, sFor_ap, sLc_ap, R.toG_ok, ↓R.bind_bnd, bnd_ok, ↓R.bd_bdn, bdn_ok, ↓R.toF_tof, tof_ok, ↓F.seq_sqn, sqn_nx, sqn_ret, sqn_cnt, sqn_brk, ↓F.turn_trn, trn_nx, trn_ret, trn_cnt, trn_brk, F.end_nx, F.end_ret, ↓br_true, br_true, ↓br_false, br_false, Dbr, Dneg, Dtst, opt_some, dAdd_int, dIAdd_int, dSub_int, dLt_int, dLe_int, dGt_int, dGe_int, dEq_int, dNe_int, dEq_bl, dNe_bl, dMul_cm, dMod_pos, dDiv_pos, dAbs_int, dMax2_int, dMin2_int, dInt_int, dInt_bl, dIx_tup, dIx_lst, dIx_seq, dLen_tup, dLen_lst, dLen_seq, atI_0, atI_1, atI_2, atI_3, List.map_cons, List.map_nil, List.length_cons, List.length_nil, List.replicate_succ, List.replicate_zero, List.cons_append, List.nil_append, List.getElem?_cons_zero, List.getElem?_cons_succ, List.set_cons_zero, List.set_cons_succ, Nat.reduceAdd, Nat.reduceSub, Nat.zero_add, Nat.add_zero, Nat.sub_self, Nat.reduceMul, mostL_def, Nat.reduceLeDiff, Nat.reduceLT, ite_true, ite_false, if_true, if_false, ↓reduceIte, reduceIte, ↓br_ite, Bool.false_eq_true, reduceCtorEq, Bool.not_true, Bool.not_false, decide_true, decide_false, Int.cast_ofNat_Int, Int.reduceBEq, Int.reduceAdd, Int.reduceSub, Int.reduceMul, Int.reduceNeg, Int.reduceLT, Int.reduceLE, Int.reduceMod, Int.reduceDiv, sMeth1_ap, sSl_ap, sRev_ap, oNo_ap, oPart_ap, sDict0_ap, sSetL_ap, sLc2_ap, sStar_ap, require_form_fm f, require_integer_ok sx, require_integer_ok sy, e]
/-! ### matrices -/
/-- four whole numbers of the determinant 1 -/
structure Mx (k : Nat) (p q r s : Int) : Prop where
  sp : Sm k p
  sq : Sm k q
  sr : Sm k r
  ss : Sm k s
  det : p * s - q * r = 1
theorem Mx.mono {j k : Nat} {p q r s : Int} (f : Mx j p q r s) (h : j ≤ k) : Mx k p q r s := ⟨f.sp.mono h, f.sq.mono h, f.sr.mono h, f.ss.mono h, f.det⟩
section
variable {a b c p q r s : Int} {h : Ph}
theorem turn_mx (m : Mx 199 p q r s) : f_is_turn [T4 p q r s] h = .ok (.bl true) h := by
  have e := m.det
  have sp := m.sp
  have sq := m.sq
  have sr := m.sr
  have ss := m.ss
  unfold f_is_turn; simp (maxSteps := 4000000) (dsimp := false) (disch := first | assumption | decide | omega | walk_at "cm") only [runDef_ap, sVar_ap, sC_ap, sBin_ap, sNeg_ap, sAnd_ap, sOr_ap, sNot_ap, sIf_ap, sTst_ap, qAnd_ap, qOr_ap, qNot_ap, qYes_ap, sChain_ap, sChain3_ap, sNil_ap, sCons_ap, sTup_ap, sLst_ap, sLstM_ap, sCall_ap, g1_ap, g2_ap, sFn_ap, sAsg_ap, gNm_ap, gTp_ap, gConsS_ap, gNilS_ap, sPar_ap, sPar3_ap, sRet_ap, sRetN_ap, sNx_ap, sBrk_ap, sCnt_ap, sSeq_ap, sIte_ap, sDrop_ap, sFrz_ap, sAug_ap, iRange1_ap, iRange2_ap, iSeq_ap, sFor_ap, sLc_ap, R.toG_ok, ↓R.bind_bnd, bnd_ok, ↓R.bd_bdn, bdn_ok, ↓R.toF_tof, tof_ok, ↓F.seq_sqn, sqn_nx, sqn_ret, sqn_cnt, sqn_brk, ↓F.turn_trn, trn_nx, trn_ret, trn_cnt, trn_brk, F.end_nx, F.end_ret, ↓br_true, br_true, ↓br_false, br_false, Dbr, Dneg, Dtst, opt_some, dAdd_int, dIAdd_int, dSub_int, dLt_int, dLe_int, dGt_int, dGe_int, dEq_int, dNe_int, dEq_bl, dNe_bl, dMul_cm, dMod_pos, dDiv_pos, dAbs_int, dMax2_int, dMin2_int, dInt_int, dInt_bl, dIx_tup, dIx_lst, dIx_seq, dLen_tup, dLen_lst, dLen_seq, atI_0, atI_1, atI_2, atI_3, List.map_cons, List.map_nil, List.length_cons, List.length_nil, List.replicate_succ, List.replicate_zero, List.cons_append, List.nil_append, List.getElem?_cons_zero, List.getElem?_cons_succ, List.set_cons_zero, List.set_cons_succ, Nat.reduceAdd, Nat.reduceSub, Nat.zero_add, Nat.add_zero, Nat.sub_self, Nat.reduceMul, mostL_def, Nat.reduceLeDiff, Nat.reduceLT, ite_true, ite_false, if_true, if_false, ↓reduceIte, reduceIte, ↓br_ite, Bool.false_eq_true, reduceCtorEq, Bool.not_true, Bool.not_false, decide_true, decide_false, Int.cast_ofNat_Int, Int.reduceBEq, Int.reduceAdd, Int.reduceSub, Int.reduceMul, Int.reduceNeg, Int.reduceLT, Int.reduceLE, Int.reduceMod, Int.reduceDiv, sMeth1_ap, sSl_ap, sRev_ap, oNo_ap, oPart_ap, sDict0_ap, sSetL_ap, sLc2_ap, sStar_ap, isi_tup, kit_tuple_tuple, compGo_cons, compGo_nil, wipe_cons, wipe_nil, iSeq_at, dAll_lst, bls_cons, bls_nil, Option.map_some, List.all_cons, List.all_nil, id, whole_int, Bool.and_true, e]
theorem require_turn_mx (m : Mx 199 p q r s) : f_require_turn [T4 p q r s] h = .ok .non h := by
  unfold f_require_turn; simp (maxSteps := 4000000) (dsimp := false) (disch := first | assumption | decide | omega | walk_at "cm") only [runDef_ap, sVar_ap, sC_ap, sBin_ap, sNeg_ap, sAnd_ap, sOr_ap, sNot_ap, sIf_ap, sTst_ap, qAnd_ap, qOr_ap, qNot_ap, qYes_ap, sChain_ap, sChain3_ap, sNil_ap, sCons_ap, sTup_ap, sLst_ap, sLstM_ap, sCall_ap, g1_ap, g2_ap, sFn_ap, sAsg_ap, gNm_ap, gTp_ap, gConsS_ap, gNilS_ap, sPar_ap, sPar3_ap, sRet_ap, sRetN_ap, sNx_ap, sBrk_ap, sCnt_ap, sSeq_ap, sIte_ap, sDrop_ap, sFrz_ap, sAug_ap, iRange1_ap, iRange2_ap, iSeq_ap, sFor_ap, sLc_ap, R.toG_ok, ↓R.bind_bnd, bnd_ok, ↓R.bd_bdn, bdn_ok, ↓R.toF_tof, tof_ok, ↓F.seq_sqn, sqn_nx, sqn_ret, sqn_cnt, sqn_brk, ↓F.turn_trn, trn_nx, trn_ret, trn_cnt, trn_brk, F.end_nx, F.end_ret, ↓br_true, br_true, ↓br_false, br_false, Dbr, Dneg, Dtst, opt_some, dAdd_int, dIAdd_int, dSub_int, dLt_int, dLe_int, dGt_int, dGe_int, dEq_int, dNe_int, dEq_bl, dNe_bl, dMul_cm, dMod_pos, dDiv_pos, dAbs_int, dMax2_int, dMin2_int, dInt_int, dInt_bl, dIx_tup, dIx_lst, dIx_seq, dLen_tup, dLen_lst, dLen_seq, atI_0, atI_1, atI_2, atI_3, List.map_cons, List.map_nil, List.length_cons, List.length_nil, List.replicate_succ, List.replicate_zero, List.cons_append, List.nil_append, List.getElem?_cons_zero, List.getElem?_cons_succ, List.set_cons_zero, List.set_cons_succ, Nat.reduceAdd, Nat.reduceSub, Nat.zero_add, Nat.add_zero, Nat.sub_self, Nat.reduceMul, mostL_def, Nat.reduceLeDiff, Nat.reduceLT, ite_true, ite_false, if_true, if_false, ↓reduceIte, reduceIte, ↓br_ite, Bool.false_eq_true, reduceCtorEq, Bool.not_true, Bool.not_false, decide_true, decide_false, Int.cast_ofNat_Int, Int.reduceBEq, Int.reduceAdd, Int.reduceSub, Int.reduceMul, Int.reduceNeg, Int.reduceLT, Int.reduceLE, Int.reduceMod, Int.reduceDiv, sMeth1_ap, sSl_ap, sRev_ap, oNo_ap, oPart_ap, sDict0_ap, sSetL_ap, sLc2_ap, sStar_ap, turn_mx m, compGo_cons, compGo_nil, wipe_cons, wipe_nil, iSeq_at, dAll_lst, bls_cons, bls_nil, Option.map_some, List.all_cons, List.all_nil, id, integer_int, Iz.ok m.sp, Iz.ok m.sq, Iz.ok m.sr, Iz.ok m.ss, Bool.and_true]
abbrev lA (a b c p r : Int) : Int := a * p * p + b * p * r + c * r * r
abbrev lB (a b c p q r s : Int) : Int := 2 * a * p * q + b * (p * s + q * r) + 2 * c * r * s
theorem led_by_ok (sa : Sm 600 a) (sb : Sm 600 b) (sc : Sm 600 c) (m : Mx 600 p q r s) : f_led_by [T3 a b c, T4 p q r s] h = .ok (T3 (lA a b c p r) (lB a b c p q r s) (lA a b c q s)) h := by
  have sp := m.sp
  have sq := m.sq
  have sr := m.sr
  have ss := m.ss
  unfold f_led_by; simp (maxSteps := 4000000) (dsimp := false) (disch := first | assumption | decide | omega | walk_at "cm") only [runDef_ap, sVar_ap, sC_ap, sBin_ap, sNeg_ap, sAnd_ap, sOr_ap, sNot_ap, sIf_ap, sTst_ap, qAnd_ap, qOr_ap, qNot_ap, qYes_ap, sChain_ap, sChain3_ap, sNil_ap, sCons_ap, sTup_ap, sLst_ap, sLstM_ap, sCall_ap, g1_ap, g2_ap, sFn_ap, sAsg_ap, gNm_ap, gTp_ap, gConsS_ap, gNilS_ap, sPar_ap, sPar3_ap, sRet_ap, sRetN_ap, sNx_ap, sBrk_ap, sCnt_ap, sSeq_ap, sIte_ap, sDrop_ap, sFrz_ap, sAug_ap, iRange1_ap, iRange2_ap, iSeq_ap, sFor_ap, sLc_ap, R.toG_ok, ↓R.bind_bnd, bnd_ok, ↓R.bd_bdn, bdn_ok, ↓R.toF_tof, tof_ok, ↓F.seq_sqn, sqn_nx, sqn_ret, sqn_cnt, sqn_brk, ↓F.turn_trn, trn_nx, trn_ret, trn_cnt, trn_brk, F.end_nx, F.end_ret, ↓br_true, br_true, ↓br_false, br_false, Dbr, Dneg, Dtst, opt_some, dAdd_int, dIAdd_int, dSub_int, dLt_int, dLe_int, dGt_int, dGe_int, dEq_int, dNe_int, dEq_bl, dNe_bl, dMul_cm, dMod_pos, dDiv_pos, dAbs_int, dMax2_int, dMin2_int, dInt_int, dInt_bl, dIx_tup, dIx_lst, dIx_seq, dLen_tup, dLen_lst, dLen_seq, atI_0, atI_1, atI_2, atI_3, List.map_cons, List.map_nil, List.length_cons, List.length_nil, List.replicate_succ, List.replicate_zero, List.cons_append, List.nil_append, List.getElem?_cons_zero, List.getElem?_cons_succ, List.set_cons_zero, List.set_cons_succ, Nat.reduceAdd, Nat.reduceSub, Nat.zero_add, Nat.add_zero, Nat.sub_self, Nat.reduceMul, mostL_def, Nat.reduceLeDiff, Nat.reduceLT, ite_true, ite_false, if_true, if_false, ↓reduceIte, reduceIte, ↓br_ite, Bool.false_eq_true, reduceCtorEq, Bool.not_true, Bool.not_false, decide_true, decide_false, Int.cast_ofNat_Int, Int.reduceBEq, Int.reduceAdd, Int.reduceSub, Int.reduceMul, Int.reduceNeg, Int.reduceLT, Int.reduceLE, Int.reduceMod, Int.reduceDiv, sMeth1_ap, sSl_ap, sRev_ap, oNo_ap, oPart_ap, sDict0_ap, sSetL_ap, sLc2_ap, sStar_ap, gTp_ap, gConsS_ap, gNilS_ap, value_at_ok sa sb sc sp sr, value_at_ok sa sb sc sq ss]
theorem led_form_ok (f : Fm 199 a b c) (m : Mx 199 p q r s) : f_led_form [T3 a b c, T4 p q r s] h = .ok (T3 (lA a b c p r) (lB a b c p q r s) (lA a b c q s)) h := by
  unfold f_led_form; simp (maxSteps := 4000000) (dsimp := false) (disch := first | assumption | decide | omega | walk_at "cm") only [runDef_ap, sVar_ap, sC_ap, sBin_ap, sNeg_ap, sAnd_ap, sOr_ap, sNot_ap, sIf_ap, sTst_ap, qAnd_ap, qOr_ap, qNot_ap, qYes_ap, sChain_ap, sChain3_ap, sNil_ap, sCons_ap, sTup_ap, sLst_ap, sLstM_ap, sCall_ap, g1_ap, g2_ap, sFn_ap, sAsg_ap, gNm_ap, gTp_ap, gConsS_ap, gNilS_ap, sPar_ap, sPar3_ap, sRet_ap, sRetN_ap, sNx_ap, sBrk_ap, sCnt_ap, sSeq_ap, sIte_ap, sDrop_ap, sFrz_ap, sAug_ap, iRange1_ap, iRange2_ap, iSeq_ap, sFor_ap, sLc_ap, R.toG_ok, ↓R.bind_bnd, bnd_ok, ↓R.bd_bdn, bdn_ok, ↓R.toF_tof, tof_ok, ↓F.seq_sqn, sqn_nx, sqn_ret, sqn_cnt, sqn_brk, ↓F.turn_trn, trn_nx, trn_ret, trn_cnt, trn_brk, F.end_nx, F.end_ret, ↓br_true, br_true, ↓br_false, br_false, Dbr, Dneg, Dtst, opt_some, dAdd_int, dIAdd_int, dSub_int, dLt_int, dLe_int, dGt_int, dGe_int, dEq_int, dNe_int, dEq_bl, dNe_bl, dMul_cm, dMod_pos, dDiv_pos, dAbs_int, dMax2_int, dMin2_int, dInt_int, dInt_bl, dIx_tup, dIx_lst, dIx_seq, dLen_tup, dLen_lst, dLen_seq, atI_0, atI_1, atI_2, atI_3, List.map_cons, List.map_nil, List.length_cons, List.length_nil, List.replicate_succ, List.replicate_zero, List.cons_append, List.nil_append, List.getElem?_cons_zero, List.getElem?_cons_succ, List.set_cons_zero, List.set_cons_succ, Nat.reduceAdd, Nat.reduceSub, Nat.zero_add, Nat.add_zero, Nat.sub_self, Nat.reduceMul, mostL_def, Nat.reduceLeDiff, Nat.reduceLT, ite_true, ite_false, if_true, if_false, ↓reduceIte, reduceIte, ↓br_ite, Bool.false_eq_true, reduceCtorEq, Bool.not_true, Bool.not_false, decide_true, decide_false, Int.cast_ofNat_Int, Int.reduceBEq, Int.reduceAdd, Int.reduceSub, Int.reduceMul, Int.reduceNeg, Int.reduceLT, Int.reduceLE, Int.reduceMod, Int.reduceDiv, sMeth1_ap, sSl_ap, sRev_ap, oNo_ap, oPart_ap, sDict0_ap, sSetL_ap, sLc2_ap, sStar_ap, require_form_fm f, require_turn_mx m, led_by_ok (f.sa.mono (by decide : 199 ≤ 600)) (f.sb.mono (by decide : 199 ≤ 600)) (f.sc.mono (by decide : 199 ≤ 600)) (m.mono (by decide : 199 ≤ 600))]
theorem led_measure (m : p * s - q * r = 1) : 4 * lA a b c p r * lA a b c q s - lB a b c p q r s * lB a b c p q r s = 4 * a * c - b * b := by
  unfold lA lB; grind
end
end Pd

/-! Pg: loops, forms and matrices -/
namespace Pd
open PySem L2 Evl
local macro_rules | `(tactic| walk_at "sm") => `(tactic| first | assumption | exact Sm.lit | exact Sm.mul (by walk_at "sm") (by walk_at "sm") | exact Sm.add (by walk_at "sm") (by walk_at "sm") | exact Sm.sub (by walk_at "sm") (by walk_at "sm") | exact Sm.neg (by walk_at "sm"))
local macro_rules | `(tactic| walk_at "cm") => `(tactic| ((with_reducible show CM _ _); first | assumption | exact CM.left (by decide) | exact CM.right (by decide) | exact CM.left (by omega) | exact CM.right (by omega) | exact CM.of (by walk_at "sm") (by walk_at "sm") (by decide)))
theorem dEq_T3 {a b c p q r : Int} {h : Ph} : dEq (.tup [.int a, .int b, .int c]) (.tup [.int p, .int q, .int r]) h = .ok (.bl (a == p && (b == q && (c == r && true)))) h := rfl
theorem dNe_T3 {a b c p q r : Int} {h : Ph} : dNe (.tup [.int a, .int b, .int c]) (.tup [.int p, .int q, .int r]) h = .ok (.bl (!(a == p && (b == q && (c == r && true))))) h := rfl
theorem dNe_T3_same {a b c p q r : Int} {h : Ph} (e1 : a = p) (e2 : b = q) (e3 : c = r) : dNe (.tup [.int a, .int b, .int c]) (.tup [.int p, .int q, .int r]) h = .ok (.bl false) h := by
  rw [dNe_T3, e1, e2, e3]; simp
theorem dNe_nil {h : Ph} : dNe (.lst []) (.lst []) h = .ok (.bl false) h := rfl
theorem dList_tup {xs : List D} {h : Ph} : dList (.tup xs) h = .ok (.lst xs) h := rfl
theorem dStr_int {i : Int} {h : Ph} (s : Sm 1000 i) : dStr (.int i) h = .ok (.str (toString i)) h := if_pos (c := i.natAbs.log2 < 1920) (Nat.lt_of_le_of_lt (log_lt s.lt) (by decide))
theorem dAdd_lst {xs ys : List D} {h : Ph} : dAdd (.lst xs) (.lst ys) h = if xs.length + ys.length ≤ mostL then .ok (.lst (xs ++ ys)) h else .bad := rfl
theorem dCat_lst {xs ys : List D} {h : Ph} (hl : xs.length + ys.length ≤ mostL) : dAdd (.lst xs) (.lst ys) h = .ok (.lst (xs ++ ys)) h := if_pos (c := xs.length + ys.length ≤ mostL) hl
/-! ### loops -/
theorem forGo_nil {g : SG} {f : SS} {e : Pe} {h : Ph} : forGo g f [] e h = .nx e h := rfl
/-- a loop through, with what holds after each round -/
theorem forGo_inv {g : SG} {f : SS} (P : Nat → Pe → Ph → Prop) : ∀ (xs : List D) (k : Nat) (e : Pe) (h : Ph), P k e h →
    (∀ x ∈ xs, ∀ j e h, k ≤ j → j < k + xs.length → P j e h → ∃ e1 h1 e2 h2, g x e h = .ok e1 h1 ∧ f e1 h1 = .nx e2 h2 ∧ P (j + 1) e2 h2) →
    ∃ e' h', forGo g f xs e h = .nx e' h' ∧ P (k + xs.length) e' h' := by
  intro xs
  induction xs with
  | nil => intro k e h p _; exact ⟨e, h, rfl, p⟩
  | cons x r ih =>
    intro k e h p H
    obtain ⟨e1, h1, e2, h2, q1, q2, q3⟩ := H x (by simp) k e h (by omega) (by simp) p
    obtain ⟨e', h', r1, r2⟩ := ih (k + 1) e2 h2 q3 (fun y hy j e h hj hj2 pj => H y (by simp [hy]) j e h (by omega) (by simp; omega) pj)
    refine ⟨e', h', ?_, by rw [List.length_cons, show k + (r.length + 1) = k + 1 + r.length by omega]; exact r2⟩
    unfold forGo
    rw [q1]
    show (f e1 h1).turn _ = _
    rw [q2]
    exact r1
theorem range1_ok {f : SA} {n : Int} {e : Pe} {h h1 : Ph} (e1 : f e h = .ok [.int n] h1) (hn : 0 ≤ n) (hb : n < 1000000) : iRange1 f e h = .ok (rangeD 0 n.toNat) h1 := by
  unfold iRange1
  rw [e1]
  show (if -(2 ^ 62) ≤ n ∧ n < 2 ^ 62 then _ else _) = _
  rw [if_pos ⟨by omega, by omega⟩]
theorem rng_ok {n : Int} {h : Ph} (h0 : 0 ≤ n) (hb : n < 1000000) : (if -(2 ^ 62) ≤ n ∧ n < 2 ^ 62 then R.ok (rangeD 0 n.toNat) h else R.bad) = R.ok (rangeD 0 n.toNat) h := if_pos ⟨by omega, by omega⟩
theorem rangeD_len {lo : Int} {n : Nat} : (rangeD lo n).length = n := by unfold rangeD; rw [List.length_map, List.length_range]
theorem rangeD_mem {lo : Int} {n : Nat} {x : D} (h : x ∈ rangeD lo n) : ∃ k : Nat, k < n ∧ x = .int (lo + k) := by
  unfold rangeD at h
  obtain ⟨k, hk, e⟩ := List.mem_map.mp h
  exact ⟨k, List.mem_range.mp hk, e.symm⟩
/-! ### sizes -/
theorem Sm.add1 {a : Nat} {x y : Int} (s : Sm a x) (t : Sm a y) : Sm (a + 1) (x + y) := ⟨by
  have h1 := s.lt
  have h2 := t.lt
  have h5 : (2 : Nat) ^ (a + 1) = 2 * 2 ^ a := by rw [Nat.pow_succ]; omega
  omega⟩
theorem Sm.sub1 {a : Nat} {x y : Int} (s : Sm a x) (t : Sm a y) : Sm (a + 1) (x - y) := ⟨by
  have h1 := s.lt
  have h2 := t.lt
  have h5 : (2 : Nat) ^ (a + 1) = 2 * 2 ^ a := by rw [Nat.pow_succ]; omega
  omega⟩
theorem Sm.of_lt {x : Int} (k : Nat) {n : Int} (h1 : -n < x) (h2 : x < n) (h3 : n ≤ ((2 : Nat) ^ k : Nat)) : Sm k x := ⟨by omega⟩
/-! ### forms -/
theorem sq_nonneg' (x : Int) : 0 ≤ x * x := by
  by_cases h : 0 ≤ x
  · exact Int.mul_nonneg h h
  · have := Int.mul_nonneg (a := -x) (b := -x) (by omega) (by omega); rwa [Int.neg_mul_neg] at this
theorem sq_pos' {x : Int} (hx : x ≠ 0) : 0 < x * x := by
  by_cases h : 0 < x
  · exact Int.mul_pos h h
  · have := Int.mul_pos (a := -x) (b := -x) (by omega) (by omega); rwa [Int.neg_mul_neg] at this
theorem value_pos {a b c p r : Int} (ha : 0 < a) (hm : 0 < 4 * a * c - b * b) (hn : p ≠ 0 ∨ r ≠ 0) : 0 < lA a b c p r := by
  have key : 4 * a * lA a b c p r = (2 * a * p + b * r) * (2 * a * p + b * r) + (4 * a * c - b * b) * (r * r) := by unfold lA; grind
  by_cases hr : r = 0
  · subst hr
    have hp : p ≠ 0 := by omega
    have : lA a b c p 0 = a * (p * p) := by unfold lA; grind
    rw [this]
    exact Int.mul_pos ha (sq_pos' hp)
  · have h1 := Int.mul_pos hm (sq_pos' hr)
    have h2 := sq_nonneg' (2 * a * p + b * r)
    have h3 : 0 < 4 * a * lA a b c p r := by rw [key]; omega
    exact Int.pos_of_mul_pos_right h3 (by omega)
theorem Fm.led {k m : Nat} {a b c p q r s : Int} (f : Fm k a b c) (x : Mx m p q r s) : Fm (k + 2 * m + 4) (lA a b c p r) (lB a b c p q r s) (lA a b c q s) := by
  have d := x.det
  have la : ∀ {p r : Int}, Sm m p → Sm m r → Sm (k + 2 * m + 4) (lA a b c p r) := fun sp sr => by
    have h1 : Sm (k + 2 * m) (a * _ * _) := ((f.sa.mul sp).mul sp).mono (by omega)
    have h2 : Sm (k + 2 * m) (b * _ * _) := ((f.sb.mul sp).mul sr).mono (by omega)
    have h3 : Sm (k + 2 * m) (c * _ * _) := ((f.sc.mul sr).mul sr).mono (by omega)
    exact ((h1.add1 h2).add1 (h3.mono (by omega))).mono (by omega)
  refine ⟨la x.sp x.sr, ?_, la x.sq x.ss, ?_, ?_⟩
  · have h1 : Sm (k + 2 * m + 2) (2 * a * p * q) := (((Sm.lit (n := 2)).mul f.sa |>.mul x.sp).mul x.sq).mono (by show (2 + k + m + m) ≤ _; omega)
    have h3 : Sm (k + 2 * m + 2) (2 * c * r * s) := (((Sm.lit (n := 2)).mul f.sc |>.mul x.sr).mul x.ss).mono (by show (2 + k + m + m) ≤ _; omega)
    have h2 : Sm (k + 2 * m + 2) (b * (p * s + q * r)) := (f.sb.mul (((x.sp.mul x.ss)).add1 ((x.sq.mul x.sr)))).mono (by omega)
    exact ((h1.add1 h2).add1 (h3.mono (by omega))).mono (by omega)
  · refine value_pos f.pos f.mea ?_
    by_cases hp : p = 0
    · right
      intro hr
      subst hp; subst hr
      simp at d
    · exact .inl hp
  · have := f.mea
    rw [led_measure d]
    exact this
theorem Mx.prod {j k : Nat} {a b c d p q r s : Int} (x : Mx j a b c d) (y : Mx k p q r s) : Mx (j + k + 1) (a * p + b * r) (a * q + b * s) (c * p + d * r) (c * q + d * s) :=
  ⟨(x.sp.mul y.sp).add1 (x.sq.mul y.sr), (x.sp.mul y.sq).add1 (x.sq.mul y.ss), (x.sr.mul y.sp).add1 (x.ss.mul y.sr), (x.sr.mul y.sq).add1 (x.ss.mul y.ss), by
    have h1 := x.det
    have h2 := y.det
    have : (a * p + b * r) * (c * q + d * s) - (a * q + b * s) * (c * p + d * r) = (a * d - b * c) * (p * s - q * r) := by grind
    rw [this, h1, h2]; rfl⟩
theorem led_dvd {d a b c p r : Int} (h1 : d ∣ a) (h2 : d ∣ b) (h3 : d ∣ c) : d ∣ lA a b c p r := by
  obtain ⟨x, rfl⟩ := h1
  obtain ⟨y, rfl⟩ := h2
  obtain ⟨z, rfl⟩ := h3
  exact ⟨lA x y z p r, by unfold lA; grind⟩
theorem ledB_dvd {d a b c p q r s : Int} (h1 : d ∣ a) (h2 : d ∣ b) (h3 : d ∣ c) : d ∣ lB a b c p q r s := by
  obtain ⟨x, rfl⟩ := h1
  obtain ⟨y, rfl⟩ := h2
  obtain ⟨z, rfl⟩ := h3
  exact ⟨lB x y z p q r s, by unfold lB; grind⟩
theorem g3_iff {d : Nat} {a b c : Int} : d ∣ g3 a b c ↔ ((d : Int) ∣ a ∧ (d : Int) ∣ b) ∧ (d : Int) ∣ c := by
  unfold g3
  constructor
  · intro h
    have h1 : (d : Int) ∣ (Int.gcd (Int.gcd a b) c : Int) := Int.natCast_dvd_natCast.mpr h
    have h2 := Int.dvd_trans h1 (Int.gcd_dvd_left _ _)
    exact ⟨⟨Int.dvd_trans h2 (Int.gcd_dvd_left _ _), Int.dvd_trans h2 (Int.gcd_dvd_right _ _)⟩, Int.dvd_trans h1 (Int.gcd_dvd_right _ _)⟩
  · intro ⟨⟨h1, h2⟩, h3⟩
    exact Int.dvd_gcd (Int.dvd_coe_gcd h1 h2) h3
theorem g3_led {a b c p q r s : Int} (d : p * s - q * r = 1) : g3 (lA a b c p r) (lB a b c p q r s) (lA a b c q s) = g3 a b c := by
  apply Nat.dvd_antisymm
  · have h := (g3_iff (d := g3 (lA a b c p r) (lB a b c p q r s) (lA a b c q s))).mp (Nat.dvd_refl _)
    obtain ⟨⟨h1, h2⟩, h3⟩ := h
    have e1 : lA (lA a b c p r) (lB a b c p q r s) (lA a b c q s) s (-r) = (p * s - q * r) * (p * s - q * r) * a := by unfold lA lB; grind
    have e2 : lB (lA a b c p r) (lB a b c p q r s) (lA a b c q s) s (-q) (-r) p = (p * s - q * r) * (p * s - q * r) * b := by unfold lA lB; grind
    have e3 : lA (lA a b c p r) (lB a b c p q r s) (lA a b c q s) (-q) p = (p * s - q * r) * (p * s - q * r) * c := by unfold lA lB; grind
    rw [d] at e1 e2 e3
    have q1 := led_dvd (p := s) (r := -r) h1 h2 h3
    have q2 := ledB_dvd (p := s) (q := -q) (r := -r) (s := p) h1 h2 h3
    have q3 := led_dvd (p := -q) (r := p) h1 h2 h3
    rw [e1] at q1
    rw [e2] at q2
    rw [e3] at q3
    refine g3_iff.mpr ⟨⟨?_, ?_⟩, ?_⟩
    · simpa using q1
    · simpa using q2
    · simpa using q3
  · have h := (g3_iff (d := g3 a b c)).mp (Nat.dvd_refl _)
    obtain ⟨⟨h1, h2⟩, h3⟩ := h
    exact g3_iff.mpr ⟨⟨led_dvd h1 h2 h3, ledB_dvd h1 h2 h3⟩, led_dvd h1 h2 h3⟩
theorem led_led {a b c p q r s p' r' : Int} : lA (lA a b c p r) (lB a b c p q r s) (lA a b c q s) p' r' = lA a b c (p * p' + q * r') (r * p' + s * r') := by unfold lA lB; grind
theorem led_ledB {a b c p q r s p' q' r' s' : Int} : lB (lA a b c p r) (lB a b c p q r s) (lA a b c q s) p' q' r' s' = lB a b c (p * p' + q * r') (p * q' + q * s') (r * p' + s * r') (r * q' + s * s') := by unfold lA lB; grind
theorem g3_scale {k a b c : Int} (hk : 0 < k) : (g3 (k * a) (k * b) (k * c) : Int) = k * g3 a b c := by
  unfold g3
  rw [Int.gcd_mul_left, Int.natCast_mul, show ((k.natAbs : Nat) : Int) = k by omega, Int.gcd_mul_left, Int.natCast_mul, show ((k.natAbs : Nat) : Int) = k by omega]
theorem Fm.scale {j m : Nat} {k a b c : Int} (f : Fm j a b c) (hk : 0 < k) (sk : Sm m k) : Fm (m + j) (k * a) (k * b) (k * c) := by
  refine ⟨sk.mul f.sa, sk.mul f.sb, sk.mul f.sc, Int.mul_pos hk f.pos, ?_⟩
  have : 4 * (k * a) * (k * c) - k * b * (k * b) = k * k * (4 * a * c - b * b) := by grind
  rw [this]
  exact Int.mul_pos (Int.mul_pos hk hk) f.mea
end Pd

/-! Ph: levels, fractions, matrices -/
namespace Pd
open PySem L2 Evl
local macro_rules | `(tactic| walk_at "sm") => `(tactic| first | assumption | exact Sm.lit | exact Sm.mul (by walk_at "sm") (by walk_at "sm") | exact Sm.add (by walk_at "sm") (by walk_at "sm") | exact Sm.sub (by walk_at "sm") (by walk_at "sm") | exact Sm.neg (by walk_at "sm"))
local macro_rules | `(tactic| walk_at "cm") => `(tactic| ((with_reducible show CM _ _); first | assumption | exact CM.left (by decide) | exact CM.right (by decide) | exact CM.left (by omega) | exact CM.right (by omega) | exact CM.of (by walk_at "sm") (by walk_at "sm") (by decide)))
def c__law_level_drawn_1 : SE := sLc (iSeq (sVar 2)) (gNm 3) (sTst (sBin dLe (sVar 3) (sVar 1))) (sVar 3) [3]
def f__law_level_drawn : Fn := runDef 4 (sSeq (sAsg (sLst (sCons (sC (.int 1)) (sCons (sC (.int 2)) (sCons (sC (.int 5)) (sCons (sC (.int 11)) (sCons (sC (.int 11)) (sCons (sC (.int 14)) (sCons (sC (.int 15)) (sCons (sC (.int 17)) (sCons (sC (.int 20)) (sCons (sC (.int 22)) (sCons (sC (.int 23)) (sCons (sC (.int 24)) (sCons (sC (.int 26)) (sCons (sC (.int 27)) (sCons (sC (.int 30)) (sCons (sC (.int 33)) (sCons (sC (.int 36)) (sCons (sC (.int 37)) (sCons (sBin dAdd (sC (.int 1)) (sFn f__law_roll (sCons (sVar 0) (sCons (sVar 1) (sNil))))) (sNil))))))))))))))))))))) (gNm 2)) (sRet (sFn f__law_pick (sCons (sVar 0) (sCons (c__law_level_drawn_1) (sNil))))))
def c__law_bezout_1 : SE := sLc (iZipS (sCons (sVar 3) (sCons (sVar 4) (sNil)))) (gTp 2 (gConsS (gNm 8) (gConsS (gNm 9) (gNilS)))) (qYes) (sBin dSub (sVar 8) (sBin dMul (sVar 7) (sVar 9))) [8, 9]
def l__law_bezout_2 : SS := sSeq (sIte (sTst (sBin dEq (sBin dIx (sVar 4) (sC (.int 0))) (sC (.int 0)))) (sBrk) (sNx)) (sSeq (sAsg (sBin dDiv (sBin dIx (sVar 3) (sC (.int 0))) (sBin dIx (sVar 4) (sC (.int 0)))) (gNm 7)) (sPar 3 4 (sCons (sVar 4) (sCons (sCall (g1 dTuple) (sCons (c__law_bezout_1) (sNil))) (sNil)))))
def f__law_bezout : Fn := runDef 10 (sSeq (sAsg (sTup (sCons (sTup (sCons (sVar 0) (sCons (sC (.int 1)) (sCons (sC (.int 0)) (sNil))))) (sCons (sTup (sCons (sVar 1) (sCons (sC (.int 0)) (sCons (sC (.int 1)) (sNil))))) (sCons (sC (.int 0)) (sCons (sC (.int 0)) (sNil)))))) (gTp 4 (gConsS (gNm 3) (gConsS (gNm 4) (gConsS (gNm 5) (gConsS (gNm 6) (gNilS))))))) (sSeq (sFor (iRange1 (sCons (sC (.int 400)) (sNil))) (gNm 2) (l__law_bezout_2)) (sSeq (sPar 5 6 (sCons (sBin dMul (sBin dIx (sVar 3) (sC (.int 1))) (sBin dIx (sVar 3) (sC (.int 0)))) (sCons (sBin dMul (sBin dIx (sVar 3) (sC (.int 2))) (sBin dIx (sVar 3) (sC (.int 0)))) (sNil)))) (sRet (sTup (sCons (sVar 5) (sCons (sVar 6) (sNil))))))))
def c__law_matrix_drawn_1 : SE := sLc (iRange2 (sCons (sBin dSub (sBin dMul (sC (.int (-4))) (sVar 2)) (sC (.int 1))) (sCons (sBin dAdd (sBin dMul (sC (.int 4)) (sVar 2)) (sC (.int 2))) (sNil)))) (gNm 8) (sTst (sBin dEq (sFn f__law_gcd (sCons (sVar 8) (sCons (sVar 3) (sNil)))) (sC (.int 1)))) (sVar 8) [8]
def f__law_matrix_drawn : Fn := runDef 9 (sSeq (sAsg (sBin dMul (sVar 1) (sBin dSub (sFn f__law_roll (sCons (sVar 0) (sCons (sBin dAdd (sBin dMul (sC (.int 2)) (sVar 2)) (sC (.int 1))) (sNil)))) (sVar 2))) (gNm 3)) (sSeq (sAsg (sFn f__law_pick (sCons (sVar 0) (sCons (c__law_matrix_drawn_1) (sNil)))) (gNm 4)) (sSeq (sAsg (sFn f__law_bezout (sCons (sVar 4) (sCons (sVar 3) (sNil)))) (gTp 2 (gConsS (gNm 6) (gConsS (gNm 7) (gNilS))))) (sSeq (sAsg (sBin dSub (sFn f__law_roll (sCons (sVar 0) (sCons (sC (.int 7)) (sNil)))) (sC (.int 3))) (gNm 5)) (sRet (sTup (sCons (sBin dAdd (sVar 6) (sBin dMul (sVar 5) (sVar 3))) (sCons (sBin dSub (sBin dMul (sVar 5) (sVar 4)) (sVar 7)) (sCons (sVar 3) (sCons (sVar 4) (sNil)))))))))))
def f_is_level : Fn := runDef 1 (sRet (sAnd (sFn f_is_whole (sCons (sVar 0) (sNil))) (sChain dLe dLe (sC (.int 1)) (sVar 0) (sC (.int (100))))))
def f_require_level : Fn := runDef 1 (sIte (qNot (sTst (sFn f_is_level (sCons (sVar 0) (sNil))))) (sBad) (sNx))
def f_determinant_in : Fn := runDef 5 (sSeq (sAsg (sVar 0) (gTp 4 (gConsS (gNm 1) (gConsS (gNm 2) (gConsS (gNm 3) (gConsS (gNm 4) (gNilS))))))) (sRet (sBin dSub (sBin dMul (sVar 1) (sVar 4)) (sBin dMul (sVar 2) (sVar 3)))))
def c_is_matrix_1 : SE := sLc (iSeq (sVar 0)) (gNm 1) (qYes) (sFn f_is_whole (sCons (sVar 1) (sNil))) [1]
def f_is_matrix : Fn := runDef 2 (sRet (sAnd (sCall (g2 dIsi) (sCons (sVar 0) (sCons (sC (.ty "tuple")) (sNil)))) (sAnd (sBin dEq (sCall (g1 dLen) (sCons (sVar 0) (sNil))) (sC (.int (4)))) (sCall (g1 dAll) (sCons (c_is_matrix_1) (sNil))))))
def f_is_member : Fn := runDef 2 (sSeq (sDrop (sFn f_require_level (sCons (sVar 0) (sNil)))) (sRet (sAnd (sFn f_is_matrix (sCons (sVar 1) (sNil))) (sAnd (sBin dEq (sFn f_determinant_in (sCons (sVar 1) (sNil))) (sC (.int 1))) (sBin dEq (sBin dMod (sBin dIx (sVar 1) (sC (.int 2))) (sVar 0)) (sC (.int 0)))))))
def c__law_is_group_1 : SE := sLc (iSeq (sVar 1)) (gNm 2) (qOr (qNot (sTst (sCall (g2 dIsi) (sCons (sVar 2) (sCons (sC (.ty "int")) (sNil)))))) (sTst (sCall (g2 dIsi) (sCons (sVar 2) (sCons (sC (.ty "bool")) (sNil)))))) (sVar 2) [2]
def f__law_is_group : Fn := runDef 3 (sSeq (sIte (qOr (qNot (sTst (sCall (g2 dIsi) (sCons (sVar 1) (sCons (sC (.ty "tuple")) (sNil)))))) (sTst (sBin dNe (sCall (g1 dLen) (sCons (sVar 1) (sNil))) (sC (.int 4))))) (sRet (sC (.bl false))) (sNx)) (sSeq (sIte (sTst (sBin dNe (c__law_is_group_1) (sLst (sNil)))) (sRet (sC (.bl false))) (sNx)) (sRet (sAnd (sBin dEq (sBin dSub (sBin dMul (sBin dIx (sVar 1) (sC (.int 0))) (sBin dIx (sVar 1) (sC (.int 3)))) (sBin dMul (sBin dIx (sVar 1) (sC (.int 1))) (sBin dIx (sVar 1) (sC (.int 2))))) (sC (.int 1))) (sBin dEq (sBin dMod (sBin dIx (sVar 1) (sC (.int 2))) (sVar 0)) (sC (.int 0)))))))
def f__law_lowest : Fn := runDef 4 (sSeq (sAsg (sFn f__law_gcd (sCons (sVar 0) (sCons (sVar 1) (sNil)))) (gNm 2)) (sSeq (sAsg (sIf (qOr (sTst (sBin dLt (sVar 1) (sC (.int 0)))) (qAnd (sTst (sBin dEq (sVar 1) (sC (.int 0)))) (sTst (sBin dLt (sVar 0) (sC (.int 0)))))) (sC (.int (-1))) (sC (.int 1))) (gNm 3)) (sRet (sTup (sCons (sBin dDiv (sBin dMul (sVar 3) (sVar 0)) (sVar 2)) (sCons (sBin dDiv (sBin dMul (sVar 3) (sVar 1)) (sVar 2)) (sNil)))))))
def f__law_fraction_drawn : Fn := runDef 2 (sSeq (sIte (sTst (sBin dEq (sFn f__law_roll (sCons (sVar 0) (sCons (sC (.int 8)) (sNil)))) (sC (.int 0)))) (sRet (sTup (sCons (sC (.int 1)) (sCons (sC (.int 0)) (sNil))))) (sNx)) (sRet (sFn f__law_lowest (sCons (sBin dSub (sFn f__law_roll (sCons (sVar 0) (sCons (sBin dAdd (sBin dMul (sC (.int 2)) (sVar 1)) (sC (.int 1))) (sNil)))) (sVar 1)) (sCons (sBin dAdd (sC (.int 1)) (sFn f__law_roll (sCons (sVar 0) (sCons (sVar 1) (sNil))))) (sNil))))))
def f__law_width : Fn := runDef 2 (sRet (sBin dDiv (sVar 0) (sFn f__law_gcd (sCons (sVar 0) (sCons (sBin dMul (sBin dIx (sVar 1) (sC (.int 1))) (sBin dIx (sVar 1) (sC (.int 1)))) (sNil))))))
def l_common_of_1 : SS := sPar 0 1 (sCons (sVar 1) (sCons (sBin dMod (sVar 0) (sVar 1)) (sNil)))
def f_common_of : Fn := runDef 2 (sSeq (sWhile FU (sTst (sBin dNe (sVar 1) (sC (.int 0)))) (l_common_of_1)) (sRet (sCall (g1 dAbs) (sCons (sVar 0) (sNil)))))
def c_is_fraction_1 : SE := sLc (iSeq (sVar 0)) (gNm 3) (qYes) (sFn f_is_integer (sCons (sVar 3) (sNil))) [3]
def f_is_fraction : Fn := runDef 4 (sSeq (sIte (qOr (qNot (sTst (sCall (g2 dIsi) (sCons (sVar 0) (sCons (sC (.ty "tuple")) (sNil)))))) (qOr (sTst (sBin dNe (sCall (g1 dLen) (sCons (sVar 0) (sNil))) (sC (.int 2)))) (qNot (sTst (sCall (g1 dAll) (sCons (c_is_fraction_1) (sNil))))))) (sRet (sC (.bl false))) (sNx)) (sSeq (sAsg (sVar 0) (gTp 2 (gConsS (gNm 1) (gConsS (gNm 2) (gNilS))))) (sSeq (sIte (qOr (qNot (sTst (sChain dLe dLe (sNeg (sC (.int (100000000000000000000)))) (sVar 1) (sC (.int (100000000000000000000)))))) (qNot (sTst (sChain dLe dLe (sC (.int 0)) (sVar 2) (sC (.int (100000000000000000000))))))) (sRet (sC (.bl false))) (sNx)) (sRet (sIf (sTst (sBin dEq (sVar 2) (sC (.int 0)))) (sBin dEq (sVar 0) (sTup (sCons (sC (.int 1)) (sCons (sC (.int 0)) (sNil))))) (sBin dEq (sFn f_common_of (sCons (sVar 1) (sCons (sVar 2) (sNil)))) (sC (.int 1))))))))
def f_require_fraction : Fn := runDef 1 (sIte (qNot (sTst (sFn f_is_fraction (sCons (sVar 0) (sNil))))) (sBad) (sNx))
def f_width_in : Fn := runDef 2 (sRet (sBin dDiv (sVar 0) (sFn f_common_of (sCons (sVar 0) (sCons (sBin dMul (sBin dIx (sVar 1) (sC (.int 1))) (sBin dIx (sVar 1) (sC (.int 1)))) (sNil))))))
def f_keeper_of : Fn := runDef 5 (sSeq (sDrop (sFn f_require_level (sCons (sVar 0) (sNil)))) (sSeq (sDrop (sFn f_require_fraction (sCons (sVar 1) (sNil)))) (sSeq (sAsg (sVar 1) (gTp 2 (gConsS (gNm 3) (gConsS (gNm 4) (gNilS))))) (sSeq (sAsg (sFn f_width_in (sCons (sVar 0) (sCons (sVar 1) (sNil)))) (gNm 2)) (sRet (sTup (sCons (sBin dSub (sC (.int 1)) (sBin dMul (sBin dMul (sVar 3) (sVar 4)) (sVar 2))) (sCons (sBin dMul (sBin dMul (sVar 3) (sVar 3)) (sVar 2)) (sCons (sBin dMul (sBin dMul (sNeg (sVar 4)) (sVar 4)) (sVar 2)) (sCons (sBin dAdd (sC (.int 1)) (sBin dMul (sBin dMul (sVar 3) (sVar 4)) (sVar 2))) (sNil)))))))))))
def f__law_matrix_led : Fn := runDef 6 (sSeq (sAsg (sVar 0) (gTp 4 (gConsS (gNm 2) (gConsS (gNm 3) (gConsS (gNm 4) (gConsS (gNm 5) (gNilS))))))) (sRet (sFn f__law_lowest (sCons (sBin dAdd (sBin dMul (sVar 2) (sBin dIx (sVar 1) (sC (.int 0)))) (sBin dMul (sVar 3) (sBin dIx (sVar 1) (sC (.int 1))))) (sCons (sBin dAdd (sBin dMul (sVar 4) (sBin dIx (sVar 1) (sC (.int 0)))) (sBin dMul (sVar 5) (sBin dIx (sVar 1) (sC (.int 1))))) (sNil))))))
def f__law_matrix_times : Fn := runDef 10 (sSeq (sAsg (sVar 0) (gTp 4 (gConsS (gNm 2) (gConsS (gNm 3) (gConsS (gNm 4) (gConsS (gNm 5) (gNilS))))))) (sSeq (sAsg (sVar 1) (gTp 4 (gConsS (gNm 6) (gConsS (gNm 7) (gConsS (gNm 8) (gConsS (gNm 9) (gNilS))))))) (sRet (sTup (sCons (sBin dAdd (sBin dMul (sVar 2) (sVar 6)) (sBin dMul (sVar 3) (sVar 8))) (sCons (sBin dAdd (sBin dMul (sVar 2) (sVar 7)) (sBin dMul (sVar 3) (sVar 9))) (sCons (sBin dAdd (sBin dMul (sVar 4) (sVar 6)) (sBin dMul (sVar 5) (sVar 8))) (sCons (sBin dAdd (sBin dMul (sVar 4) (sVar 7)) (sBin dMul (sVar 5) (sVar 9))) (sNil)))))))))
def l__law_matrix_power_1 : SS := sAsg (sFn f__law_matrix_times (sCons (sVar 8) (sCons (sVar 7) (sNil)))) (gNm 8)
def f__law_matrix_power : Fn := runDef 9 (sSeq (sAsg (sVar 0) (gTp 4 (gConsS (gNm 3) (gConsS (gNm 4) (gConsS (gNm 5) (gConsS (gNm 6) (gNilS))))))) (sSeq (sPar 7 8 (sCons (sIf (sTst (sBin dGe (sVar 1) (sC (.int 0)))) (sVar 0) (sTup (sCons (sVar 6) (sCons (sNeg (sVar 4)) (sCons (sNeg (sVar 5)) (sCons (sVar 3) (sNil))))))) (sCons (sTup (sCons (sC (.int 1)) (sCons (sC (.int 0)) (sCons (sC (.int 0)) (sCons (sC (.int 1)) (sNil)))))) (sNil)))) (sSeq (sFor (iRange1 (sCons (sCall (g1 dAbs) (sCons (sVar 1) (sNil))) (sNil))) (gNm 2) (l__law_matrix_power_1)) (sRet (sVar 8)))))
def c__law_divisors_1 : SE := sLc (iRange2 (sCons (sC (.int 1)) (sCons (sBin dAdd (sVar 0) (sC (.int 1))) (sNil)))) (gNm 1) (sTst (sBin dEq (sBin dMod (sVar 0) (sVar 1)) (sC (.int 0)))) (sVar 1) [1]
def f__law_divisors : Fn := runDef 2 (sRet (c__law_divisors_1))
def c_is_short_matrix_1 : SE := sLc (iSeq (sVar 0)) (gNm 1) (qYes) (sFn f_is_integer (sCons (sVar 1) (sNil))) [1]
def f_is_short_matrix : Fn := runDef 2 (sRet (sAnd (sFn f_is_matrix (sCons (sVar 0) (sNil))) (sCall (g1 dAll) (sCons (c_is_short_matrix_1) (sNil)))))
def f_lowest : Fn := runDef 3 (sSeq (sIte (sTst (sBin dEq (sVar 1) (sC (.int 0)))) (sRet (sTup (sCons (sC (.int 1)) (sCons (sC (.int 0)) (sNil))))) (sNx)) (sSeq (sAsg (sFn f_common_of (sCons (sVar 0) (sCons (sVar 1) (sNil)))) (gNm 2)) (sRet (sIf (sTst (sBin dGt (sVar 1) (sC (.int 0)))) (sTup (sCons (sBin dDiv (sVar 0) (sVar 2)) (sCons (sBin dDiv (sVar 1) (sVar 2)) (sNil)))) (sTup (sCons (sBin dDiv (sNeg (sVar 0)) (sVar 2)) (sCons (sBin dDiv (sNeg (sVar 1)) (sVar 2)) (sNil))))))))
def f_fraction_led : Fn := runDef 6 (sSeq (sAsg (sVar 0) (gTp 4 (gConsS (gNm 2) (gConsS (gNm 3) (gConsS (gNm 4) (gConsS (gNm 5) (gNilS))))))) (sRet (sFn f_lowest (sCons (sBin dAdd (sBin dMul (sVar 2) (sBin dIx (sVar 1) (sC (.int 0)))) (sBin dMul (sVar 3) (sBin dIx (sVar 1) (sC (.int 1))))) (sCons (sBin dAdd (sBin dMul (sVar 4) (sBin dIx (sVar 1) (sC (.int 0)))) (sBin dMul (sVar 5) (sBin dIx (sVar 1) (sC (.int 1))))) (sNil))))))
def f_led_fraction : Fn := runDef 2 (sSeq (sIte (qOr (qNot (sTst (sFn f_is_short_matrix (sCons (sVar 0) (sNil))))) (sTst (sBin dEq (sFn f_determinant_in (sCons (sVar 0) (sNil))) (sC (.int 0))))) (sBad) (sNx)) (sSeq (sDrop (sFn f_require_fraction (sCons (sVar 1) (sNil)))) (sRet (sFn f_fraction_led (sCons (sVar 0) (sCons (sVar 1) (sNil)))))))
def f_require_short : Fn := runDef 1 (sIte (qNot (sTst (sFn f_is_short_matrix (sCons (sVar 0) (sNil))))) (sBad) (sNx))
def f_product_in : Fn := runDef 10 (sSeq (sAsg (sVar 0) (gTp 4 (gConsS (gNm 2) (gConsS (gNm 3) (gConsS (gNm 4) (gConsS (gNm 5) (gNilS))))))) (sSeq (sAsg (sVar 1) (gTp 4 (gConsS (gNm 6) (gConsS (gNm 7) (gConsS (gNm 8) (gConsS (gNm 9) (gNilS))))))) (sRet (sTup (sCons (sBin dAdd (sBin dMul (sVar 2) (sVar 6)) (sBin dMul (sVar 3) (sVar 8))) (sCons (sBin dAdd (sBin dMul (sVar 2) (sVar 7)) (sBin dMul (sVar 3) (sVar 9))) (sCons (sBin dAdd (sBin dMul (sVar 4) (sVar 6)) (sBin dMul (sVar 5) (sVar 8))) (sCons (sBin dAdd (sBin dMul (sVar 4) (sVar 7)) (sBin dMul (sVar 5) (sVar 9))) (sNil)))))))))
def f_matrix_product : Fn := runDef 2 (sSeq (sDrop (sFn f_require_short (sCons (sVar 0) (sNil)))) (sSeq (sDrop (sFn f_require_short (sCons (sVar 1) (sNil)))) (sRet (sFn f_product_in (sCons (sVar 0) (sCons (sVar 1) (sNil)))))))
def f_back_in : Fn := runDef 5 (sSeq (sAsg (sVar 0) (gTp 4 (gConsS (gNm 1) (gConsS (gNm 2) (gConsS (gNm 3) (gConsS (gNm 4) (gNilS))))))) (sRet (sTup (sCons (sVar 4) (sCons (sNeg (sVar 2)) (sCons (sNeg (sVar 3)) (sCons (sVar 1) (sNil))))))))
def f_matrix_back : Fn := runDef 1 (sSeq (sIte (qOr (qNot (sTst (sFn f_is_short_matrix (sCons (sVar 0) (sNil))))) (sTst (sBin dNe (sFn f_determinant_in (sCons (sVar 0) (sNil))) (sC (.int 1))))) (sBad) (sNx)) (sRet (sFn f_back_in (sCons (sVar 0) (sNil)))))
/-! ### comprehensions over ints -/
theorem compGo_filter {i : Nat} {tt : ST} {e : Pe} {h : Ph} {p : Int → Bool} (hi : i < e.length) : ∀ {ns : List Int}, (∀ x ∈ ns, tt (e.set i (some (.int x))) h = .ok (p x) h) → compGo (gNm i) tt (sVar i) (ns.map D.int) e h = .ok ((ns.filter p).map D.int) h := by
  intro ns
  induction ns with
  | nil => intro _; rfl
  | cons x r ih =>
    intro H
    have hx := H x (by simp)
    have hr := ih fun y hy => H y (by simp [hy])
    rw [List.map_cons, compGo_cons]
    show (tt (e.set i (some (.int x))) h).bd _ = _
    rw [hx]
    show br (p x) _ _ = _
    cases hp : p x with
    | false =>
      rw [List.filter_cons_of_neg (by simp [hp])]
      exact hr
    | true =>
      rw [List.filter_cons_of_pos (by simp [hp])]
      have hv : sVar i (e.set i (some (.int x))) h = .ok (.int x) h := sVar_at (by rw [List.getElem?_set_self hi])
      show (sVar i (e.set i (some (.int x))) h).bd _ = _
      rw [hv]
      show (compGo (gNm i) tt (sVar i) (r.map D.int) e h).bd _ = _
      rw [hr]
      rfl
theorem wipe_len : ∀ {vs : List Nat} {e : Pe}, (wipeD e vs).length = e.length
  | [], _ => rfl
  | v :: vs, e => by show ((wipeD e vs).set v none).length = _; rw [List.length_set, wipe_len]
theorem lc_filter {it : SIt} {i : Nat} {tt : ST} {vs : List Nat} {e : Pe} {h h1 : Ph} {ns : List Int} {p : Int → Bool} (hit : it e h = .ok (ns.map D.int) h1) (hl : ns.length ≤ mostL) (hi : i < e.length) (H : ∀ x ∈ ns, tt ((wipeD e vs).set i (some (.int x))) h1 = .ok (p x) h1) :
    sLc it (gNm i) tt (sVar i) vs e h = .ok (.lst ((ns.filter p).map D.int)) h1 := by
  unfold sLc
  rw [hit]
  show (if (ns.map D.int).length ≤ mostL then _ else _) = _
  rw [if_pos (by rw [List.length_map]; exact hl)]
  have := compGo_filter (e := wipeD e vs) (h := h1) (by rw [wipe_len]; exact hi) H
  rw [this]
  rfl
/-- lo, .., as ints -/
def rangeZ (lo : Int) (n : Nat) : List Int := (List.range n).map fun (k : Nat) => lo + (k : Int)
theorem rangeD_map {lo : Int} {n : Nat} : rangeD lo n = (rangeZ lo n).map D.int := by
  unfold rangeD rangeZ
  rw [List.map_map]
  rfl
theorem rangeZ_len {lo : Int} {n : Nat} : (rangeZ lo n).length = n := by unfold rangeZ; rw [List.length_map, List.length_range]
theorem rangeZ_mem {lo x : Int} {n : Nat} : x ∈ rangeZ lo n ↔ lo ≤ x ∧ x < lo + n := by
  unfold rangeZ
  rw [List.mem_map]
  constructor
  · rintro ⟨k, hk, rfl⟩
    have := List.mem_range.mp hk
    omega
  · rintro ⟨h1, h2⟩
    exact ⟨(x - lo).toNat, List.mem_range.mpr (by omega), by omega⟩
theorem range2_ok {f : SA} {m n : Int} {e : Pe} {h h1 : Ph} (e1 : f e h = .ok [.int m, .int n] h1) (hm : Sm 61 m) (hn : Sm 61 n) : iRange2 f e h = .ok ((rangeZ m (n - m).toNat).map D.int) h1 := by
  have a := hm.lt
  have b := hn.lt
  have k : (2 : Nat) ^ 61 = 2305843009213693952 := rfl
  unfold iRange2
  rw [e1]
  show (if -(2 ^ 62) ≤ m ∧ m < 2 ^ 62 ∧ -(2 ^ 62) ≤ n ∧ n < 2 ^ 62 then _ else _) = _
  rw [if_pos ⟨by omega, by omega, by omega, by omega⟩, rangeD_map]
theorem pick_int {h : Ph} {n : Nat} {ns : List Int} (hd : Dc h n) (h0 : ns ≠ []) (hl : ns.length < 1000000) : ∃ x h', f__law_pick [.ref n, .lst (ns.map D.int)] h = .ok (.int x) h' ∧ x ∈ ns ∧ Dr n h h' := by
  obtain ⟨d, h', e, m, dr⟩ := pick_ok (xs := ns.map D.int) hd (by simpa using h0) (by simpa using hl)
  obtain ⟨x, hx, rfl⟩ := List.mem_map.mp m
  exact ⟨x, h', e, hx, dr⟩
/-! ### levels -/
def someLevels (x : Int) : List Int := [1, 2, 5, 11, 11, 14, 15, 17, 20, 22, 23, 24, 26, 27, 30, 33, 36, 37, x]
theorem level_drawn_ok {n : Nat} {h : Ph} {T : Int} (hd : Dc h n) (h1 : 0 < T) (h2 : T ≤ 1000) : ∃ L h', f__law_level_drawn [.ref n, .int T] h = .ok (.int L) h' ∧ 1 ≤ L ∧ L ≤ T ∧ Dr n h h' := by
  obtain ⟨v, h1', e1, v0, v1, d1⟩ := roll_ok hd h1 (Nat.lt_of_le_of_lt (log_lt (k := 32) (by omega)) (by decide))
  have hc : c__law_level_drawn_1 [some (.ref n), some (.int T), some (.lst ((someLevels (1 + v)).map D.int)), none] h1' = .ok (.lst (((someLevels (1 + v)).filter fun x => decide (x ≤ T)).map D.int)) h1' := by
    unfold c__law_level_drawn_1
    refine lc_filter (h := h1') (h1 := h1') rfl (show 19 ≤ mostL by decide) (show 3 < 4 by decide) fun x hx => ?_
    simp (maxSteps := 4000000) (dsimp := false) (disch := first | assumption | decide | omega | walk_at "cm") only [runDef_ap, sVar_ap, sC_ap, sBin_ap, sNeg_ap, sAnd_ap, sOr_ap, sNot_ap, sIf_ap, sTst_ap, qAnd_ap, qOr_ap, qNot_ap, qYes_ap, sChain_ap, sChain3_ap, sNil_ap, sCons_ap, sTup_ap, sLst_ap, sLstM_ap, sCall_ap, g1_ap, g2_ap, sFn_ap, sAsg_ap, gNm_ap, gTp_ap, gConsS_ap, gNilS_ap, sPar_ap, sPar3_ap, sRet_ap, sRetN_ap, sNx_ap, sBrk_ap, sCnt_ap, sSeq_ap, sIte_ap, sDrop_ap, sFrz_ap, sAug_ap, iRange1_ap, iRange2_ap, iSeq_ap, sFor_ap, sLc_ap, R.toG_ok, ↓R.bind_bnd, bnd_ok, ↓R.bd_bdn, bdn_ok, ↓R.toF_tof, tof_ok, ↓F.seq_sqn, sqn_nx, sqn_ret, sqn_cnt, sqn_brk, ↓F.turn_trn, trn_nx, trn_ret, trn_cnt, trn_brk, F.end_nx, F.end_ret, ↓br_true, br_true, ↓br_false, br_false, Dbr, Dneg, Dtst, opt_some, dAdd_int, dIAdd_int, dSub_int, dLt_int, dLe_int, dGt_int, dGe_int, dEq_int, dNe_int, dEq_bl, dNe_bl, dMul_cm, dMod_pos, dDiv_pos, dAbs_int, dMax2_int, dMin2_int, dInt_int, dInt_bl, dIx_tup, dIx_lst, dIx_seq, dLen_tup, dLen_lst, dLen_seq, atI_0, atI_1, atI_2, atI_3, List.map_cons, List.map_nil, List.length_cons, List.length_nil, List.replicate_succ, List.replicate_zero, List.cons_append, List.nil_append, List.getElem?_cons_zero, List.getElem?_cons_succ, List.set_cons_zero, List.set_cons_succ, Nat.reduceAdd, Nat.reduceSub, Nat.zero_add, Nat.add_zero, Nat.sub_self, Nat.reduceMul, mostL_def, Nat.reduceLeDiff, Nat.reduceLT, ite_true, ite_false, if_true, if_false, ↓reduceIte, reduceIte, ↓br_ite, Bool.false_eq_true, reduceCtorEq, Bool.not_true, Bool.not_false, decide_true, decide_false, Int.cast_ofNat_Int, Int.reduceBEq, Int.reduceAdd, Int.reduceSub, Int.reduceMul, Int.reduceNeg, Int.reduceLT, Int.reduceLE, Int.reduceMod, Int.reduceDiv, sMeth1_ap, sSl_ap, sRev_ap, oNo_ap, oPart_ap, sDict0_ap, sSetL_ap, sLc2_ap, sStar_ap, wipe_cons, wipe_nil]
  have hm : (1 : Int) ∈ (someLevels (1 + v)).filter fun x => decide (x ≤ T) := List.mem_filter.mpr ⟨by simp [someLevels], decide_eq_true (by omega)⟩
  obtain ⟨L, h2', e2, m2, d2⟩ := pick_int (ns := (someLevels (1 + v)).filter fun x => decide (x ≤ T)) d1.dc (List.ne_nil_of_mem hm) (Nat.lt_of_le_of_lt (List.length_filter_le _ _) (show 19 < 1000000 by decide))
  obtain ⟨m3, m4⟩ := List.mem_filter.mp m2
  refine ⟨L, h2', ?_, ?_, by simpa using m4, d1.trans d2⟩
  · unfold someLevels at hc e2
    simp only [List.map_cons, List.map_nil] at hc
    unfold f__law_level_drawn
    simp (maxSteps := 4000000) (dsimp := false) (disch := first | assumption | decide | omega | walk_at "cm") only [runDef_ap, sVar_ap, sC_ap, sBin_ap, sNeg_ap, sAnd_ap, sOr_ap, sNot_ap, sIf_ap, sTst_ap, qAnd_ap, qOr_ap, qNot_ap, qYes_ap, sChain_ap, sChain3_ap, sNil_ap, sCons_ap, sTup_ap, sLst_ap, sLstM_ap, sCall_ap, g1_ap, g2_ap, sFn_ap, sAsg_ap, gNm_ap, gTp_ap, gConsS_ap, gNilS_ap, sPar_ap, sPar3_ap, sRet_ap, sRetN_ap, sNx_ap, sBrk_ap, sCnt_ap, sSeq_ap, sIte_ap, sDrop_ap, sFrz_ap, sAug_ap, iRange1_ap, iRange2_ap, iSeq_ap, sFor_ap, sLc_ap, R.toG_ok, ↓R.bind_bnd, bnd_ok, ↓R.bd_bdn, bdn_ok, ↓R.toF_tof, tof_ok, ↓F.seq_sqn, sqn_nx, sqn_ret, sqn_cnt, sqn_brk, ↓F.turn_trn, trn_nx, trn_ret, trn_cnt, trn_brk, F.end_nx, F.end_ret, ↓br_true, br_true, ↓br_false, br_false, Dbr, Dneg, Dtst, opt_some, dAdd_int, dIAdd_int, dSub_int, dLt_int, dLe_int, dGt_int, dGe_int, dEq_int, dNe_int, dEq_bl, dNe_bl, dMul_cm, dMod_pos, dDiv_pos, dAbs_int, dMax2_int, dMin2_int, dInt_int, dInt_bl, dIx_tup, dIx_lst, dIx_seq, dLen_tup, dLen_lst, dLen_seq, atI_0, atI_1, atI_2, atI_3, List.map_cons, List.map_nil, List.length_cons, List.length_nil, List.replicate_succ, List.replicate_zero, List.cons_append, List.nil_append, List.getElem?_cons_zero, List.getElem?_cons_succ, List.set_cons_zero, List.set_cons_succ, Nat.reduceAdd, Nat.reduceSub, Nat.zero_add, Nat.add_zero, Nat.sub_self, Nat.reduceMul, mostL_def, Nat.reduceLeDiff, Nat.reduceLT, ite_true, ite_false, if_true, if_false, ↓reduceIte, reduceIte, ↓br_ite, Bool.false_eq_true, reduceCtorEq, Bool.not_true, Bool.not_false, decide_true, decide_false, Int.cast_ofNat_Int, Int.reduceBEq, Int.reduceAdd, Int.reduceSub, Int.reduceMul, Int.reduceNeg, Int.reduceLT, Int.reduceLE, Int.reduceMod, Int.reduceDiv, sMeth1_ap, sSl_ap, sRev_ap, oNo_ap, oPart_ap, sDict0_ap, sSetL_ap, sLc2_ap, sStar_ap, e1, hc, e2]
  · unfold someLevels at m3
    simp only [List.mem_cons, List.not_mem_nil, or_false] at m3
    omega
theorem require_level_ok {L : Int} {h : Ph} (h1 : 1 ≤ L) (h2 : L ≤ 100) : f_require_level [.int L] h = .ok .non h := by
  have e : f_is_level [.int L] h = .ok (.bl true) h := by
    have k1 : decide (1 ≤ L) = true := decide_eq_true h1
    have k2 : decide (L ≤ 100) = true := decide_eq_true h2
    unfold f_is_level; simp (maxSteps := 4000000) (dsimp := false) (disch := first | assumption | decide | omega | walk_at "cm") only [runDef_ap, sVar_ap, sC_ap, sBin_ap, sNeg_ap, sAnd_ap, sOr_ap, sNot_ap, sIf_ap, sTst_ap, qAnd_ap, qOr_ap, qNot_ap, qYes_ap, sChain_ap, sChain3_ap, sNil_ap, sCons_ap, sTup_ap, sLst_ap, sLstM_ap, sCall_ap, g1_ap, g2_ap, sFn_ap, sAsg_ap, gNm_ap, gTp_ap, gConsS_ap, gNilS_ap, sPar_ap, sPar3_ap, sRet_ap, sRetN_ap, sNx_ap, sBrk_ap, sCnt_ap, sSeq_ap, sIte_ap, sDrop_ap, sFrz_ap, sAug_ap, iRange1_ap, iRange2_ap, iSeq_ap, sFor_ap, sLc_ap, R.toG_ok, ↓R.bind_bnd, bnd_ok, ↓R.bd_bdn, bdn_ok, ↓R.toF_tof, tof_ok, ↓F.seq_sqn, sqn_nx, sqn_ret, sqn_cnt, sqn_brk, ↓F.turn_trn, trn_nx, trn_ret, trn_cnt, trn_brk, F.end_nx, F.end_ret, ↓br_true, br_true, ↓br_false, br_false, Dbr, Dneg, Dtst, opt_some, dAdd_int, dIAdd_int, dSub_int, dLt_int, dLe_int, dGt_int, dGe_int, dEq_int, dNe_int, dEq_bl, dNe_bl, dMul_cm, dMod_pos, dDiv_pos, dAbs_int, dMax2_int, dMin2_int, dInt_int, dInt_bl, dIx_tup, dIx_lst, dIx_seq, dLen_tup, dLen_lst, dLen_seq, atI_0, atI_1, atI_2, atI_3, List.map_cons, List.map_nil, List.length_cons, List.length_nil, List.replicate_succ, List.replicate_zero, List.cons_append, List.nil_append, List.getElem?_cons_zero, List.getElem?_cons_succ, List.set_cons_zero, List.set_cons_succ, Nat.reduceAdd, Nat.reduceSub, Nat.zero_add, Nat.add_zero, Nat.sub_self, Nat.reduceMul, mostL_def, Nat.reduceLeDiff, Nat.reduceLT, ite_true, ite_false, if_true, if_false, ↓reduceIte, reduceIte, ↓br_ite, Bool.false_eq_true, reduceCtorEq, Bool.not_true, Bool.not_false, decide_true, decide_false, Int.cast_ofNat_Int, Int.reduceBEq, Int.reduceAdd, Int.reduceSub, Int.reduceMul, Int.reduceNeg, Int.reduceLT, Int.reduceLE, Int.reduceMod, Int.reduceDiv, sMeth1_ap, sSl_ap, sRev_ap, oNo_ap, oPart_ap, sDict0_ap, sSetL_ap, sLc2_ap, sStar_ap, whole_int, k1, k2, it_bl, br_bl]
  unfold f_require_level; simp (maxSteps := 4000000) (dsimp := false) (disch := first | assumption | decide | omega | walk_at "cm") only [runDef_ap, sVar_ap, sC_ap, sBin_ap, sNeg_ap, sAnd_ap, sOr_ap, sNot_ap, sIf_ap, sTst_ap, qAnd_ap, qOr_ap, qNot_ap, qYes_ap, sChain_ap, sChain3_ap, sNil_ap, sCons_ap, sTup_ap, sLst_ap, sLstM_ap, sCall_ap, g1_ap, g2_ap, sFn_ap, sAsg_ap, gNm_ap, gTp_ap, gConsS_ap, gNilS_ap, sPar_ap, sPar3_ap, sRet_ap, sRetN_ap, sNx_ap, sBrk_ap, sCnt_ap, sSeq_ap, sIte_ap, sDrop_ap, sFrz_ap, sAug_ap, iRange1_ap, iRange2_ap, iSeq_ap, sFor_ap, sLc_ap, R.toG_ok, ↓R.bind_bnd, bnd_ok, ↓R.bd_bdn, bdn_ok, ↓R.toF_tof, tof_ok, ↓F.seq_sqn, sqn_nx, sqn_ret, sqn_cnt, sqn_brk, ↓F.turn_trn, trn_nx, trn_ret, trn_cnt, trn_brk, F.end_nx, F.end_ret, ↓br_true, br_true, ↓br_false, br_false, Dbr, Dneg, Dtst, opt_some, dAdd_int, dIAdd_int, dSub_int, dLt_int, dLe_int, dGt_int, dGe_int, dEq_int, dNe_int, dEq_bl, dNe_bl, dMul_cm, dMod_pos, dDiv_pos, dAbs_int, dMax2_int, dMin2_int, dInt_int, dInt_bl, dIx_tup, dIx_lst, dIx_seq, dLen_tup, dLen_lst, dLen_seq, atI_0, atI_1, atI_2, atI_3, List.map_cons, List.map_nil, List.length_cons, List.length_nil, List.replicate_succ, List.replicate_zero, List.cons_append, List.nil_append, List.getElem?_cons_zero, List.getElem?_cons_succ, List.set_cons_zero, List.set_cons_succ, Nat.reduceAdd, Nat.reduceSub, Nat.zero_add, Nat.add_zero, Nat.sub_self, Nat.reduceMul, mostL_def, Nat.reduceLeDiff, Nat.reduceLT, ite_true, ite_false, if_true, if_false, ↓reduceIte, reduceIte, ↓br_ite, Bool.false_eq_true, reduceCtorEq, Bool.not_true, Bool.not_false, decide_true, decide_false, Int.cast_ofNat_Int, Int.reduceBEq, Int.reduceAdd, Int.reduceSub, Int.reduceMul, Int.reduceNeg, Int.reduceLT, Int.reduceLE, Int.reduceMod, Int.reduceDiv, sMeth1_ap, sSl_ap, sRev_ap, oNo_ap, oPart_ap, sDict0_ap, sSetL_ap, sLc2_ap, sStar_ap, e]
theorem common_ok {a b : Int} {h : Ph} (hb : Sm 600 b) : f_common_of [.int a, .int b] h = .ok (.int (Int.gcd a b)) h := divisor_ok (fu_lt hb)
/-! ### fractions -/
abbrev T2 (a b : Int) : D := .tup [.int a, .int b]
/-- lowest terms -/
structure Fr (t b : Int) : Prop where
  co : Int.gcd t b = 1
  pos : 0 ≤ b
  inf : b = 0 → t = 1
theorem dvd_cop {a b c : Int} (h : a ∣ b * c) (g : Int.gcd a b = 1) : a ∣ c := by
  refine Int.natAbs_dvd_natAbs.mp (Nat.Coprime.dvd_of_dvd_mul_left g ?_)
  rw [← Int.natAbs_mul]
  exact Int.natAbs_dvd_natAbs.mpr h
theorem Fr.eq {t b u c : Int} (f : Fr t b) (g : Fr u c) (e : t * c = u * b) : t = u ∧ b = c := by
  have h1 : b ∣ c := by
    have : b ∣ t * c := ⟨u, by rw [e, Int.mul_comm]⟩
    exact dvd_cop this (by rw [Int.gcd_comm]; exact f.co)
  have h2 : c ∣ b := by
    have : c ∣ u * b := ⟨t, by rw [← e, Int.mul_comm]⟩
    exact dvd_cop this (by rw [Int.gcd_comm]; exact g.co)
  have h3 : b = c := Int.dvd_antisymm f.pos g.pos h1 h2
  subst h3
  by_cases hb : b = 0
  · exact ⟨by rw [f.inf hb, g.inf hb], rfl⟩
  · exact ⟨Int.eq_of_mul_eq_mul_right hb e, rfl⟩
/-- the lowest terms of x / y -/
def lwS (x y : Int) : Int := if y < 0 ∨ (y = 0 ∧ x < 0) then -1 else 1
def lwT (x y : Int) : Int := lwS x y * x / Int.gcd x y
def lwB (x y : Int) : Int := lwS x y * y / Int.gcd x y
theorem lw_ok {x y : Int} (hn : x ≠ 0 ∨ y ≠ 0) : Fr (lwT x y) (lwB x y) ∧ x = lwS x y * Int.gcd x y * lwT x y ∧ y = lwS x y * Int.gcd x y * lwB x y := by
  have hg : (Int.gcd x y : Int) ≠ 0 := by
    intro h
    have := Int.gcd_eq_zero_iff.mp (by omega : Int.gcd x y = 0)
    omega
  have hs : lwS x y * lwS x y = 1 := by unfold lwS; split <;> rfl
  have dx : (Int.gcd x y : Int) ∣ lwS x y * x := Int.dvd_trans (Int.gcd_dvd_left x y) (Int.dvd_mul_left _ _)
  have dy : (Int.gcd x y : Int) ∣ lwS x y * y := Int.dvd_trans (Int.gcd_dvd_right x y) (Int.dvd_mul_left _ _)
  have ex : lwT x y * Int.gcd x y = lwS x y * x := Int.ediv_mul_cancel dx
  have ey : lwB x y * Int.gcd x y = lwS x y * y := Int.ediv_mul_cancel dy
  have hx : x = lwS x y * Int.gcd x y * lwT x y := by
    have : lwS x y * (lwT x y * Int.gcd x y) = lwS x y * lwS x y * x := by rw [ex]; grind
    rw [hs] at this
    grind
  have hy : y = lwS x y * Int.gcd x y * lwB x y := by
    have : lwS x y * (lwB x y * Int.gcd x y) = lwS x y * lwS x y * y := by rw [ey]; grind
    rw [hs] at this
    grind
  refine ⟨⟨?_, ?_, ?_⟩, hx, hy⟩
  · have h1 : Int.gcd (lwT x y * Int.gcd x y) (lwB x y * Int.gcd x y) = Int.gcd x y := by
      rw [ex, ey, Int.gcd_mul_left]
      have : (lwS x y).natAbs = 1 := by unfold lwS; split <;> rfl
      rw [this, Nat.one_mul]
    rw [Int.gcd_mul_right, Int.natAbs_natCast] at h1
    have h2 : 0 < Int.gcd x y := by omega
    exact Nat.eq_of_mul_eq_mul_right h2 (by rw [h1, Nat.one_mul])
  · refine Int.ediv_nonneg ?_ (Int.natCast_nonneg _)
    unfold lwS
    split
    · omega
    · omega
  · intro hb
    have hy0 : y = 0 := by rw [hy, hb, Int.mul_zero]
    have hx0 : x ≠ 0 := by omega
    subst hy0
    unfold lwT lwS
    rw [Int.gcd_zero_right]
    by_cases hx1 : x < 0
    · rw [if_pos (Or.inr ⟨rfl, hx1⟩), show -1 * x = ((x.natAbs : Nat) : Int) by omega]
      exact Int.ediv_self (by omega)
    · rw [if_neg (by omega), show 1 * x = ((x.natAbs : Nat) : Int) by omega]
      exact Int.ediv_self (by omega)
theorem dDiv_n {x : Int} {g : Nat} {h : Ph} (hg : g ≠ 0) (hb : Sm 8000 (g : Int)) : dDiv (.int x) (.int (g : Int)) h = .ok (.int (x / (g : Int))) h :=
  dDiv_pos (by omega) (Nat.lt_of_le_of_lt (log_lt hb.lt) (by decide))
theorem gcd_sm {x y : Int} {k : Nat} (sx : Sm k x) (sy : Sm k y) : Sm k (Int.gcd x y : Int) := by
  by_cases h : x = 0
  · subst h
    rw [Int.gcd_zero_left]
    exact ⟨by have := sy.lt; omega⟩
  · have : Int.gcd x y ≤ x.natAbs := Nat.le_of_dvd (by omega) (by have := Int.natAbs_dvd_natAbs.mpr (Int.gcd_dvd_left x y); rwa [Int.natAbs_natCast] at this)
    exact ⟨by have := sx.lt; omega⟩
theorem gcd_ne {x y : Int} (hn : x ≠ 0 ∨ y ≠ 0) : Int.gcd x y ≠ 0 := by
  intro h
  have := Int.gcd_eq_zero_iff.mp h
  omega
theorem law_lowest_ok {x y : Int} {h : Ph} (sx : Sm 600 x) (sy : Sm 600 y) (hn : x ≠ 0 ∨ y ≠ 0) : f__law_lowest [.int x, .int y] h = .ok (T2 (lwT x y) (lwB x y)) h := by
  have e1 := gcdL_ok x y h (fu_lt sy)
  have hg := gcd_ne hn
  have sg := (gcd_sm sx sy).mono (by decide : 600 ≤ 8000)
  unfold f__law_lowest lwT lwB lwS
  by_cases h1 : y < 0
  · have k : (y < 0 ∨ y = 0 ∧ x < 0) := .inl h1
    simp (maxSteps := 4000000) (dsimp := false) (disch := first | assumption | decide | omega | walk_at "cm") only [runDef_ap, sVar_ap, sC_ap, sBin_ap, sNeg_ap, sAnd_ap, sOr_ap, sNot_ap, sIf_ap, sTst_ap, qAnd_ap, qOr_ap, qNot_ap, qYes_ap, sChain_ap, sChain3_ap, sNil_ap, sCons_ap, sTup_ap, sLst_ap, sLstM_ap, sCall_ap, g1_ap, g2_ap, sFn_ap, sAsg_ap, gNm_ap, gTp_ap, gConsS_ap, gNilS_ap, sPar_ap, sPar3_ap, sRet_ap, sRetN_ap, sNx_ap, sBrk_ap, sCnt_ap, sSeq_ap, sIte_ap, sDrop_ap, sFrz_ap, sAug_ap, iRange1_ap, iRange2_ap, iSeq_ap, sFor_ap, sLc_ap, R.toG_ok, ↓R.bind_bnd, bnd_ok, ↓R.bd_bdn, bdn_ok, ↓R.toF_tof, tof_ok, ↓F.seq_sqn, sqn_nx, sqn_ret, sqn_cnt, sqn_brk, ↓F.turn_trn, trn_nx, trn_ret, trn_cnt, trn_brk, F.end_nx, F.end_ret, ↓br_true, br_true, ↓br_false, br_false, Dbr, Dneg, Dtst, opt_some, dAdd_int, dIAdd_int, dSub_int, dLt_int, dLe_int, dGt_int, dGe_int, dEq_int, dNe_int, dEq_bl, dNe_bl, dMul_cm, dMod_pos, dDiv_pos, dAbs_int, dMax2_int, dMin2_int, dInt_int, dInt_bl, dIx_tup, dIx_lst, dIx_seq, dLen_tup, dLen_lst, dLen_seq, atI_0, atI_1, atI_2, atI_3, List.map_cons, List.map_nil, List.length_cons, List.length_nil, List.replicate_succ, List.replicate_zero, List.cons_append, List.nil_append, List.getElem?_cons_zero, List.getElem?_cons_succ, List.set_cons_zero, List.set_cons_succ, Nat.reduceAdd, Nat.reduceSub, Nat.zero_add, Nat.add_zero, Nat.sub_self, Nat.reduceMul, mostL_def, Nat.reduceLeDiff, Nat.reduceLT, ite_true, ite_false, if_true, if_false, ↓reduceIte, reduceIte, ↓br_ite, Bool.false_eq_true, reduceCtorEq, Bool.not_true, Bool.not_false, decide_true, decide_false, Int.cast_ofNat_Int, Int.reduceBEq, Int.reduceAdd, Int.reduceSub, Int.reduceMul, Int.reduceNeg, Int.reduceLT, Int.reduceLE, Int.reduceMod, Int.reduceDiv, sMeth1_ap, sSl_ap, sRev_ap, oNo_ap, oPart_ap, sDict0_ap, sSetL_ap, sLc2_ap, sStar_ap, e1, h1, k, dDiv_n, true_or]
  · by_cases h2 : y = 0
    · subst h2
      by_cases h3 : x < 0
      · simp (maxSteps := 4000000) (dsimp := false) (disch := first | assumption | decide | omega | walk_at "cm") only [runDef_ap, sVar_ap, sC_ap, sBin_ap, sNeg_ap, sAnd_ap, sOr_ap, sNot_ap, sIf_ap, sTst_ap, qAnd_ap, qOr_ap, qNot_ap, qYes_ap, sChain_ap, sChain3_ap, sNil_ap, sCons_ap, sTup_ap, sLst_ap, sLstM_ap, sCall_ap, g1_ap, g2_ap, sFn_ap, sAsg_ap, gNm_ap, gTp_ap, gConsS_ap, gNilS_ap, sPar_ap, sPar3_ap, sRet_ap, sRetN_ap, sNx_ap, sBrk_ap, sCnt_ap, sSeq_ap, sIte_ap, sDrop_ap, sFrz_ap, sAug_ap, iRange1_ap, iRange2_ap, iSeq_ap, sFor_ap, sLc_ap, R.toG_ok, ↓R.bind_bnd, bnd_ok, ↓R.bd_bdn, bdn_ok, ↓R.toF_tof, tof_ok, ↓F.seq_sqn, sqn_nx, sqn_ret, sqn_cnt, sqn_brk, ↓F.turn_trn, trn_nx, trn_ret, trn_cnt, trn_brk, F.end_nx, F.end_ret, ↓br_true, br_true, ↓br_false, br_false, Dbr, Dneg, Dtst, opt_some, dAdd_int, dIAdd_int, dSub_int, dLt_int, dLe_int, dGt_int, dGe_int, dEq_int, dNe_int, dEq_bl, dNe_bl, dMul_cm, dMod_pos, dDiv_pos, dAbs_int, dMax2_int, dMin2_int, dInt_int, dInt_bl, dIx_tup, dIx_lst, dIx_seq, dLen_tup, dLen_lst, dLen_seq, atI_0, atI_1, atI_2, atI_3, List.map_cons, List.map_nil, List.length_cons, List.length_nil, List.replicate_succ, List.replicate_zero, List.cons_append, List.nil_append, List.getElem?_cons_zero, List.getElem?_cons_succ, List.set_cons_zero, List.set_cons_succ, Nat.reduceAdd, Nat.reduceSub, Nat.zero_add, Nat.add_zero, Nat.sub_self, Nat.reduceMul, mostL_def, Nat.reduceLeDiff, Nat.reduceLT, ite_true, ite_false, if_true, if_false, ↓reduceIte, reduceIte, ↓br_ite, Bool.false_eq_true, reduceCtorEq, Bool.not_true, Bool.not_false, decide_true, decide_false, Int.cast_ofNat_Int, Int.reduceBEq, Int.reduceAdd, Int.reduceSub, Int.reduceMul, Int.reduceNeg, Int.reduceLT, Int.reduceLE, Int.reduceMod, Int.reduceDiv, sMeth1_ap, sSl_ap, sRev_ap, oNo_ap, oPart_ap, sDict0_ap, sSetL_ap, sLc2_ap, sStar_ap, e1, h1, h3, dDiv_n, beq_self_eq_true, true_and, or_true]
      · simp (maxSteps := 4000000) (dsimp := false) (disch := first | assumption | decide | omega | walk_at "cm") only [runDef_ap, sVar_ap, sC_ap, sBin_ap, sNeg_ap, sAnd_ap, sOr_ap, sNot_ap, sIf_ap, sTst_ap, qAnd_ap, qOr_ap, qNot_ap, qYes_ap, sChain_ap, sChain3_ap, sNil_ap, sCons_ap, sTup_ap, sLst_ap, sLstM_ap, sCall_ap, g1_ap, g2_ap, sFn_ap, sAsg_ap, gNm_ap, gTp_ap, gConsS_ap, gNilS_ap, sPar_ap, sPar3_ap, sRet_ap, sRetN_ap, sNx_ap, sBrk_ap, sCnt_ap, sSeq_ap, sIte_ap, sDrop_ap, sFrz_ap, sAug_ap, iRange1_ap, iRange2_ap, iSeq_ap, sFor_ap, sLc_ap, R.toG_ok, ↓R.bind_bnd, bnd_ok, ↓R.bd_bdn, bdn_ok, ↓R.toF_tof, tof_ok, ↓F.seq_sqn, sqn_nx, sqn_ret, sqn_cnt, sqn_brk, ↓F.turn_trn, trn_nx, trn_ret, trn_cnt, trn_brk, F.end_nx, F.end_ret, ↓br_true, br_true, ↓br_false, br_false, Dbr, Dneg, Dtst, opt_some, dAdd_int, dIAdd_int, dSub_int, dLt_int, dLe_int, dGt_int, dGe_int, dEq_int, dNe_int, dEq_bl, dNe_bl, dMul_cm, dMod_pos, dDiv_pos, dAbs_int, dMax2_int, dMin2_int, dInt_int, dInt_bl, dIx_tup, dIx_lst, dIx_seq, dLen_tup, dLen_lst, dLen_seq, atI_0, atI_1, atI_2, atI_3, List.map_cons, List.map_nil, List.length_cons, List.length_nil, List.replicate_succ, List.replicate_zero, List.cons_append, List.nil_append, List.getElem?_cons_zero, List.getElem?_cons_succ, List.set_cons_zero, List.set_cons_succ, Nat.reduceAdd, Nat.reduceSub, Nat.zero_add, Nat.add_zero, Nat.sub_self, Nat.reduceMul, mostL_def, Nat.reduceLeDiff, Nat.reduceLT, ite_true, ite_false, if_true, if_false, ↓reduceIte, reduceIte, ↓br_ite, Bool.false_eq_true, reduceCtorEq, Bool.not_true, Bool.not_false, decide_true, decide_false, Int.cast_ofNat_Int, Int.reduceBEq, Int.reduceAdd, Int.reduceSub, Int.reduceMul, Int.reduceNeg, Int.reduceLT, Int.reduceLE, Int.reduceMod, Int.reduceDiv, sMeth1_ap, sSl_ap, sRev_ap, oNo_ap, oPart_ap, sDict0_ap, sSetL_ap, sLc2_ap, sStar_ap, e1, h1, h3, dDiv_n, beq_self_eq_true, and_false, or_false]
    · have h2' : (y == 0) = false := beq_false_of_ne h2
      simp (maxSteps := 4000000) (dsimp := false) (disch := first | assumption | decide | omega | walk_at "cm") only [runDef_ap, sVar_ap, sC_ap, sBin_ap, sNeg_ap, sAnd_ap, sOr_ap, sNot_ap, sIf_ap, sTst_ap, qAnd_ap, qOr_ap, qNot_ap, qYes_ap, sChain_ap, sChain3_ap, sNil_ap, sCons_ap, sTup_ap, sLst_ap, sLstM_ap, sCall_ap, g1_ap, g2_ap, sFn_ap, sAsg_ap, gNm_ap, gTp_ap, gConsS_ap, gNilS_ap, sPar_ap, sPar3_ap, sRet_ap, sRetN_ap, sNx_ap, sBrk_ap, sCnt_ap, sSeq_ap, sIte_ap, sDrop_ap, sFrz_ap, sAug_ap, iRange1_ap, iRange2_ap, iSeq_ap, sFor_ap, sLc_ap, R.toG_ok, ↓R.bind_bnd, bnd_ok, ↓R.bd_bdn, bdn_ok, ↓R.toF_tof, tof_ok, ↓F.seq_sqn, sqn_nx, sqn_ret, sqn_cnt, sqn_brk, ↓F.turn_trn, trn_nx, trn_ret, trn_cnt, trn_brk, F.end_nx, F.end_ret, ↓br_true, br_true, ↓br_false, br_false, Dbr, Dneg, Dtst, opt_some, dAdd_int, dIAdd_int, dSub_int, dLt_int, dLe_int, dGt_int, dGe_int, dEq_int, dNe_int, dEq_bl, dNe_bl, dMul_cm, dMod_pos, dDiv_pos, dAbs_int, dMax2_int, dMin2_int, dInt_int, dInt_bl, dIx_tup, dIx_lst, dIx_seq, dLen_tup, dLen_lst, dLen_seq, atI_0, atI_1, atI_2, atI_3, List.map_cons, List.map_nil, List.length_cons, List.length_nil, List.replicate_succ, List.replicate_zero, List.cons_append, List.nil_append, List.getElem?_cons_zero, List.getElem?_cons_succ, List.set_cons_zero, List.set_cons_succ, Nat.reduceAdd, Nat.reduceSub, Nat.zero_add, Nat.add_zero, Nat.sub_self, Nat.reduceMul, mostL_def, Nat.reduceLeDiff, Nat.reduceLT, ite_true, ite_false, if_true, if_false, ↓reduceIte, reduceIte, ↓br_ite, Bool.false_eq_true, reduceCtorEq, Bool.not_true, Bool.not_false, decide_true, decide_false, Int.cast_ofNat_Int, Int.reduceBEq, Int.reduceAdd, Int.reduceSub, Int.reduceMul, Int.reduceNeg, Int.reduceLT, Int.reduceLE, Int.reduceMod, Int.reduceDiv, sMeth1_ap, sSl_ap, sRev_ap, oNo_ap, oPart_ap, sDict0_ap, sSetL_ap, sLc2_ap, sStar_ap, e1, h1, h2, h2', dDiv_n, false_and, or_false]
theorem lowest_ok {x y : Int} {h : Ph} (sx : Sm 600 x) (sy : Sm 600 y) (hn : x ≠ 0 ∨ y ≠ 0) : f_lowest [.int x, .int y] h = .ok (T2 (lwT x y) (lwB x y)) h := by
  have e1 := common_ok (a := x) (h := h) sy
  have hg := gcd_ne hn
  have sg := (gcd_sm sx sy).mono (by decide : 600 ≤ 8000)
  by_cases h2 : y = 0
  · subst h2
    obtain ⟨f, e, e'⟩ := lw_ok (x := x) (y := 0) hn
    have hb : lwB x 0 = 0 := by unfold lwB; simp
    have ht : lwT x 0 = 1 := f.inf hb
    unfold f_lowest
    rw [hb, ht]
    simp (maxSteps := 4000000) (dsimp := false) (disch := first | assumption | decide | omega | walk_at "cm") only [runDef_ap, sVar_ap, sC_ap, sBin_ap, sNeg_ap, sAnd_ap, sOr_ap, sNot_ap, sIf_ap, sTst_ap, qAnd_ap, qOr_ap, qNot_ap, qYes_ap, sChain_ap, sChain3_ap, sNil_ap, sCons_ap, sTup_ap, sLst_ap, sLstM_ap, sCall_ap, g1_ap, g2_ap, sFn_ap, sAsg_ap, gNm_ap, gTp_ap, gConsS_ap, gNilS_ap, sPar_ap, sPar3_ap, sRet_ap, sRetN_ap, sNx_ap, sBrk_ap, sCnt_ap, sSeq_ap, sIte_ap, sDrop_ap, sFrz_ap, sAug_ap, iRange1_ap, iRange2_ap, iSeq_ap, sFor_ap, sLc_ap, R.toG_ok, ↓R.bind_bnd, bnd_ok, ↓R.bd_bdn, bdn_ok, ↓R.toF_tof, tof_ok, ↓F.seq_sqn, sqn_nx, sqn_ret, sqn_cnt, sqn_brk, ↓F.turn_trn, trn_nx, trn_ret, trn_cnt, trn_brk, F.end_nx, F.end_ret, ↓br_true, br_true, ↓br_false, br_false, Dbr, Dneg, Dtst, opt_some, dAdd_int, dIAdd_int, dSub_int, dLt_int, dLe_int, dGt_int, dGe_int, dEq_int, dNe_int, dEq_bl, dNe_bl, dMul_cm, dMod_pos, dDiv_pos, dAbs_int, dMax2_int, dMin2_int, dInt_int, dInt_bl, dIx_tup, dIx_lst, dIx_seq, dLen_tup, dLen_lst, dLen_seq, atI_0, atI_1, atI_2, atI_3, List.map_cons, List.map_nil, List.length_cons, List.length_nil, List.replicate_succ, List.replicate_zero, List.cons_append, List.nil_append, List.getElem?_cons_zero, List.getElem?_cons_succ, List.set_cons_zero, List.set_cons_succ, Nat.reduceAdd, Nat.reduceSub, Nat.zero_add, Nat.add_zero, Nat.sub_self, Nat.reduceMul, mostL_def, Nat.reduceLeDiff, Nat.reduceLT, ite_true, ite_false, if_true, if_false, ↓reduceIte, reduceIte, ↓br_ite, Bool.false_eq_true, reduceCtorEq, Bool.not_true, Bool.not_false, decide_true, decide_false, Int.cast_ofNat_Int, Int.reduceBEq, Int.reduceAdd, Int.reduceSub, Int.reduceMul, Int.reduceNeg, Int.reduceLT, Int.reduceLE, Int.reduceMod, Int.reduceDiv, sMeth1_ap, sSl_ap, sRev_ap, oNo_ap, oPart_ap, sDict0_ap, sSetL_ap, sLc2_ap, sStar_ap, beq_self_eq_true]
  · have h2' : (y == 0) = false := beq_false_of_ne h2
    unfold f_lowest lwT lwB lwS
    by_cases h1 : y < 0
    · have k : (y < 0 ∨ y = 0 ∧ x < 0) := .inl h1
      have h3 : ¬ 0 < y := by omega
      simp (maxSteps := 4000000) (dsimp := false) (disch := first | assumption | decide | omega | walk_at "cm") only [runDef_ap, sVar_ap, sC_ap, sBin_ap, sNeg_ap, sAnd_ap, sOr_ap, sNot_ap, sIf_ap, sTst_ap, qAnd_ap, qOr_ap, qNot_ap, qYes_ap, sChain_ap, sChain3_ap, sNil_ap, sCons_ap, sTup_ap, sLst_ap, sLstM_ap, sCall_ap, g1_ap, g2_ap, sFn_ap, sAsg_ap, gNm_ap, gTp_ap, gConsS_ap, gNilS_ap, sPar_ap, sPar3_ap, sRet_ap, sRetN_ap, sNx_ap, sBrk_ap, sCnt_ap, sSeq_ap, sIte_ap, sDrop_ap, sFrz_ap, sAug_ap, iRange1_ap, iRange2_ap, iSeq_ap, sFor_ap, sLc_ap, R.toG_ok, ↓R.bind_bnd, bnd_ok, ↓R.bd_bdn, bdn_ok, ↓R.toF_tof, tof_ok, ↓F.seq_sqn, sqn_nx, sqn_ret, sqn_cnt, sqn_brk, ↓F.turn_trn, trn_nx, trn_ret, trn_cnt, trn_brk, F.end_nx, F.end_ret, ↓br_true, br_true, ↓br_false, br_false, Dbr, Dneg, Dtst, opt_some, dAdd_int, dIAdd_int, dSub_int, dLt_int, dLe_int, dGt_int, dGe_int, dEq_int, dNe_int, dEq_bl, dNe_bl, dMul_cm, dMod_pos, dDiv_pos, dAbs_int, dMax2_int, dMin2_int, dInt_int, dInt_bl, dIx_tup, dIx_lst, dIx_seq, dLen_tup, dLen_lst, dLen_seq, atI_0, atI_1, atI_2, atI_3, List.map_cons, List.map_nil, List.length_cons, List.length_nil, List.replicate_succ, List.replicate_zero, List.cons_append, List.nil_append, List.getElem?_cons_zero, List.getElem?_cons_succ, List.set_cons_zero, List.set_cons_succ, Nat.reduceAdd, Nat.reduceSub, Nat.zero_add, Nat.add_zero, Nat.sub_self, Nat.reduceMul, mostL_def, Nat.reduceLeDiff, Nat.reduceLT, ite_true, ite_false, if_true, if_false, ↓reduceIte, reduceIte, ↓br_ite, Bool.false_eq_true, reduceCtorEq, Bool.not_true, Bool.not_false, decide_true, decide_false, Int.cast_ofNat_Int, Int.reduceBEq, Int.reduceAdd, Int.reduceSub, Int.reduceMul, Int.reduceNeg, Int.reduceLT, Int.reduceLE, Int.reduceMod, Int.reduceDiv, sMeth1_ap, sSl_ap, sRev_ap, oNo_ap, oPart_ap, sDict0_ap, sSetL_ap, sLc2_ap, sStar_ap, e1, h1, h2', h3, dDiv_n, sNeg_ap, true_or, Int.neg_mul, Int.one_mul]
    · have h3 : 0 < y := by omega
      simp (maxSteps := 4000000) (dsimp := false) (disch := first | assumption | decide | omega | walk_at "cm") only [runDef_ap, sVar_ap, sC_ap, sBin_ap, sNeg_ap, sAnd_ap, sOr_ap, sNot_ap, sIf_ap, sTst_ap, qAnd_ap, qOr_ap, qNot_ap, qYes_ap, sChain_ap, sChain3_ap, sNil_ap, sCons_ap, sTup_ap, sLst_ap, sLstM_ap, sCall_ap, g1_ap, g2_ap, sFn_ap, sAsg_ap, gNm_ap, gTp_ap, gConsS_ap, gNilS_ap, sPar_ap, sPar3_ap, sRet_ap, sRetN_ap, sNx_ap, sBrk_ap, sCnt_ap, sSeq_ap, sIte_ap, sDrop_ap, sFrz_ap, sAug_ap, iRange1_ap, iRange2_ap, iSeq_ap, sFor_ap, sLc_ap, R.toG_ok, ↓R.bind_bnd, bnd_ok, ↓R.bd_bdn, bdn_ok, ↓R.toF_tof, tof_ok, ↓F.seq_sqn, sqn_nx, sqn_ret, sqn_cnt, sqn_brk, ↓F.turn_trn, trn_nx, trn_ret, trn_cnt, trn_brk, F.end_nx, F.end_ret, ↓br_true, br_true, ↓br_false, br_false, Dbr, Dneg, Dtst, opt_some, dAdd_int, dIAdd_int, dSub_int, dLt_int, dLe_int, dGt_int, dGe_int, dEq_int, dNe_int, dEq_bl, dNe_bl, dMul_cm, dMod_pos, dDiv_pos, dAbs_int, dMax2_int, dMin2_int, dInt_int, dInt_bl, dIx_tup, dIx_lst, dIx_seq, dLen_tup, dLen_lst, dLen_seq, atI_0, atI_1, atI_2, atI_3, List.map_cons, List.map_nil, List.length_cons, List.length_nil, List.replicate_succ, List.replicate_zero, List.cons_append, List.nil_append, List.getElem?_cons_zero, List.getElem?_cons_succ, List.set_cons_zero, List.set_cons_succ, Nat.reduceAdd, Nat.reduceSub, Nat.zero_add, Nat.add_zero, Nat.sub_self, Nat.reduceMul, mostL_def, Nat.reduceLeDiff, Nat.reduceLT, ite_true, ite_false, if_true, if_false, ↓reduceIte, reduceIte, ↓br_ite, Bool.false_eq_true, reduceCtorEq, Bool.not_true, Bool.not_false, decide_true, decide_false, Int.cast_ofNat_Int, Int.reduceBEq, Int.reduceAdd, Int.reduceSub, Int.reduceMul, Int.reduceNeg, Int.reduceLT, Int.reduceLE, Int.reduceMod, Int.reduceDiv, sMeth1_ap, sSl_ap, sRev_ap, oNo_ap, oPart_ap, sDict0_ap, sSetL_ap, sLc2_ap, sStar_ap, e1, h1, h2, h2', h3, dDiv_n, false_and, or_false, Int.one_mul]
/-- a fraction that may be handed in -/
structure Fs (t b : Int) : Prop where
  fr : Fr t b
  lt : -100000000000000000000 ≤ t ∧ t ≤ 100000000000000000000
  lb : b ≤ 100000000000000000000
theorem Fs.sm {t b : Int} (f : Fs t b) : Sm 67 t ∧ Sm 67 b := by
  have h1 := f.lt
  have h2 := f.lb
  have h3 := f.fr.pos
  exact ⟨Sm.of_lt 67 (n := 100000000000000000001) (by omega) (by omega) (by decide), Sm.of_lt 67 (n := 100000000000000000001) (by omega) (by omega) (by decide)⟩
theorem require_fraction_ok {t b : Int} {h : Ph} (f : Fs t b) : f_require_fraction [T2 t b] h = .ok .non h := by
  obtain ⟨st, sb⟩ := f.sm
  have it := Iz.ok (st.mono (by decide : 67 ≤ 199))
  have ib := Iz.ok (sb.mono (by decide : 67 ≤ 199))
  have e : f_is_fraction [T2 t b] h = .ok (.bl true) h := by
    have k1 : decide (-100000000000000000000 ≤ t) = true := decide_eq_true f.lt.1
    have k2 : decide (t ≤ 100000000000000000000) = true := decide_eq_true f.lt.2
    have k3 : decide (0 ≤ b) = true := decide_eq_true f.fr.pos
    have k4 : decide (b ≤ 100000000000000000000) = true := decide_eq_true f.lb
    have e1 := common_ok (a := t) (h := h) (sb.mono (by decide : 67 ≤ 600))
    rw [f.fr.co] at e1
    have e2 : dEq (T2 t b) (T2 1 0) h = .ok (.bl (t == 1 && (b == 0 && true))) h := rfl
    have ed : (((1 : Nat) : Int) == 1) = true := rfl
    by_cases hb : b = 0
    · have ht := f.fr.inf hb
      subst hb
      subst ht
      unfold f_is_fraction c_is_fraction_1
      simp (maxSteps := 4000000) (dsimp := false) (disch := first | assumption | decide | omega | walk_at "cm") only [runDef_ap, sVar_ap, sC_ap, sBin_ap, sNeg_ap, sAnd_ap, sOr_ap, sNot_ap, sIf_ap, sTst_ap, qAnd_ap, qOr_ap, qNot_ap, qYes_ap, sChain_ap, sChain3_ap, sNil_ap, sCons_ap, sTup_ap, sLst_ap, sLstM_ap, sCall_ap, g1_ap, g2_ap, sFn_ap, sAsg_ap, gNm_ap, gTp_ap, gConsS_ap, gNilS_ap, sPar_ap, sPar3_ap, sRet_ap, sRetN_ap, sNx_ap, sBrk_ap, sCnt_ap, sSeq_ap, sIte_ap, sDrop_ap, sFrz_ap, sAug_ap, iRange1_ap, iRange2_ap, iSeq_ap, sFor_ap, sLc_ap, R.toG_ok, ↓R.bind_bnd, bnd_ok, ↓R.bd_bdn, bdn_ok, ↓R.toF_tof, tof_ok, ↓F.seq_sqn, sqn_nx, sqn_ret, sqn_cnt, sqn_brk, ↓F.turn_trn, trn_nx, trn_ret, trn_cnt, trn_brk, F.end_nx, F.end_ret, ↓br_true, br_true, ↓br_false, br_false, Dbr, Dneg, Dtst, opt_some, dAdd_int, dIAdd_int, dSub_int, dLt_int, dLe_int, dGt_int, dGe_int, dEq_int, dNe_int, dEq_bl, dNe_bl, dMul_cm, dMod_pos, dDiv_pos, dAbs_int, dMax2_int, dMin2_int, dInt_int, dInt_bl, dIx_tup, dIx_lst, dIx_seq, dLen_tup, dLen_lst, dLen_seq, atI_0, atI_1, atI_2, atI_3, List.map_cons, List.map_nil, List.length_cons, List.length_nil, List.replicate_succ, List.replicate_zero, List.cons_append, List.nil_append, List.getElem?_cons_zero, List.getElem?_cons_succ, List.set_cons_zero, List.set_cons_succ, Nat.reduceAdd, Nat.reduceSub, Nat.zero_add, Nat.add_zero, Nat.sub_self, Nat.reduceMul, mostL_def, Nat.reduceLeDiff, Nat.reduceLT, ite_true, ite_false, if_true, if_false, ↓reduceIte, reduceIte, ↓br_ite, Bool.false_eq_true, reduceCtorEq, Bool.not_true, Bool.not_false, decide_true, decide_false, Int.cast_ofNat_Int, Int.reduceBEq, Int.reduceAdd, Int.reduceSub, Int.reduceMul, Int.reduceNeg, Int.reduceLT, Int.reduceLE, Int.reduceMod, Int.reduceDiv, sMeth1_ap, sSl_ap, sRev_ap, oNo_ap, oPart_ap, sDict0_ap, sSetL_ap, sLc2_ap, sStar_ap, isi_tup, kit_tuple_tuple, compGo_cons, compGo_nil, wipe_cons, wipe_nil, iSeq_at, dAll_lst, bls_cons, bls_nil, Option.map_some, List.all_cons, List.all_nil, id, integer_int, it, ib, Bool.and_true, gTp_ap, gConsS_ap, gNilS_ap, sNeg_ap, k1, k2, k3, k4, e1, e2, beq_self_eq_true, sChain_ap, Bool.and_self]
    · have hb' : (b == 0) = false := beq_false_of_ne hb
      unfold f_is_fraction c_is_fraction_1
      simp (maxSteps := 4000000) (dsimp := false) (disch := first | assumption | decide | omega | walk_at "cm") only [runDef_ap, sVar_ap, sC_ap, sBin_ap, sNeg_ap, sAnd_ap, sOr_ap, sNot_ap, sIf_ap, sTst_ap, qAnd_ap, qOr_ap, qNot_ap, qYes_ap, sChain_ap, sChain3_ap, sNil_ap, sCons_ap, sTup_ap, sLst_ap, sLstM_ap, sCall_ap, g1_ap, g2_ap, sFn_ap, sAsg_ap, gNm_ap, gTp_ap, gConsS_ap, gNilS_ap, sPar_ap, sPar3_ap, sRet_ap, sRetN_ap, sNx_ap, sBrk_ap, sCnt_ap, sSeq_ap, sIte_ap, sDrop_ap, sFrz_ap, sAug_ap, iRange1_ap, iRange2_ap, iSeq_ap, sFor_ap, sLc_ap, R.toG_ok, ↓R.bind_bnd, bnd_ok, ↓R.bd_bdn, bdn_ok, ↓R.toF_tof, tof_ok, ↓F.seq_sqn, sqn_nx, sqn_ret, sqn_cnt, sqn_brk, ↓F.turn_trn, trn_nx, trn_ret, trn_cnt, trn_brk, F.end_nx, F.end_ret, ↓br_true, br_true, ↓br_false, br_false, Dbr, Dneg, Dtst, opt_some, dAdd_int, dIAdd_int, dSub_int, dLt_int, dLe_int, dGt_int, dGe_int, dEq_int, dNe_int, dEq_bl, dNe_bl, dMul_cm, dMod_pos, dDiv_pos, dAbs_int, dMax2_int, dMin2_int, dInt_int, dInt_bl, dIx_tup, dIx_lst, dIx_seq, dLen_tup, dLen_lst, dLen_seq, atI_0, atI_1, atI_2, atI_3, List.map_cons, List.map_nil, List.length_cons, List.length_nil, List.replicate_succ, List.replicate_zero, List.cons_append, List.nil_append, List.getElem?_cons_zero, List.getElem?_cons_succ, List.set_cons_zero, List.set_cons_succ, Nat.reduceAdd, Nat.reduceSub, Nat.zero_add, Nat.add_zero, Nat.sub_self, Nat.reduceMul, mostL_def, Nat.reduceLeDiff, Nat.reduceLT, ite_true, ite_false, if_true, if_false, ↓reduceIte, reduceIte, ↓br_ite, Bool.false_eq_true, reduceCtorEq, Bool.not_true, Bool.not_false, decide_true, decide_false, Int.cast_ofNat_Int, Int.reduceBEq, Int.reduceAdd, Int.reduceSub, Int.reduceMul, Int.reduceNeg, Int.reduceLT, Int.reduceLE, Int.reduceMod, Int.reduceDiv, sMeth1_ap, sSl_ap, sRev_ap, oNo_ap, oPart_ap, sDict0_ap, sSetL_ap, sLc2_ap, sStar_ap, isi_tup, kit_tuple_tuple, compGo_cons, compGo_nil, wipe_cons, wipe_nil, iSeq_at, dAll_lst, bls_cons, bls_nil, Option.map_some, List.all_cons, List.all_nil, id, integer_int, it, ib, Bool.and_true, gTp_ap, gConsS_ap, gNilS_ap, sNeg_ap, k1, k2, k3, k4, e1, e2, hb', ed, sChain_ap, Bool.and_self]
  unfold f_require_fraction; simp (maxSteps := 4000000) (dsimp := false) (disch := first | assumption | decide | omega | walk_at "cm") only [runDef_ap, sVar_ap, sC_ap, sBin_ap, sNeg_ap, sAnd_ap, sOr_ap, sNot_ap, sIf_ap, sTst_ap, qAnd_ap, qOr_ap, qNot_ap, qYes_ap, sChain_ap, sChain3_ap, sNil_ap, sCons_ap, sTup_ap, sLst_ap, sLstM_ap, sCall_ap, g1_ap, g2_ap, sFn_ap, sAsg_ap, gNm_ap, gTp_ap, gConsS_ap, gNilS_ap, sPar_ap, sPar3_ap, sRet_ap, sRetN_ap, sNx_ap, sBrk_ap, sCnt_ap, sSeq_ap, sIte_ap, sDrop_ap, sFrz_ap, sAug_ap, iRange1_ap, iRange2_ap, iSeq_ap, sFor_ap, sLc_ap, R.toG_ok, ↓R.bind_bnd, bnd_ok, ↓R.bd_bdn, bdn_ok, ↓R.toF_tof, tof_ok, ↓F.seq_sqn, sqn_nx, sqn_ret, sqn_cnt, sqn_brk, ↓F.turn_trn, trn_nx, trn_ret, trn_cnt, trn_brk, F.end_nx, F.end_ret, ↓br_true, br_true, ↓br_false, br_false, Dbr, Dneg, Dtst, opt_some, dAdd_int, dIAdd_int, dSub_int, dLt_int, dLe_int, dGt_int, dGe_int, dEq_int, dNe_int, dEq_bl, dNe_bl, dMul_cm, dMod_pos, dDiv_pos, dAbs_int, dMax2_int, dMin2_int, dInt_int, dInt_bl, dIx_tup, dIx_lst, dIx_seq, dLen_tup, dLen_lst, dLen_seq, atI_0, atI_1, atI_2, atI_3, List.map_cons, List.map_nil, List.length_cons, List.length_nil, List.replicate_succ, List.replicate_zero, List.cons_append, List.nil_append, List.getElem?_cons_zero, List.getElem?_cons_succ, List.set_cons_zero, List.set_cons_succ, Nat.reduceAdd, Nat.reduceSub, Nat.zero_add, Nat.add_zero, Nat.sub_self, Nat.reduceMul, mostL_def, Nat.reduceLeDiff, Nat.reduceLT, ite_true, ite_false, if_true, if_false, ↓reduceIte, reduceIte, ↓br_ite, Bool.false_eq_true, reduceCtorEq, Bool.not_true, Bool.not_false, decide_true, decide_false, Int.cast_ofNat_Int, Int.reduceBEq, Int.reduceAdd, Int.reduceSub, Int.reduceMul, Int.reduceNeg, Int.reduceLT, Int.reduceLE, Int.reduceMod, Int.reduceDiv, sMeth1_ap, sSl_ap, sRev_ap, oNo_ap, oPart_ap, sDict0_ap, sSetL_ap, sLc2_ap, sStar_ap, e]
theorem fraction_drawn_ok {n : Nat} {h : Ph} {T : Int} (hd : Dc h n) (h1 : 0 < T) (h2 : T ≤ 100000) : ∃ t b h', f__law_fraction_drawn [.ref n, .int T] h = .ok (T2 t b) h' ∧ Fr t b ∧ Sm 20 t ∧ Sm 20 b ∧ Dr n h h' := by
  have lg : ∀ {X : Int}, 0 < X → X < 4294967296 → X.natAbs.log2 < 9000 := fun h1 h2 => Nat.lt_of_le_of_lt (log_lt (k := 32) (by omega)) (by decide)
  obtain ⟨u, h3, e1, u0, u1, d1⟩ := roll_ok (T := 8) hd (by decide) (by decide)
  by_cases hu : u = 0
  · subst hu
    refine ⟨1, 0, h3, ?_, ⟨by decide, by decide, fun _ => rfl⟩, ⟨by decide⟩, ⟨by decide⟩, d1⟩
    unfold f__law_fraction_drawn
    simp (maxSteps := 4000000) (dsimp := false) (disch := first | assumption | decide | omega | walk_at "cm") only [runDef_ap, sVar_ap, sC_ap, sBin_ap, sNeg_ap, sAnd_ap, sOr_ap, sNot_ap, sIf_ap, sTst_ap, qAnd_ap, qOr_ap, qNot_ap, qYes_ap, sChain_ap, sChain3_ap, sNil_ap, sCons_ap, sTup_ap, sLst_ap, sLstM_ap, sCall_ap, g1_ap, g2_ap, sFn_ap, sAsg_ap, gNm_ap, gTp_ap, gConsS_ap, gNilS_ap, sPar_ap, sPar3_ap, sRet_ap, sRetN_ap, sNx_ap, sBrk_ap, sCnt_ap, sSeq_ap, sIte_ap, sDrop_ap, sFrz_ap, sAug_ap, iRange1_ap, iRange2_ap, iSeq_ap, sFor_ap, sLc_ap, R.toG_ok, ↓R.bind_bnd, bnd_ok, ↓R.bd_bdn, bdn_ok, ↓R.toF_tof, tof_ok, ↓F.seq_sqn, sqn_nx, sqn_ret, sqn_cnt, sqn_brk, ↓F.turn_trn, trn_nx, trn_ret, trn_cnt, trn_brk, F.end_nx, F.end_ret, ↓br_true, br_true, ↓br_false, br_false, Dbr, Dneg, Dtst, opt_some, dAdd_int, dIAdd_int, dSub_int, dLt_int, dLe_int, dGt_int, dGe_int, dEq_int, dNe_int, dEq_bl, dNe_bl, dMul_cm, dMod_pos, dDiv_pos, dAbs_int, dMax2_int, dMin2_int, dInt_int, dInt_bl, dIx_tup, dIx_lst, dIx_seq, dLen_tup, dLen_lst, dLen_seq, atI_0, atI_1, atI_2, atI_3, List.map_cons, List.map_nil, List.length_cons, List.length_nil, List.replicate_succ, List.replicate_zero, List.cons_append, List.nil_append, List.getElem?_cons_zero, List.getElem?_cons_succ, List.set_cons_zero, List.set_cons_succ, Nat.reduceAdd, Nat.reduceSub, Nat.zero_add, Nat.add_zero, Nat.sub_self, Nat.reduceMul, mostL_def, Nat.reduceLeDiff, Nat.reduceLT, ite_true, ite_false, if_true, if_false, ↓reduceIte, reduceIte, ↓br_ite, Bool.false_eq_true, reduceCtorEq, Bool.not_true, Bool.not_false, decide_true, decide_false, Int.cast_ofNat_Int, Int.reduceBEq, Int.reduceAdd, Int.reduceSub, Int.reduceMul, Int.reduceNeg, Int.reduceLT, Int.reduceLE, Int.reduceMod, Int.reduceDiv, sMeth1_ap, sSl_ap, sRev_ap, oNo_ap, oPart_ap, sDict0_ap, sSetL_ap, sLc2_ap, sStar_ap, e1, beq_self_eq_true]
  · obtain ⟨v, h4, e2, v0, v1, d2⟩ := roll_ok (T := 2 * T + 1) d1.dc (by omega) (lg (by omega) (by omega))
    obtain ⟨w, h5, e3, w0, w1, d3⟩ := roll_ok (T := T) d2.dc (by omega) (lg (by omega) (by omega))
    have sx : Sm 20 (v - T) := Sm.of_lt 20 (n := 200000) (by omega) (by omega) (by decide)
    have sy : Sm 20 (1 + w) := Sm.of_lt 20 (n := 200000) (by omega) (by omega) (by decide)
    have hn : v - T ≠ 0 ∨ 1 + w ≠ 0 := .inr (by omega)
    obtain ⟨f, ex, ey⟩ := lw_ok hn
    have e4 := law_lowest_ok (h := h5) (sx.mono (by decide : 20 ≤ 600)) (sy.mono (by decide : 20 ≤ 600)) hn
    have hu' : (u == 0) = false := beq_false_of_ne hu
    have hg := gcd_ne hn
    have key : ∀ {z k : Int}, Sm 20 z → z = lwS (v - T) (1 + w) * Int.gcd (v - T) (1 + w) * k → Sm 20 k := fun {z k} sz e => by
      have := sz.lt
      rw [e, Int.natAbs_mul, Int.natAbs_mul, Int.natAbs_natCast, show (lwS (v - T) (1 + w)).natAbs = 1 by unfold lwS; split <;> rfl, Nat.one_mul] at this
      exact ⟨Nat.lt_of_le_of_lt (Nat.le_mul_of_pos_left _ (by omega)) this⟩
    refine ⟨_, _, h5, ?_, f, key sx ex, key sy ey, (d1.trans d2).trans d3⟩
    unfold f__law_fraction_drawn
    simp (maxSteps := 4000000) (dsimp := false) (disch := first | assumption | decide | omega | walk_at "cm") only [runDef_ap, sVar_ap, sC_ap, sBin_ap, sNeg_ap, sAnd_ap, sOr_ap, sNot_ap, sIf_ap, sTst_ap, qAnd_ap, qOr_ap, qNot_ap, qYes_ap, sChain_ap, sChain3_ap, sNil_ap, sCons_ap, sTup_ap, sLst_ap, sLstM_ap, sCall_ap, g1_ap, g2_ap, sFn_ap, sAsg_ap, gNm_ap, gTp_ap, gConsS_ap, gNilS_ap, sPar_ap, sPar3_ap, sRet_ap, sRetN_ap, sNx_ap, sBrk_ap, sCnt_ap, sSeq_ap, sIte_ap, sDrop_ap, sFrz_ap, sAug_ap, iRange1_ap, iRange2_ap, iSeq_ap, sFor_ap, sLc_ap, R.toG_ok, ↓R.bind_bnd, bnd_ok, ↓R.bd_bdn, bdn_ok, ↓R.toF_tof, tof_ok, ↓F.seq_sqn, sqn_nx, sqn_ret, sqn_cnt, sqn_brk, ↓F.turn_trn, trn_nx, trn_ret, trn_cnt, trn_brk, F.end_nx, F.end_ret, ↓br_true, br_true, ↓br_false, br_false, Dbr, Dneg, Dtst, opt_some, dAdd_int, dIAdd_int, dSub_int, dLt_int, dLe_int, dGt_int, dGe_int, dEq_int, dNe_int, dEq_bl, dNe_bl, dMul_cm, dMod_pos, dDiv_pos, dAbs_int, dMax2_int, dMin2_int, dInt_int, dInt_bl, dIx_tup, dIx_lst, dIx_seq, dLen_tup, dLen_lst, dLen_seq, atI_0, atI_1, atI_2, atI_3, List.map_cons, List.map_nil, List.length_cons, List.length_nil, List.replicate_succ, List.replicate_zero, List.cons_append, List.nil_append, List.getElem?_cons_zero, List.getElem?_cons_succ, List.set_cons_zero, List.set_cons_succ, Nat.reduceAdd, Nat.reduceSub, Nat.zero_add, Nat.add_zero, Nat.sub_self, Nat.reduceMul, mostL_def, Nat.reduceLeDiff, Nat.reduceLT, ite_true, ite_false, if_true, if_false, ↓reduceIte, reduceIte, ↓br_ite, Bool.false_eq_true, reduceCtorEq, Bool.not_true, Bool.not_false, decide_true, decide_false, Int.cast_ofNat_Int, Int.reduceBEq, Int.reduceAdd, Int.reduceSub, Int.reduceMul, Int.reduceNeg, Int.reduceLT, Int.reduceLE, Int.reduceMod, Int.reduceDiv, sMeth1_ap, sSl_ap, sRev_ap, oNo_ap, oPart_ap, sDict0_ap, sSetL_ap, sLc2_ap, sStar_ap, e1, e2, e3, e4, hu']
/-! ### bezout -/
theorem dDiv_f {i j : Int} {h : Ph} (hj : j ≠ 0) (hb : Sm 30 j) : dDiv (.int i) (.int j) h = .ok (.int (i.fdiv j)) h := by
  by_cases h0 : 0 < j
  · rw [dDiv_pos h0 (Nat.lt_of_le_of_lt (log_lt hb.lt) (by decide)), Int.fdiv_eq_ediv_of_nonneg i (by omega)]
  · show (if 0 < j then _ else (if j ≠ 0 ∧ j.natAbs < 1073741824 then _ else _)) = _
    rw [if_neg h0, if_pos ⟨hj, hb.lt⟩]
theorem bez_step {one other : D} {a x y b u v : Int} {o2 o5 o6 o7 o8 o9 : Option D} {h : Ph} (hb : b ≠ 0) (sb : Sm 30 b) (sq : Sm 200 (a.fdiv b)) (su : Sm 200 u) (sv : Sm 200 v) :
    l__law_bezout_2 [some one, some other, o2, some (T3 a x y), some (T3 b u v), o5, o6, o7, o8, o9] h = .nx [some one, some other, o2, some (T3 b u v), some (T3 (a.fmod b) (x - a.fdiv b * u) (y - a.fdiv b * v)), o5, o6, some (.int (a.fdiv b)), o8, o9] h := by
  have e0 : a - a.fdiv b * b = a.fmod b := by have := Int.mul_fdiv_add_fmod a b; rw [Int.mul_comm (a.fdiv b) b]; omega
  have hb' : (b == 0) = false := beq_false_of_ne hb
  have ed := dDiv_f (i := a) (h := h) hb sb
  have sb := sb.mono (by decide : 30 ≤ 200)
  have ez : zipD [.int a, .int x, .int y] [.int b, .int u, .int v] = [T2 a b, T2 x u, T2 y v] := rfl
  have hc : c__law_bezout_1 [some one, some other, o2, some (T3 a x y), some (T3 b u v), o5, o6, some (.int (a.fdiv b)), o8, o9] h = .ok (.lst [.int (a.fmod b), .int (x - a.fdiv b * u), .int (y - a.fdiv b * v)]) h := by
    unfold c__law_bezout_1
    simp (maxSteps := 4000000) (dsimp := false) (disch := first | assumption | decide | omega | walk_at "cm") only [runDef_ap, sVar_ap, sC_ap, sBin_ap, sNeg_ap, sAnd_ap, sOr_ap, sNot_ap, sIf_ap, sTst_ap, qAnd_ap, qOr_ap, qNot_ap, qYes_ap, sChain_ap, sChain3_ap, sNil_ap, sCons_ap, sTup_ap, sLst_ap, sLstM_ap, sCall_ap, g1_ap, g2_ap, sFn_ap, sAsg_ap, gNm_ap, gTp_ap, gConsS_ap, gNilS_ap, sPar_ap, sPar3_ap, sRet_ap, sRetN_ap, sNx_ap, sBrk_ap, sCnt_ap, sSeq_ap, sIte_ap, sDrop_ap, sFrz_ap, sAug_ap, iRange1_ap, iRange2_ap, iSeq_ap, sFor_ap, sLc_ap, R.toG_ok, ↓R.bind_bnd, bnd_ok, ↓R.bd_bdn, bdn_ok, ↓R.toF_tof, tof_ok, ↓F.seq_sqn, sqn_nx, sqn_ret, sqn_cnt, sqn_brk, ↓F.turn_trn, trn_nx, trn_ret, trn_cnt, trn_brk, F.end_nx, F.end_ret, ↓br_true, br_true, ↓br_false, br_false, Dbr, Dneg, Dtst, opt_some, dAdd_int, dIAdd_int, dSub_int, dLt_int, dLe_int, dGt_int, dGe_int, dEq_int, dNe_int, dEq_bl, dNe_bl, dMul_cm, dMod_pos, dDiv_pos, dAbs_int, dMax2_int, dMin2_int, dInt_int, dInt_bl, dIx_tup, dIx_lst, dIx_seq, dLen_tup, dLen_lst, dLen_seq, atI_0, atI_1, atI_2, atI_3, List.map_cons, List.map_nil, List.length_cons, List.length_nil, List.replicate_succ, List.replicate_zero, List.cons_append, List.nil_append, List.getElem?_cons_zero, List.getElem?_cons_succ, List.set_cons_zero, List.set_cons_succ, Nat.reduceAdd, Nat.reduceSub, Nat.zero_add, Nat.add_zero, Nat.sub_self, Nat.reduceMul, mostL_def, Nat.reduceLeDiff, Nat.reduceLT, ite_true, ite_false, if_true, if_false, ↓reduceIte, reduceIte, ↓br_ite, Bool.false_eq_true, reduceCtorEq, Bool.not_true, Bool.not_false, decide_true, decide_false, Int.cast_ofNat_Int, Int.reduceBEq, Int.reduceAdd, Int.reduceSub, Int.reduceMul, Int.reduceNeg, Int.reduceLT, Int.reduceLE, Int.reduceMod, Int.reduceDiv, sMeth1_ap, sSl_ap, sRev_ap, oNo_ap, oPart_ap, sDict0_ap, sSetL_ap, sLc2_ap, sStar_ap, iZipS_ap, ez, compGo_cons, compGo_nil, wipe_cons, wipe_nil, gTp_ap, gConsS_ap, gNilS_ap, e0]
  have et : dTuple (.lst [.int (a.fmod b), .int (x - a.fdiv b * u), .int (y - a.fdiv b * v)]) h = .ok (T3 (a.fmod b) (x - a.fdiv b * u) (y - a.fdiv b * v)) h := rfl
  unfold l__law_bezout_2
  simp (maxSteps := 4000000) (dsimp := false) (disch := first | assumption | decide | omega | walk_at "cm") only [runDef_ap, sVar_ap, sC_ap, sBin_ap, sNeg_ap, sAnd_ap, sOr_ap, sNot_ap, sIf_ap, sTst_ap, qAnd_ap, qOr_ap, qNot_ap, qYes_ap, sChain_ap, sChain3_ap, sNil_ap, sCons_ap, sTup_ap, sLst_ap, sLstM_ap, sCall_ap, g1_ap, g2_ap, sFn_ap, sAsg_ap, gNm_ap, gTp_ap, gConsS_ap, gNilS_ap, sPar_ap, sPar3_ap, sRet_ap, sRetN_ap, sNx_ap, sBrk_ap, sCnt_ap, sSeq_ap, sIte_ap, sDrop_ap, sFrz_ap, sAug_ap, iRange1_ap, iRange2_ap, iSeq_ap, sFor_ap, sLc_ap, R.toG_ok, ↓R.bind_bnd, bnd_ok, ↓R.bd_bdn, bdn_ok, ↓R.toF_tof, tof_ok, ↓F.seq_sqn, sqn_nx, sqn_ret, sqn_cnt, sqn_brk, ↓F.turn_trn, trn_nx, trn_ret, trn_cnt, trn_brk, F.end_nx, F.end_ret, ↓br_true, br_true, ↓br_false, br_false, Dbr, Dneg, Dtst, opt_some, dAdd_int, dIAdd_int, dSub_int, dLt_int, dLe_int, dGt_int, dGe_int, dEq_int, dNe_int, dEq_bl, dNe_bl, dMul_cm, dMod_pos, dDiv_pos, dAbs_int, dMax2_int, dMin2_int, dInt_int, dInt_bl, dIx_tup, dIx_lst, dIx_seq, dLen_tup, dLen_lst, dLen_seq, atI_0, atI_1, atI_2, atI_3, List.map_cons, List.map_nil, List.length_cons, List.length_nil, List.replicate_succ, List.replicate_zero, List.cons_append, List.nil_append, List.getElem?_cons_zero, List.getElem?_cons_succ, List.set_cons_zero, List.set_cons_succ, Nat.reduceAdd, Nat.reduceSub, Nat.zero_add, Nat.add_zero, Nat.sub_self, Nat.reduceMul, mostL_def, Nat.reduceLeDiff, Nat.reduceLT, ite_true, ite_false, if_true, if_false, ↓reduceIte, reduceIte, ↓br_ite, Bool.false_eq_true, reduceCtorEq, Bool.not_true, Bool.not_false, decide_true, decide_false, Int.cast_ofNat_Int, Int.reduceBEq, Int.reduceAdd, Int.reduceSub, Int.reduceMul, Int.reduceNeg, Int.reduceLT, Int.reduceLE, Int.reduceMod, Int.reduceDiv, sMeth1_ap, sSl_ap, sRev_ap, oNo_ap, oPart_ap, sDict0_ap, sSetL_ap, sLc2_ap, sStar_ap, hb', ed, hc, et]
theorem bez_stop {one other : D} {a x y u v : Int} {o2 o5 o6 o7 o8 o9 : Option D} {h : Ph} :
    l__law_bezout_2 [some one, some other, o2, some (T3 a x y), some (T3 0 u v), o5, o6, o7, o8, o9] h = .brk [some one, some other, o2, some (T3 a x y), some (T3 0 u v), o5, o6, o7, o8, o9] h := by
  unfold l__law_bezout_2
  simp (maxSteps := 4000000) (dsimp := false) (disch := first | assumption | decide | omega | walk_at "cm") only [runDef_ap, sVar_ap, sC_ap, sBin_ap, sNeg_ap, sAnd_ap, sOr_ap, sNot_ap, sIf_ap, sTst_ap, qAnd_ap, qOr_ap, qNot_ap, qYes_ap, sChain_ap, sChain3_ap, sNil_ap, sCons_ap, sTup_ap, sLst_ap, sLstM_ap, sCall_ap, g1_ap, g2_ap, sFn_ap, sAsg_ap, gNm_ap, gTp_ap, gConsS_ap, gNilS_ap, sPar_ap, sPar3_ap, sRet_ap, sRetN_ap, sNx_ap, sBrk_ap, sCnt_ap, sSeq_ap, sIte_ap, sDrop_ap, sFrz_ap, sAug_ap, iRange1_ap, iRange2_ap, iSeq_ap, sFor_ap, sLc_ap, R.toG_ok, ↓R.bind_bnd, bnd_ok, ↓R.bd_bdn, bdn_ok, ↓R.toF_tof, tof_ok, ↓F.seq_sqn, sqn_nx, sqn_ret, sqn_cnt, sqn_brk, ↓F.turn_trn, trn_nx, trn_ret, trn_cnt, trn_brk, F.end_nx, F.end_ret, ↓br_true, br_true, ↓br_false, br_false, Dbr, Dneg, Dtst, opt_some, dAdd_int, dIAdd_int, dSub_int, dLt_int, dLe_int, dGt_int, dGe_int, dEq_int, dNe_int, dEq_bl, dNe_bl, dMul_cm, dMod_pos, dDiv_pos, dAbs_int, dMax2_int, dMin2_int, dInt_int, dInt_bl, dIx_tup, dIx_lst, dIx_seq, dLen_tup, dLen_lst, dLen_seq, atI_0, atI_1, atI_2, atI_3, List.map_cons, List.map_nil, List.length_cons, List.length_nil, List.replicate_succ, List.replicate_zero, List.cons_append, List.nil_append, List.getElem?_cons_zero, List.getElem?_cons_succ, List.set_cons_zero, List.set_cons_succ, Nat.reduceAdd, Nat.reduceSub, Nat.zero_add, Nat.add_zero, Nat.sub_self, Nat.reduceMul, mostL_def, Nat.reduceLeDiff, Nat.reduceLT, ite_true, ite_false, if_true, if_false, ↓reduceIte, reduceIte, ↓br_ite, Bool.false_eq_true, reduceCtorEq, Bool.not_true, Bool.not_false, decide_true, decide_false, Int.cast_ofNat_Int, Int.reduceBEq, Int.reduceAdd, Int.reduceSub, Int.reduceMul, Int.reduceNeg, Int.reduceLT, Int.reduceLE, Int.reduceMod, Int.reduceDiv, sMeth1_ap, sSl_ap, sRev_ap, oNo_ap, oPart_ap, sDict0_ap, sSetL_ap, sLc2_ap, sStar_ap, beq_self_eq_true]
/-- one or minus one -/
def Un1 (s : Int) : Prop := s = 1 ∨ s = -1
theorem un_div {s : Int} (hs : Un1 s) (A B : Nat) : (s * (A : Int)).fdiv (s * (B : Int)) = ((A / B : Nat) : Int) ∧ (s * (A : Int)).fmod (s * (B : Int)) = s * ((A % B : Nat) : Int) := by
  rcases hs with rfl | rfl
  · rw [Int.one_mul, Int.one_mul, Int.one_mul, Int.fdiv_eq_ediv_of_nonneg _ (Int.natCast_nonneg _), Int.fmod_eq_emod_of_nonneg _ (Int.natCast_nonneg _)]
    exact ⟨rfl, rfl⟩
  · rw [show (-1 : Int) * (A : Int) = -(A : Int) by omega, show (-1 : Int) * (B : Int) = -(B : Int) by omega, Int.neg_fdiv_neg, Int.neg_fmod_neg, Int.fdiv_eq_ediv_of_nonneg _ (Int.natCast_nonneg _), Int.fmod_eq_emod_of_nonneg _ (Int.natCast_nonneg _)]
    exact ⟨rfl, by rw [Int.neg_one_mul]; rfl⟩
theorem natAbs_sm {x : Int} {I k : Nat} (h : x.natAbs ≤ I) (hI : I < 2 ^ k) : Sm k x := ⟨Nat.lt_of_le_of_lt h hI⟩
theorem bez_run {one other : D} {d c : Int} {I I' : Nat} (hI : I < 2 ^ 100) (hI' : I' < 2 ^ 100) {s : Int} (hs : Un1 s) {h : Ph} : ∀ (N : Nat) (xs : List D) (A B : Nat) (x y u v : Int) (o2 o5 o6 o7 o8 o9 : Option D),
    0 < A → B ≤ A → A * B < 2 ^ N → N < xs.length → Nat.gcd A B = 1 → A < 2 ^ 30 → s * A = x * d + y * c → s * B = u * d + v * c → x.natAbs * B + u.natAbs * A ≤ I → x.natAbs ≤ I → y.natAbs * B + v.natAbs * A ≤ I' → y.natAbs ≤ I' →
    ∃ x' y' o2' o4 o7', forGo (gNm 2) l__law_bezout_2 xs [some one, some other, o2, some (T3 (s * A) x y), some (T3 (s * B) u v), o5, o6, o7, o8, o9] h = .nx [some one, some other, o2', some (T3 s x' y'), o4, o5, o6, o7', o8, o9] h ∧ x' * d + y' * c = s ∧ x'.natAbs ≤ I ∧ y'.natAbs ≤ I' := by
  intro N
  induction N with
  | zero =>
    intro xs A B x y u v o2 o5 o6 o7 o8 o9 hA hBA hP hN hg hA30 ea eb ix ix' iy iy'
    obtain ⟨z, r, rfl⟩ : ∃ z r, xs = z :: r := by cases xs with | nil => simp at hN | cons z r => exact ⟨z, r, rfl⟩
    have hB : B = 0 := by
      rcases Nat.eq_zero_or_pos B with h | h
      · exact h
      · have := Nat.mul_pos hA h; omega
    subst hB
    rw [Nat.gcd_zero_right] at hg
    subst hg
    refine ⟨x, y, some z, some (T3 0 u v), o7, ?_, by rw [← ea]; simp, ix', iy'⟩
    rw [show s * ((0 : Nat) : Int) = 0 by simp, show s * ((1 : Nat) : Int) = s by simp]
    unfold forGo
    show (l__law_bezout_2 [some one, some other, some z, some (T3 s x y), some (T3 0 u v), o5, o6, o7, o8, o9] h).turn _ = _
    rw [bez_stop]
    rfl
  | succ N ih =>
    intro xs A B x y u v o2 o5 o6 o7 o8 o9 hA hBA hP hN hg hA30 ea eb ix ix' iy iy'
    obtain ⟨z, r, rfl⟩ : ∃ z r, xs = z :: r := by cases xs with | nil => simp at hN | cons z r => exact ⟨z, r, rfl⟩
    rcases Nat.eq_zero_or_pos B with hB | hB
    · subst hB
      rw [Nat.gcd_zero_right] at hg
      subst hg
      refine ⟨x, y, some z, some (T3 0 u v), o7, ?_, by rw [← ea]; simp, ix', iy'⟩
      rw [show s * ((0 : Nat) : Int) = 0 by simp, show s * ((1 : Nat) : Int) = s by simp]
      unfold forGo
      show (l__law_bezout_2 [some one, some other, some z, some (T3 s x y), some (T3 0 u v), o5, o6, o7, o8, o9] h).turn _ = _
      rw [bez_stop]
      rfl
    · obtain ⟨k1, k2⟩ := un_div hs A B
      have hsB : s * (B : Int) ≠ 0 := by rcases hs with rfl | rfl <;> omega
      have hq : A / B ≤ A := Nat.div_le_self A B
      have hdm := Nat.div_add_mod A B
      have hml := Nat.mod_lt A hB
      have hu : u.natAbs ≤ I := Nat.le_trans (Nat.le_mul_of_pos_right _ hA) (by omega)
      have hv : v.natAbs ≤ I' := Nat.le_trans (Nat.le_mul_of_pos_right _ hA) (by omega)
      have sB : Sm 30 (s * (B : Int)) := by
        constructor
        rw [Int.natAbs_mul, Int.natAbs_natCast, show s.natAbs = 1 by rcases hs with rfl | rfl <;> rfl]
        omega
      have st := bez_step (one := one) (other := other) (a := s * A) (x := x) (y := y) (b := s * B) (u := u) (v := v) (o2 := some z) (o5 := o5) (o6 := o6) (o7 := o7) (o8 := o8) (o9 := o9) (h := h) hsB sB (by rw [k1]; exact natAbs_sm (I := A) (by rw [Int.natAbs_natCast]; exact hq) (Nat.lt_trans hA30 (by decide))) ((natAbs_sm hu hI).mono (by decide)) ((natAbs_sm hv hI').mono (by decide))
      rw [k1, k2] at st
      have grow : ∀ (p t : Int) (J : Nat), p.natAbs * B + t.natAbs * A ≤ J → t.natAbs * (A % B) + (p - ((A / B : Nat) : Int) * t).natAbs * B ≤ J := by
        intro p t J hJ
        have h1 : (p - ((A / B : Nat) : Int) * t).natAbs ≤ p.natAbs + (A / B) * t.natAbs := by
          have := Int.natAbs_sub_le p (((A / B : Nat) : Int) * t)
          rwa [Int.natAbs_mul, Int.natAbs_natCast] at this
        have h2 := Nat.mul_le_mul_right B h1
        have h3 : t.natAbs * A = t.natAbs * (A % B) + (A / B) * t.natAbs * B := by
          have e : A = B * (A / B) + A % B := hdm.symm
          calc t.natAbs * A = t.natAbs * (B * (A / B) + A % B) := by rw [← e]
            _ = t.natAbs * (A % B) + (A / B) * t.natAbs * B := by grind
        rw [Nat.add_mul] at h2
        omega
      have hR : B * (A % B) < 2 ^ N := by
        have hq1 : 1 ≤ A / B := (Nat.one_le_div_iff hB).mpr hBA
        have h1 : B ≤ B * (A / B) := Nat.le_mul_of_pos_right _ hq1
        have h2 : 2 * (A % B) < A := by omega
        have h3 : B * (2 * (A % B)) < B * A := Nat.mul_lt_mul_of_pos_left h2 hB
        have h4 : B * (2 * (A % B)) = 2 * (B * (A % B)) := by grind
        have h5 : B * A = A * B := Nat.mul_comm _ _
        have h6 : 2 ^ (N + 1) = 2 * 2 ^ N := by rw [Nat.pow_succ]; omega
        omega
      have eb' : s * ((A % B : Nat) : Int) = (x - ((A / B : Nat) : Int) * u) * d + (y - ((A / B : Nat) : Int) * v) * c := by
        have e : (A : Int) = B * ((A / B : Nat) : Int) + ((A % B : Nat) : Int) := by rw [← Int.natCast_mul, ← Int.natCast_add, hdm]
        have e1 : s * (A : Int) = s * (B * ((A / B : Nat) : Int) + ((A % B : Nat) : Int)) := by rw [← e]
        grind
      obtain ⟨x', y', o2', o4, o7', w1, w2, w3, w4⟩ := ih r B (A % B) u v (x - ((A / B : Nat) : Int) * u) (y - ((A / B : Nat) : Int) * v) (some z) o5 o6 (some (.int ((A / B : Nat) : Int))) o8 o9 hB (Nat.le_of_lt hml) hR (by simpa using hN) (by rw [Nat.gcd_comm, ← Nat.gcd_rec, Nat.gcd_comm]; exact hg) (by omega) eb eb' (grow x u I ix) hu (grow y v I' iy) hv
      refine ⟨x', y', o2', o4, o7', ?_, w2, w3, w4⟩
      unfold forGo
      show (l__law_bezout_2 [some one, some other, some z, some (T3 (s * A) x y), some (T3 (s * B) u v), o5, o6, o7, o8, o9] h).turn _ = _
      rw [st]
      exact w1
theorem mul_un {s : Int} (hs : Un1 s) : s * s = 1 ∧ ∀ x : Int, (x * s).natAbs = x.natAbs := by
  rcases hs with rfl | rfl
  · exact ⟨rfl, fun x => by rw [Int.mul_one]⟩
  · exact ⟨rfl, fun x => by omega⟩
theorem sgn_split {c : Int} (hc : c ≠ 0) : ∃ s, Un1 s ∧ c = s * (c.natAbs : Int) ∧ ∀ d : Int, d.fmod c = s * ((d.fmod c).natAbs : Int) := by
  by_cases h : 0 < c
  · refine ⟨1, .inl rfl, by omega, fun d => ?_⟩
    have := Int.fmod_nonneg_of_pos d h
    omega
  · refine ⟨-1, .inr rfl, by omega, fun d => ?_⟩
    have := Int.fmod_nonneg_of_pos (-d) (b := -c) (by omega)
    rw [Int.neg_fmod_neg] at this
    omega
theorem fdiv_bound (d c : Int) (hc : c ≠ 0) : (d.fdiv c).natAbs * c.natAbs ≤ d.natAbs + c.natAbs := by
  have h1 := Int.mul_fdiv_add_fmod d c
  have h2 := fmod_lt d c hc
  have h3 : (d.fdiv c).natAbs * c.natAbs = (c * d.fdiv c).natAbs := by rw [Int.natAbs_mul, Nat.mul_comm]
  rw [h3]
  omega
theorem bezout_ok {d c : Int} {h : Ph} {k : Nat} (hk : k ≤ 28) (hg : Int.gcd d c = 1) (sd : Sm k d) (sc : Sm k c) : ∃ x y, f__law_bezout [.int d, .int c] h = .ok (T2 x y) h ∧ x * d + y * c = 1 ∧ Sm (k + 2) x ∧ Sm (k + 2) y := by
  have hk4 : 2 ^ (k + 2) = 4 * 2 ^ k := by rw [Nat.pow_add]; omega
  have hk28 : 2 ^ k ≤ 2 ^ 28 := Nat.pow_le_pow_right (by decide) hk
  have hk1 : 1 ≤ 2 ^ k := Nat.one_le_two_pow
  have rr : (if -(2 ^ 62) ≤ (400 : Int) ∧ (400 : Int) < 2 ^ 62 then R.ok (rangeD 0 (400 : Int).toNat) h else R.bad) = R.ok (rangeD 0 400) h := rfl
  have rl : (rangeD 0 400).length = 400 := rangeD_len
  obtain ⟨z, r, hz⟩ : ∃ z r, rangeD 0 400 = z :: r := by
    cases q : rangeD 0 400 with
    | nil => rw [q] at rl; simp at rl
    | cons z r => exact ⟨z, r, rfl⟩
  have rl' : r.length = 399 := by rw [hz] at rl; simpa using rl
  have hd0 := sd.lt
  have hc0 := sc.lt
  have hd1 : d.natAbs < 2 ^ 28 := by omega
  have hc1 : c.natAbs < 2 ^ 28 := by omega
  have fin : ∀ {s x' y' : Int} {o2 o4 o7 : Option D}, Un1 s → x' * d + y' * c = s → Sm (k + 2) x' → Sm (k + 2) y' → forGo (gNm 2) l__law_bezout_2 (rangeD 0 400) [some (.int d), some (.int c), none, some (T3 d 1 0), some (T3 c 0 1), some (.int 0), some (.int 0), none, none, none] h = .nx [some (.int d), some (.int c), o2, some (T3 s x' y'), o4, some (.int 0), some (.int 0), o7, none, none] h →
      ∃ x y, f__law_bezout [.int d, .int c] h = .ok (T2 x y) h ∧ x * d + y * c = 1 ∧ Sm (k + 2) x ∧ Sm (k + 2) y := by
    intro s x' y' o2 o4 o7 hs e1 sx sy e2
    obtain ⟨k1, k2⟩ := mul_un hs
    have sx6 := sx.mono (show k + 2 ≤ 600 by omega)
    have sy6 := sy.mono (show k + 2 ≤ 600 by omega)
    have ss : Sm 1 s := by rcases hs with rfl | rfl <;> exact ⟨by decide⟩
    refine ⟨x' * s, y' * s, ?_, ?_, ⟨by rw [k2]; exact sx.lt⟩, ⟨by rw [k2]; exact sy.lt⟩⟩
    · unfold f__law_bezout
      have m1 : CM x' s := CM.of sx6 ss (by decide)
      have m2 : CM y' s := CM.of sy6 ss (by decide)
      simp (maxSteps := 4000000) (dsimp := false) (disch := first | assumption | decide | omega | walk_at "cm") only [runDef_ap, sVar_ap, sC_ap, sBin_ap, sNeg_ap, sAnd_ap, sOr_ap, sNot_ap, sIf_ap, sTst_ap, qAnd_ap, qOr_ap, qNot_ap, qYes_ap, sChain_ap, sChain3_ap, sNil_ap, sCons_ap, sTup_ap, sLst_ap, sLstM_ap, sCall_ap, g1_ap, g2_ap, sFn_ap, sAsg_ap, gNm_ap, gTp_ap, gConsS_ap, gNilS_ap, sPar_ap, sPar3_ap, sRet_ap, sRetN_ap, sNx_ap, sBrk_ap, sCnt_ap, sSeq_ap, sIte_ap, sDrop_ap, sFrz_ap, sAug_ap, iRange1_ap, iRange2_ap, iSeq_ap, sFor_ap, sLc_ap, R.toG_ok, ↓R.bind_bnd, bnd_ok, ↓R.bd_bdn, bdn_ok, ↓R.toF_tof, tof_ok, ↓F.seq_sqn, sqn_nx, sqn_ret, sqn_cnt, sqn_brk, ↓F.turn_trn, trn_nx, trn_ret, trn_cnt, trn_brk, F.end_nx, F.end_ret, ↓br_true, br_true, ↓br_false, br_false, Dbr, Dneg, Dtst, opt_some, dAdd_int, dIAdd_int, dSub_int, dLt_int, dLe_int, dGt_int, dGe_int, dEq_int, dNe_int, dEq_bl, dNe_bl, dMul_cm, dMod_pos, dDiv_pos, dAbs_int, dMax2_int, dMin2_int, dInt_int, dInt_bl, dIx_tup, dIx_lst, dIx_seq, dLen_tup, dLen_lst, dLen_seq, atI_0, atI_1, atI_2, atI_3, List.map_cons, List.map_nil, List.length_cons, List.length_nil, List.replicate_succ, List.replicate_zero, List.cons_append, List.nil_append, List.getElem?_cons_zero, List.getElem?_cons_succ, List.set_cons_zero, List.set_cons_succ, Nat.reduceAdd, Nat.reduceSub, Nat.zero_add, Nat.add_zero, Nat.sub_self, Nat.reduceMul, mostL_def, Nat.reduceLeDiff, Nat.reduceLT, ite_true, ite_false, if_true, if_false, ↓reduceIte, reduceIte, ↓br_ite, Bool.false_eq_true, reduceCtorEq, Bool.not_true, Bool.not_false, decide_true, decide_false, Int.cast_ofNat_Int, Int.reduceBEq, Int.reduceAdd, Int.reduceSub, Int.reduceMul, Int.reduceNeg, Int.reduceLT, Int.reduceLE, Int.reduceMod, Int.reduceDiv, sMeth1_ap, sSl_ap, sRev_ap, oNo_ap, oPart_ap, sDict0_ap, sSetL_ap, sLc2_ap, sStar_ap, gTp_ap, gConsS_ap, gNilS_ap, rr, e2]
    · have : x' * s * d + y' * s * c = (x' * d + y' * c) * s := by grind
      rw [this, e1, k1]
  by_cases hc : c = 0
  · subst hc
    rw [Int.gcd_zero_right] at hg
    have hs : Un1 d := by unfold Un1; omega
    refine fin (s := d) (x' := 1) (y' := 0) (o2 := some z) (o4 := some (T3 0 0 1)) (o7 := none) hs (by simp) ⟨by show 1 < _; omega⟩ ⟨by show 0 < _; omega⟩ ?_
    rw [hz]
    unfold forGo
    show (l__law_bezout_2 [some (.int d), some (.int 0), some z, some (T3 d 1 0), some (T3 0 0 1), some (.int 0), some (.int 0), none, none, none] h).turn _ = _
    rw [bez_stop]
    rfl
  · obtain ⟨s, hs, ec, em⟩ := sgn_split hc
    have hq := fdiv_bound d c hc
    have hm := fmod_lt d c hc
    have hA : 0 < c.natAbs := by omega
    have hqd : (d.fdiv c).natAbs ≤ d.natAbs + c.natAbs := Nat.le_trans (Nat.le_mul_of_pos_right _ hA) hq
    have st := bez_step (one := .int d) (other := .int c) (a := d) (x := 1) (y := 0) (b := c) (u := 0) (v := 1) (o2 := some z) (o5 := some (.int 0)) (o6 := some (.int 0)) (o7 := none) (o8 := none) (o9 := none) (h := h) hc (sc.mono (by omega)) (natAbs_sm hqd (by omega)) ⟨by decide⟩ ⟨by decide⟩
    have ef := Int.mul_fdiv_add_fmod d c
    obtain ⟨x', y', o2', o4, o7', w1, w2, w3, w4⟩ := bez_run (one := .int d) (other := .int c) (d := d) (c := c) (I := c.natAbs) (I' := 2 * c.natAbs + d.natAbs) (by omega) (by omega) hs (h := h) 56 r c.natAbs (d.fmod c).natAbs 0 1 (1 - d.fdiv c * 0) (0 - d.fdiv c * 1) (some z) (some (.int 0)) (some (.int 0)) (some (.int (d.fdiv c))) none none hA (by omega)
      (by have := Nat.mul_lt_mul'' hc1 (Nat.lt_of_lt_of_le hm (Nat.le_of_lt hc1)); rw [← Nat.pow_add] at this; exact this)
      (by omega) (by have := fmod_gcd d c; rw [hg] at this; exact this) (by omega) (by rw [← ec]; simp) (by rw [← em]; grind)
      (by simp) (by simp) (by simp; omega) (by simp; omega)
    refine fin (s := s) (o2 := o2') (o4 := o4) (o7 := o7') hs w2 (natAbs_sm w3 (by omega)) (natAbs_sm w4 (by omega)) ?_
    rw [hz]
    unfold forGo
    show (l__law_bezout_2 [some (.int d), some (.int c), some z, some (T3 d 1 0), some (T3 c 0 1), some (.int 0), some (.int 0), none, none, none] h).turn _ = _
    rw [st]
    rw [← ec, ← em] at w1
    exact w1
/-! ### matrices -/
theorem matrix_drawn_ok {n : Nat} {h : Ph} {L T : Int} (hd : Dc h n) (hL : 1 ≤ L) (hL2 : L ≤ 1000) (hT : 1 ≤ T) (hT2 : T ≤ 1000) : ∃ p q r s h', f__law_matrix_drawn [.ref n, .int L, .int T] h = .ok (T4 p q r s) h' ∧ Mx 24 p q r s ∧ L ∣ r ∧ Dr n h h' := by
  have lg : ∀ {X : Int}, 0 < X → X < 4294967296 → X.natAbs.log2 < 9000 := fun h1 h2 => Nat.lt_of_le_of_lt (log_lt (k := 32) (by omega)) (by decide)
  obtain ⟨v, h1, e1, v0, v1, d1⟩ := roll_ok (T := 2 * T + 1) hd (by omega) (lg (by omega) (by omega))
  have sL : Sm 10 L := Sm.of_lt 10 (n := 1001) (by omega) (by omega) (by decide)
  have sT : Sm 10 T := Sm.of_lt 10 (n := 1001) (by omega) (by omega) (by decide)
  have sv : Sm 10 (v - T) := Sm.of_lt 10 (n := 1001) (by omega) (by omega) (by decide)
  have sc : Sm 20 (L * (v - T)) := sL.mul sv
  generalize hcc : L * (v - T) = c at sc
  have hLc : L ∣ c := ⟨v - T, hcc.symm⟩
  let ns := rangeZ (-4 * T - 1) (4 * T + 2 - (-4 * T - 1)).toNat
  have hns : ns.length ≤ 10000 := by show (rangeZ _ _).length ≤ _; rw [rangeZ_len]; omega
  have hmem : ∀ x ∈ ns, -5000 < x ∧ x < 5000 := fun x hx => by have := rangeZ_mem.mp hx; omega
  have hc : c__law_matrix_drawn_1 [some (.ref n), some (.int L), some (.int T), some (.int c), none, none, none, none, none] h1 = .ok (.lst ((ns.filter fun x => (Int.gcd x c : Int) == 1).map D.int)) h1 := by
    unfold c__law_matrix_drawn_1
    refine lc_filter (h := h1) (h1 := h1) (ns := ns) ?_ (Nat.le_trans hns (show 10000 ≤ mostL by decide)) (show 8 < 9 by decide) fun x hx => ?_
    · refine range2_ok (m := -4 * T - 1) (n := 4 * T + 2) ?_ (Sm.of_lt 61 (n := 1000000) (by omega) (by omega) (by decide)) (Sm.of_lt 61 (n := 1000000) (by omega) (by omega) (by decide))
      simp (maxSteps := 4000000) (dsimp := false) (disch := first | assumption | decide | omega | walk_at "cm") only [runDef_ap, sVar_ap, sC_ap, sBin_ap, sNeg_ap, sAnd_ap, sOr_ap, sNot_ap, sIf_ap, sTst_ap, qAnd_ap, qOr_ap, qNot_ap, qYes_ap, sChain_ap, sChain3_ap, sNil_ap, sCons_ap, sTup_ap, sLst_ap, sLstM_ap, sCall_ap, g1_ap, g2_ap, sFn_ap, sAsg_ap, gNm_ap, gTp_ap, gConsS_ap, gNilS_ap, sPar_ap, sPar3_ap, sRet_ap, sRetN_ap, sNx_ap, sBrk_ap, sCnt_ap, sSeq_ap, sIte_ap, sDrop_ap, sFrz_ap, sAug_ap, iRange1_ap, iRange2_ap, iSeq_ap, sFor_ap, sLc_ap, R.toG_ok, ↓R.bind_bnd, bnd_ok, ↓R.bd_bdn, bdn_ok, ↓R.toF_tof, tof_ok, ↓F.seq_sqn, sqn_nx, sqn_ret, sqn_cnt, sqn_brk, ↓F.turn_trn, trn_nx, trn_ret, trn_cnt, trn_brk, F.end_nx, F.end_ret, ↓br_true, br_true, ↓br_false, br_false, Dbr, Dneg, Dtst, opt_some, dAdd_int, dIAdd_int, dSub_int, dLt_int, dLe_int, dGt_int, dGe_int, dEq_int, dNe_int, dEq_bl, dNe_bl, dMul_cm, dMod_pos, dDiv_pos, dAbs_int, dMax2_int, dMin2_int, dInt_int, dInt_bl, dIx_tup, dIx_lst, dIx_seq, dLen_tup, dLen_lst, dLen_seq, atI_0, atI_1, atI_2, atI_3, List.map_cons, List.map_nil, List.length_cons, List.length_nil, List.replicate_succ, List.replicate_zero, List.cons_append, List.nil_append, List.getElem?_cons_zero, List.getElem?_cons_succ, List.set_cons_zero, List.set_cons_succ, Nat.reduceAdd, Nat.reduceSub, Nat.zero_add, Nat.add_zero, Nat.sub_self, Nat.reduceMul, mostL_def, Nat.reduceLeDiff, Nat.reduceLT, ite_true, ite_false, if_true, if_false, ↓reduceIte, reduceIte, ↓br_ite, Bool.false_eq_true, reduceCtorEq, Bool.not_true, Bool.not_false, decide_true, decide_false, Int.cast_ofNat_Int, Int.reduceBEq, Int.reduceAdd, Int.reduceSub, Int.reduceMul, Int.reduceNeg, Int.reduceLT, Int.reduceLE, Int.reduceMod, Int.reduceDiv, sMeth1_ap, sSl_ap, sRev_ap, oNo_ap, oPart_ap, sDict0_ap, sSetL_ap, sLc2_ap, sStar_ap]
    · have e := gcdL_ok x c h1 (fu_lt (sc.mono (by decide)))
      simp (maxSteps := 4000000) (dsimp := false) (disch := first | assumption | decide | omega | walk_at "cm") only [runDef_ap, sVar_ap, sC_ap, sBin_ap, sNeg_ap, sAnd_ap, sOr_ap, sNot_ap, sIf_ap, sTst_ap, qAnd_ap, qOr_ap, qNot_ap, qYes_ap, sChain_ap, sChain3_ap, sNil_ap, sCons_ap, sTup_ap, sLst_ap, sLstM_ap, sCall_ap, g1_ap, g2_ap, sFn_ap, sAsg_ap, gNm_ap, gTp_ap, gConsS_ap, gNilS_ap, sPar_ap, sPar3_ap, sRet_ap, sRetN_ap, sNx_ap, sBrk_ap, sCnt_ap, sSeq_ap, sIte_ap, sDrop_ap, sFrz_ap, sAug_ap, iRange1_ap, iRange2_ap, iSeq_ap, sFor_ap, sLc_ap, R.toG_ok, ↓R.bind_bnd, bnd_ok, ↓R.bd_bdn, bdn_ok, ↓R.toF_tof, tof_ok, ↓F.seq_sqn, sqn_nx, sqn_ret, sqn_cnt, sqn_brk, ↓F.turn_trn, trn_nx, trn_ret, trn_cnt, trn_brk, F.end_nx, F.end_ret, ↓br_true, br_true, ↓br_false, br_false, Dbr, Dneg, Dtst, opt_some, dAdd_int, dIAdd_int, dSub_int, dLt_int, dLe_int, dGt_int, dGe_int, dEq_int, dNe_int, dEq_bl, dNe_bl, dMul_cm, dMod_pos, dDiv_pos, dAbs_int, dMax2_int, dMin2_int, dInt_int, dInt_bl, dIx_tup, dIx_lst, dIx_seq, dLen_tup, dLen_lst, dLen_seq, atI_0, atI_1, atI_2, atI_3, List.map_cons, List.map_nil, List.length_cons, List.length_nil, List.replicate_succ, List.replicate_zero, List.cons_append, List.nil_append, List.getElem?_cons_zero, List.getElem?_cons_succ, List.set_cons_zero, List.set_cons_succ, Nat.reduceAdd, Nat.reduceSub, Nat.zero_add, Nat.add_zero, Nat.sub_self, Nat.reduceMul, mostL_def, Nat.reduceLeDiff, Nat.reduceLT, ite_true, ite_false, if_true, if_false, ↓reduceIte, reduceIte, ↓br_ite, Bool.false_eq_true, reduceCtorEq, Bool.not_true, Bool.not_false, decide_true, decide_false, Int.cast_ofNat_Int, Int.reduceBEq, Int.reduceAdd, Int.reduceSub, Int.reduceMul, Int.reduceNeg, Int.reduceLT, Int.reduceLE, Int.reduceMod, Int.reduceDiv, sMeth1_ap, sSl_ap, sRev_ap, oNo_ap, oPart_ap, sDict0_ap, sSetL_ap, sLc2_ap, sStar_ap, wipe_cons, wipe_nil, e]
  have hm1 : (1 : Int) ∈ ns.filter fun x => (Int.gcd x c : Int) == 1 := List.mem_filter.mpr ⟨rangeZ_mem.mpr (by omega), by rw [Int.one_gcd]; rfl⟩
  obtain ⟨d, h2, e2, m2, d2⟩ := pick_int (ns := ns.filter fun x => (Int.gcd x c : Int) == 1) d1.dc (List.ne_nil_of_mem hm1) (Nat.lt_of_le_of_lt (List.length_filter_le _ _) (by omega))
  obtain ⟨m3, m4⟩ := List.mem_filter.mp m2
  have hb := hmem d m3
  have hg : Int.gcd d c = 1 := by have := eq_of_beq m4; omega
  have sd : Sm 13 d := Sm.of_lt 13 (n := 5000) (by omega) (by omega) (by decide)
  obtain ⟨x, y, e3, hxy, sx, sy⟩ := bezout_ok (h := h2) (k := 20) (by decide) hg (sd.mono (by decide)) sc
  obtain ⟨m, h3, e4, w0, w1, d3⟩ := roll_ok (T := 7) d2.dc (by decide) (by decide)
  have sm : Sm 3 (m - 3) := Sm.of_lt 3 (n := 5) (by omega) (by omega) (by decide)
  refine ⟨x + (m - 3) * c, (m - 3) * d - y, c, d, h3, ?_, ⟨?_, ?_, sc.mono (by decide), sd.mono (by decide), ?_⟩, hLc, (d1.trans d2).trans d3⟩
  · unfold f__law_matrix_drawn
    simp (maxSteps := 4000000) (dsimp := false) (disch := first | assumption | decide | omega | walk_at "cm") only [runDef_ap, sVar_ap, sC_ap, sBin_ap, sNeg_ap, sAnd_ap, sOr_ap, sNot_ap, sIf_ap, sTst_ap, qAnd_ap, qOr_ap, qNot_ap, qYes_ap, sChain_ap, sChain3_ap, sNil_ap, sCons_ap, sTup_ap, sLst_ap, sLstM_ap, sCall_ap, g1_ap, g2_ap, sFn_ap, sAsg_ap, gNm_ap, gTp_ap, gConsS_ap, gNilS_ap, sPar_ap, sPar3_ap, sRet_ap, sRetN_ap, sNx_ap, sBrk_ap, sCnt_ap, sSeq_ap, sIte_ap, sDrop_ap, sFrz_ap, sAug_ap, iRange1_ap, iRange2_ap, iSeq_ap, sFor_ap, sLc_ap, R.toG_ok, ↓R.bind_bnd, bnd_ok, ↓R.bd_bdn, bdn_ok, ↓R.toF_tof, tof_ok, ↓F.seq_sqn, sqn_nx, sqn_ret, sqn_cnt, sqn_brk, ↓F.turn_trn, trn_nx, trn_ret, trn_cnt, trn_brk, F.end_nx, F.end_ret, ↓br_true, br_true, ↓br_false, br_false, Dbr, Dneg, Dtst, opt_some, dAdd_int, dIAdd_int, dSub_int, dLt_int, dLe_int, dGt_int, dGe_int, dEq_int, dNe_int, dEq_bl, dNe_bl, dMul_cm, dMod_pos, dDiv_pos, dAbs_int, dMax2_int, dMin2_int, dInt_int, dInt_bl, dIx_tup, dIx_lst, dIx_seq, dLen_tup, dLen_lst, dLen_seq, atI_0, atI_1, atI_2, atI_3, List.map_cons, List.map_nil, List.length_cons, List.length_nil, List.replicate_succ, List.replicate_zero, List.cons_append, List.nil_append, List.getElem?_cons_zero, List.getElem?_cons_succ, List.set_cons_zero, List.set_cons_succ, Nat.reduceAdd, Nat.reduceSub, Nat.zero_add, Nat.add_zero, Nat.sub_self, Nat.reduceMul, mostL_def, Nat.reduceLeDiff, Nat.reduceLT, ite_true, ite_false, if_true, if_false, ↓reduceIte, reduceIte, ↓br_ite, Bool.false_eq_true, reduceCtorEq, Bool.not_true, Bool.not_false, decide_true, decide_false, Int.cast_ofNat_Int, Int.reduceBEq, Int.reduceAdd, Int.reduceSub, Int.reduceMul, Int.reduceNeg, Int.reduceLT, Int.reduceLE, Int.reduceMod, Int.reduceDiv, sMeth1_ap, sSl_ap, sRev_ap, oNo_ap, oPart_ap, sDict0_ap, sSetL_ap, sLc2_ap, sStar_ap, e1, hcc, hc, e2, e3, e4, gTp_ap, gConsS_ap, gNilS_ap]
  · exact ((sx.mono (by decide : 20 + 2 ≤ 23)).add1 ((sm.mul sc).mono (by decide))).mono (by decide)
  · exact (((sm.mul sd).mono (by decide : _ ≤ 23)).sub1 (sy.mono (by decide))).mono (by decide)
  · grind
section
variable {a b c d p q r s : Int} {h : Ph}
theorem det_ok (sa : Sm 600 a) (sb : Sm 600 b) (sc : Sm 600 c) (sd : Sm 600 d) : f_determinant_in [T4 a b c d] h = .ok (.int (a * d - b * c)) h := by
  unfold f_determinant_in; simp (maxSteps := 4000000) (dsimp := false) (disch := first | assumption | decide | omega | walk_at "cm") only [runDef_ap, sVar_ap, sC_ap, sBin_ap, sNeg_ap, sAnd_ap, sOr_ap, sNot_ap, sIf_ap, sTst_ap, qAnd_ap, qOr_ap, qNot_ap, qYes_ap, sChain_ap, sChain3_ap, sNil_ap, sCons_ap, sTup_ap, sLst_ap, sLstM_ap, sCall_ap, g1_ap, g2_ap, sFn_ap, sAsg_ap, gNm_ap, gTp_ap, gConsS_ap, gNilS_ap, sPar_ap, sPar3_ap, sRet_ap, sRetN_ap, sNx_ap, sBrk_ap, sCnt_ap, sSeq_ap, sIte_ap, sDrop_ap, sFrz_ap, sAug_ap, iRange1_ap, iRange2_ap, iSeq_ap, sFor_ap, sLc_ap, R.toG_ok, ↓R.bind_bnd, bnd_ok, ↓R.bd_bdn, bdn_ok, ↓R.toF_tof, tof_ok, ↓F.seq_sqn, sqn_nx, sqn_ret, sqn_cnt, sqn_brk, ↓F.turn_trn, trn_nx, trn_ret, trn_cnt, trn_brk, F.end_nx, F.end_ret, ↓br_true, br_true, ↓br_false, br_false, Dbr, Dneg, Dtst, opt_some, dAdd_int, dIAdd_int, dSub_int, dLt_int, dLe_int, dGt_int, dGe_int, dEq_int, dNe_int, dEq_bl, dNe_bl, dMul_cm, dMod_pos, dDiv_pos, dAbs_int, dMax2_int, dMin2_int, dInt_int, dInt_bl, dIx_tup, dIx_lst, dIx_seq, dLen_tup, dLen_lst, dLen_seq, atI_0, atI_1, atI_2, atI_3, List.map_cons, List.map_nil, List.length_cons, List.length_nil, List.replicate_succ, List.replicate_zero, List.cons_append, List.nil_append, List.getElem?_cons_zero, List.getElem?_cons_succ, List.set_cons_zero, List.set_cons_succ, Nat.reduceAdd, Nat.reduceSub, Nat.zero_add, Nat.add_zero, Nat.sub_self, Nat.reduceMul, mostL_def, Nat.reduceLeDiff, Nat.reduceLT, ite_true, ite_false, if_true, if_false, ↓reduceIte, reduceIte, ↓br_ite, Bool.false_eq_true, reduceCtorEq, Bool.not_true, Bool.not_false, decide_true, decide_false, Int.cast_ofNat_Int, Int.reduceBEq, Int.reduceAdd, Int.reduceSub, Int.reduceMul, Int.reduceNeg, Int.reduceLT, Int.reduceLE, Int.reduceMod, Int.reduceDiv, sMeth1_ap, sSl_ap, sRev_ap, oNo_ap, oPart_ap, sDict0_ap, sSetL_ap, sLc2_ap, sStar_ap, gTp_ap, gConsS_ap, gNilS_ap]
theorem times_ok (sa : Sm 600 a) (sb : Sm 600 b) (sc : Sm 600 c) (sd : Sm 600 d) (sp : Sm 600 p) (sq : Sm 600 q) (sr : Sm 600 r) (ss : Sm 600 s) :
    f__law_matrix_times [T4 a b c d, T4 p q r s] h = .ok (T4 (a * p + b * r) (a * q + b * s) (c * p + d * r) (c * q + d * s)) h := by
  unfold f__law_matrix_times; simp (maxSteps := 4000000) (dsimp := false) (disch := first | assumption | decide | omega | walk_at "cm") only [runDef_ap, sVar_ap, sC_ap, sBin_ap, sNeg_ap, sAnd_ap, sOr_ap, sNot_ap, sIf_ap, sTst_ap, qAnd_ap, qOr_ap, qNot_ap, qYes_ap, sChain_ap, sChain3_ap, sNil_ap, sCons_ap, sTup_ap, sLst_ap, sLstM_ap, sCall_ap, g1_ap, g2_ap, sFn_ap, sAsg_ap, gNm_ap, gTp_ap, gConsS_ap, gNilS_ap, sPar_ap, sPar3_ap, sRet_ap, sRetN_ap, sNx_ap, sBrk_ap, sCnt_ap, sSeq_ap, sIte_ap, sDrop_ap, sFrz_ap, sAug_ap, iRange1_ap, iRange2_ap, iSeq_ap, sFor_ap, sLc_ap, R.toG_ok, ↓R.bind_bnd, bnd_ok, ↓R.bd_bdn, bdn_ok, ↓R.toF_tof, tof_ok, ↓F.seq_sqn, sqn_nx, sqn_ret, sqn_cnt, sqn_brk, ↓F.turn_trn, trn_nx, trn_ret, trn_cnt, trn_brk, F.end_nx, F.end_ret, ↓br_true, br_true, ↓br_false, br_false, Dbr, Dneg, Dtst, opt_some, dAdd_int, dIAdd_int, dSub_int, dLt_int, dLe_int, dGt_int, dGe_int, dEq_int, dNe_int, dEq_bl, dNe_bl, dMul_cm, dMod_pos, dDiv_pos, dAbs_int, dMax2_int, dMin2_int, dInt_int, dInt_bl, dIx_tup, dIx_lst, dIx_seq, dLen_tup, dLen_lst, dLen_seq, atI_0, atI_1, atI_2, atI_3, List.map_cons, List.map_nil, List.length_cons, List.length_nil, List.replicate_succ, List.replicate_zero, List.cons_append, List.nil_append, List.getElem?_cons_zero, List.getElem?_cons_succ, List.set_cons_zero, List.set_cons_succ, Nat.reduceAdd, Nat.reduceSub, Nat.zero_add, Nat.add_zero, Nat.sub_self, Nat.reduceMul, mostL_def, Nat.reduceLeDiff, Nat.reduceLT, ite_true, ite_false, if_true, if_false, ↓reduceIte, reduceIte, ↓br_ite, Bool.false_eq_true, reduceCtorEq, Bool.not_true, Bool.not_false, decide_true, decide_false, Int.cast_ofNat_Int, Int.reduceBEq, Int.reduceAdd, Int.reduceSub, Int.reduceMul, Int.reduceNeg, Int.reduceLT, Int.reduceLE, Int.reduceMod, Int.reduceDiv, sMeth1_ap, sSl_ap, sRev_ap, oNo_ap, oPart_ap, sDict0_ap, sSetL_ap, sLc2_ap, sStar_ap, gTp_ap, gConsS_ap, gNilS_ap]
theorem product_in_ok (sa : Sm 600 a) (sb : Sm 600 b) (sc : Sm 600 c) (sd : Sm 600 d) (sp : Sm 600 p) (sq : Sm 600 q) (sr : Sm 600 r) (ss : Sm 600 s) :
    f_product_in [T4 a b c d, T4 p q r s] h = .ok (T4 (a * p + b * r) (a * q + b * s) (c * p + d * r) (c * q + d * s)) h := by
  unfold f_product_in; simp (maxSteps := 4000000) (dsimp := false) (disch := first | assumption | decide | omega | walk_at "cm") only [runDef_ap, sVar_ap, sC_ap, sBin_ap, sNeg_ap, sAnd_ap, sOr_ap, sNot_ap, sIf_ap, sTst_ap, qAnd_ap, qOr_ap, qNot_ap, qYes_ap, sChain_ap, sChain3_ap, sNil_ap, sCons_ap, sTup_ap, sLst_ap, sLstM_ap, sCall_ap, g1_ap, g2_ap, sFn_ap, sAsg_ap, gNm_ap, gTp_ap, gConsS_ap, gNilS_ap, sPar_ap, sPar3_ap, sRet_ap, sRetN_ap, sNx_ap, sBrk_ap, sCnt_ap, sSeq_ap, sIte_ap, sDrop_ap, sFrz_ap, sAug_ap, iRange1_ap, iRange2_ap, iSeq_ap, sFor_ap, sLc_ap, R.toG_ok, ↓R.bind_bnd, bnd_ok, ↓R.bd_bdn, bdn_ok, ↓R.toF_tof, tof_ok, ↓F.seq_sqn, sqn_nx, sqn_ret, sqn_cnt, sqn_brk, ↓F.turn_trn, trn_nx, trn_ret, trn_cnt, trn_brk, F.end_nx, F.end_ret, ↓br_true, br_true, ↓br_false, br_false, Dbr, Dneg, Dtst, opt_some, dAdd_int, dIAdd_int, dSub_int, dLt_int, dLe_int, dGt_int, dGe_int, dEq_int, dNe_int, dEq_bl, dNe_bl, dMul_cm, dMod_pos, dDiv_pos, dAbs_int, dMax2_int, dMin2_int, dInt_int, dInt_bl, dIx_tup, dIx_lst, dIx_seq, dLen_tup, dLen_lst, dLen_seq, atI_0, atI_1, atI_2, atI_3, List.map_cons, List.map_nil, List.length_cons, List.length_nil, List.replicate_succ, List.replicate_zero, List.cons_append, List.nil_append, List.getElem?_cons_zero, List.getElem?_cons_succ, List.set_cons_zero, List.set_cons_succ, Nat.reduceAdd, Nat.reduceSub, Nat.zero_add, Nat.add_zero, Nat.sub_self, Nat.reduceMul, mostL_def, Nat.reduceLeDiff, Nat.reduceLT, ite_true, ite_false, if_true, if_false, ↓reduceIte, reduceIte, ↓br_ite, Bool.false_eq_true, reduceCtorEq, Bool.not_true, Bool.not_false, decide_true, decide_false, Int.cast_ofNat_Int, Int.reduceBEq, Int.reduceAdd, Int.reduceSub, Int.reduceMul, Int.reduceNeg, Int.reduceLT, Int.reduceLE, Int.reduceMod, Int.reduceDiv, sMeth1_ap, sSl_ap, sRev_ap, oNo_ap, oPart_ap, sDict0_ap, sSetL_ap, sLc2_ap, sStar_ap, gTp_ap, gConsS_ap, gNilS_ap]
theorem back_in_ok : f_back_in [T4 a b c d] h = .ok (T4 d (-b) (-c) a) h := by
  unfold f_back_in; simp (maxSteps := 4000000) (dsimp := false) (disch := first | assumption | decide | omega | walk_at "cm") only [runDef_ap, sVar_ap, sC_ap, sBin_ap, sNeg_ap, sAnd_ap, sOr_ap, sNot_ap, sIf_ap, sTst_ap, qAnd_ap, qOr_ap, qNot_ap, qYes_ap, sChain_ap, sChain3_ap, sNil_ap, sCons_ap, sTup_ap, sLst_ap, sLstM_ap, sCall_ap, g1_ap, g2_ap, sFn_ap, sAsg_ap, gNm_ap, gTp_ap, gConsS_ap, gNilS_ap, sPar_ap, sPar3_ap, sRet_ap, sRetN_ap, sNx_ap, sBrk_ap, sCnt_ap, sSeq_ap, sIte_ap, sDrop_ap, sFrz_ap, sAug_ap, iRange1_ap, iRange2_ap, iSeq_ap, sFor_ap, sLc_ap, R.toG_ok, ↓R.bind_bnd, bnd_ok, ↓R.bd_bdn, bdn_ok, ↓R.toF_tof, tof_ok, ↓F.seq_sqn, sqn_nx, sqn_ret, sqn_cnt, sqn_brk, ↓F.turn_trn, trn_nx, trn_ret, trn_cnt, trn_brk, F.end_nx, F.end_ret, ↓br_true, br_true, ↓br_false, br_false, Dbr, Dneg, Dtst, opt_some, dAdd_int, dIAdd_int, dSub_int, dLt_int, dLe_int, dGt_int, dGe_int, dEq_int, dNe_int, dEq_bl, dNe_bl, dMul_cm, dMod_pos, dDiv_pos, dAbs_int, dMax2_int, dMin2_int, dInt_int, dInt_bl, dIx_tup, dIx_lst, dIx_seq, dLen_tup, dLen_lst, dLen_seq, atI_0, atI_1, atI_2, atI_3, List.map_cons, List.map_nil, List.length_cons, List.length_nil, List.replicate_succ, List.replicate_zero, List.cons_append, List.nil_append, List.getElem?_cons_zero, List.getElem?_cons_succ, List.set_cons_zero, List.set_cons_succ, Nat.reduceAdd, Nat.reduceSub, Nat.zero_add, Nat.add_zero, Nat.sub_self, Nat.reduceMul, mostL_def, Nat.reduceLeDiff, Nat.reduceLT, ite_true, ite_false, if_true, if_false, ↓reduceIte, reduceIte, ↓br_ite, Bool.false_eq_true, reduceCtorEq, Bool.not_true, Bool.not_false, decide_true, decide_false, Int.cast_ofNat_Int, Int.reduceBEq, Int.reduceAdd, Int.reduceSub, Int.reduceMul, Int.reduceNeg, Int.reduceLT, Int.reduceLE, Int.reduceMod, Int.reduceDiv, sMeth1_ap, sSl_ap, sRev_ap, oNo_ap, oPart_ap, sDict0_ap, sSetL_ap, sLc2_ap, sStar_ap, gTp_ap, gConsS_ap, gNilS_ap, sNeg_ap]
theorem is_matrix_ok : f_is_matrix [T4 a b c d] h = .ok (.bl true) h := by
  unfold f_is_matrix c_is_matrix_1; simp (maxSteps := 4000000) (dsimp := false) (disch := first | assumption | decide | omega | walk_at "cm") only [runDef_ap, sVar_ap, sC_ap, sBin_ap, sNeg_ap, sAnd_ap, sOr_ap, sNot_ap, sIf_ap, sTst_ap, qAnd_ap, qOr_ap, qNot_ap, qYes_ap, sChain_ap, sChain3_ap, sNil_ap, sCons_ap, sTup_ap, sLst_ap, sLstM_ap, sCall_ap, g1_ap, g2_ap, sFn_ap, sAsg_ap, gNm_ap, gTp_ap, gConsS_ap, gNilS_ap, sPar_ap, sPar3_ap, sRet_ap, sRetN_ap, sNx_ap, sBrk_ap, sCnt_ap, sSeq_ap, sIte_ap, sDrop_ap, sFrz_ap, sAug_ap, iRange1_ap, iRange2_ap, iSeq_ap, sFor_ap, sLc_ap, R.toG_ok, ↓R.bind_bnd, bnd_ok, ↓R.bd_bdn, bdn_ok, ↓R.toF_tof, tof_ok, ↓F.seq_sqn, sqn_nx, sqn_ret, sqn_cnt, sqn_brk, ↓F.turn_trn, trn_nx, trn_ret, trn_cnt, trn_brk, F.end_nx, F.end_ret, ↓br_true, br_true, ↓br_false, br_false, Dbr, Dneg, Dtst, opt_some, dAdd_int, dIAdd_int, dSub_int, dLt_int, dLe_int, dGt_int, dGe_int, dEq_int, dNe_int, dEq_bl, dNe_bl, dMul_cm, dMod_pos, dDiv_pos, dAbs_int, dMax2_int, dMin2_int, dInt_int, dInt_bl, dIx_tup, dIx_lst, dIx_seq, dLen_tup, dLen_lst, dLen_seq, atI_0, atI_1, atI_2, atI_3, List.map_cons, List.map_nil, List.length_cons, List.length_nil, List.replicate_succ, List.replicate_zero, List.cons_append, List.nil_append, List.getElem?_cons_zero, List.getElem?_cons_succ, List.set_cons_zero, List.set_cons_succ, Nat.reduceAdd, Nat.reduceSub, Nat.zero_add, Nat.add_zero, Nat.sub_self, Nat.reduceMul, mostL_def, Nat.reduceLeDiff, Nat.reduceLT, ite_true, ite_false, if_true, if_false, ↓reduceIte, reduceIte, ↓br_ite, Bool.false_eq_true, reduceCtorEq, Bool.not_true, Bool.not_false, decide_true, decide_false, Int.cast_ofNat_Int, Int.reduceBEq, Int.reduceAdd, Int.reduceSub, Int.reduceMul, Int.reduceNeg, Int.reduceLT, Int.reduceLE, Int.reduceMod, Int.reduceDiv, sMeth1_ap, sSl_ap, sRev_ap, oNo_ap, oPart_ap, sDict0_ap, sSetL_ap, sLc2_ap, sStar_ap, isi_tup, kit_tuple_tuple, compGo_cons, compGo_nil, wipe_cons, wipe_nil, iSeq_at, dAll_lst, bls_cons, bls_nil, Option.map_some, List.all_cons, List.all_nil, id, whole_int, Bool.and_true]
theorem is_short_ok (sa : Sm 199 a) (sb : Sm 199 b) (sc : Sm 199 c) (sd : Sm 199 d) : f_is_short_matrix [T4 a b c d] h = .ok (.bl true) h := by
  unfold f_is_short_matrix c_is_short_matrix_1; simp (maxSteps := 4000000) (dsimp := false) (disch := first | assumption | decide | omega | walk_at "cm") only [runDef_ap, sVar_ap, sC_ap, sBin_ap, sNeg_ap, sAnd_ap, sOr_ap, sNot_ap, sIf_ap, sTst_ap, qAnd_ap, qOr_ap, qNot_ap, qYes_ap, sChain_ap, sChain3_ap, sNil_ap, sCons_ap, sTup_ap, sLst_ap, sLstM_ap, sCall_ap, g1_ap, g2_ap, sFn_ap, sAsg_ap, gNm_ap, gTp_ap, gConsS_ap, gNilS_ap, sPar_ap, sPar3_ap, sRet_ap, sRetN_ap, sNx_ap, sBrk_ap, sCnt_ap, sSeq_ap, sIte_ap, sDrop_ap, sFrz_ap, sAug_ap, iRange1_ap, iRange2_ap, iSeq_ap, sFor_ap, sLc_ap, R.toG_ok, ↓R.bind_bnd, bnd_ok, ↓R.bd_bdn, bdn_ok, ↓R.toF_tof, tof_ok, ↓F.seq_sqn, sqn_nx, sqn_ret, sqn_cnt, sqn_brk, ↓F.turn_trn, trn_nx, trn_ret, trn_cnt, trn_brk, F.end_nx, F.end_ret, ↓br_true, br_true, ↓br_false, br_false, Dbr, Dneg, Dtst, opt_some, dAdd_int, dIAdd_int, dSub_int, dLt_int, dLe_int, dGt_int, dGe_int, dEq_int, dNe_int, dEq_bl, dNe_bl, dMul_cm, dMod_pos, dDiv_pos, dAbs_int, dMax2_int, dMin2_int, dInt_int, dInt_bl, dIx_tup, dIx_lst, dIx_seq, dLen_tup, dLen_lst, dLen_seq, atI_0, atI_1, atI_2, atI_3, List.map_cons, List.map_nil, List.length_cons, List.length_nil, List.replicate_succ, List.replicate_zero, List.cons_append, List.nil_append, List.getElem?_cons_zero, List.getElem?_cons_succ, List.set_cons_zero, List.set_cons_succ, Nat.reduceAdd, Nat.reduceSub, Nat.zero_add, Nat.add_zero, Nat.sub_self, Nat.reduceMul, mostL_def, Nat.reduceLeDiff, Nat.reduceLT, ite_true, ite_false, if_true, if_false, ↓reduceIte, reduceIte, ↓br_ite, Bool.false_eq_true, reduceCtorEq, Bool.not_true, Bool.not_false, decide_true, decide_false, Int.cast_ofNat_Int, Int.reduceBEq, Int.reduceAdd, Int.reduceSub, Int.reduceMul, Int.reduceNeg, Int.reduceLT, Int.reduceLE, Int.reduceMod, Int.reduceDiv, sMeth1_ap, sSl_ap, sRev_ap, oNo_ap, oPart_ap, sDict0_ap, sSetL_ap, sLc2_ap, sStar_ap, is_matrix_ok, compGo_cons, compGo_nil, wipe_cons, wipe_nil, iSeq_at, dAll_lst, bls_cons, bls_nil, Option.map_some, List.all_cons, List.all_nil, id, integer_int, Bool.and_true, Iz.ok sa, Iz.ok sb, Iz.ok sc, Iz.ok sd]
/-- x of a matrix led -/
abbrev mA (a b x y : Int) : Int := a * x + b * y
theorem led_ne {x y : Int} (hdet : a * d - b * c ≠ 0) (hn : x ≠ 0 ∨ y ≠ 0) : mA a b x y ≠ 0 ∨ mA c d x y ≠ 0 := by
  by_cases h1 : mA a b x y = 0
  · by_cases h2 : mA c d x y = 0
    · exfalso
      have e1 : (a * d - b * c) * x = 0 := by unfold mA at h1 h2; grind
      have e2 : (a * d - b * c) * y = 0 := by unfold mA at h1 h2; grind
      rcases Int.mul_eq_zero.mp e1 with h | h
      · exact hdet h
      · rcases Int.mul_eq_zero.mp e2 with k | k
        · exact hdet k
        · omega
    · exact .inr h2
  · exact .inl h1
theorem law_led_ok {x y : Int} (sa : Sm 200 a) (sb : Sm 200 b) (sc : Sm 200 c) (sd : Sm 200 d) (sx : Sm 200 x) (sy : Sm 200 y) (hn : mA a b x y ≠ 0 ∨ mA c d x y ≠ 0) :
    f__law_matrix_led [T4 a b c d, T2 x y] h = .ok (T2 (lwT (mA a b x y) (mA c d x y)) (lwB (mA a b x y) (mA c d x y))) h := by
  have e := law_lowest_ok (h := h) (((sa.mul sx).add1 (sb.mul sy)).mono (by decide)) (((sc.mul sx).add1 (sd.mul sy)).mono (by decide)) hn
  unfold f__law_matrix_led; simp (maxSteps := 4000000) (dsimp := false) (disch := first | assumption | decide | omega | walk_at "cm") only [runDef_ap, sVar_ap, sC_ap, sBin_ap, sNeg_ap, sAnd_ap, sOr_ap, sNot_ap, sIf_ap, sTst_ap, qAnd_ap, qOr_ap, qNot_ap, qYes_ap, sChain_ap, sChain3_ap, sNil_ap, sCons_ap, sTup_ap, sLst_ap, sLstM_ap, sCall_ap, g1_ap, g2_ap, sFn_ap, sAsg_ap, gNm_ap, gTp_ap, gConsS_ap, gNilS_ap, sPar_ap, sPar3_ap, sRet_ap, sRetN_ap, sNx_ap, sBrk_ap, sCnt_ap, sSeq_ap, sIte_ap, sDrop_ap, sFrz_ap, sAug_ap, iRange1_ap, iRange2_ap, iSeq_ap, sFor_ap, sLc_ap, R.toG_ok, ↓R.bind_bnd, bnd_ok, ↓R.bd_bdn, bdn_ok, ↓R.toF_tof, tof_ok, ↓F.seq_sqn, sqn_nx, sqn_ret, sqn_cnt, sqn_brk, ↓F.turn_trn, trn_nx, trn_ret, trn_cnt, trn_brk, F.end_nx, F.end_ret, ↓br_true, br_true, ↓br_false, br_false, Dbr, Dneg, Dtst, opt_some, dAdd_int, dIAdd_int, dSub_int, dLt_int, dLe_int, dGt_int, dGe_int, dEq_int, dNe_int, dEq_bl, dNe_bl, dMul_cm, dMod_pos, dDiv_pos, dAbs_int, dMax2_int, dMin2_int, dInt_int, dInt_bl, dIx_tup, dIx_lst, dIx_seq, dLen_tup, dLen_lst, dLen_seq, atI_0, atI_1, atI_2, atI_3, List.map_cons, List.map_nil, List.length_cons, List.length_nil, List.replicate_succ, List.replicate_zero, List.cons_append, List.nil_append, List.getElem?_cons_zero, List.getElem?_cons_succ, List.set_cons_zero, List.set_cons_succ, Nat.reduceAdd, Nat.reduceSub, Nat.zero_add, Nat.add_zero, Nat.sub_self, Nat.reduceMul, mostL_def, Nat.reduceLeDiff, Nat.reduceLT, ite_true, ite_false, if_true, if_false, ↓reduceIte, reduceIte, ↓br_ite, Bool.false_eq_true, reduceCtorEq, Bool.not_true, Bool.not_false, decide_true, decide_false, Int.cast_ofNat_Int, Int.reduceBEq, Int.reduceAdd, Int.reduceSub, Int.reduceMul, Int.reduceNeg, Int.reduceLT, Int.reduceLE, Int.reduceMod, Int.reduceDiv, sMeth1_ap, sSl_ap, sRev_ap, oNo_ap, oPart_ap, sDict0_ap, sSetL_ap, sLc2_ap, sStar_ap, gTp_ap, gConsS_ap, gNilS_ap, e]
theorem fraction_led_ok {x y : Int} (sa : Sm 200 a) (sb : Sm 200 b) (sc : Sm 200 c) (sd : Sm 200 d) (sx : Sm 200 x) (sy : Sm 200 y) (hn : mA a b x y ≠ 0 ∨ mA c d x y ≠ 0) :
    f_fraction_led [T4 a b c d, T2 x y] h = .ok (T2 (lwT (mA a b x y) (mA c d x y)) (lwB (mA a b x y) (mA c d x y))) h := by
  have e := lowest_ok (h := h) (((sa.mul sx).add1 (sb.mul sy)).mono (by decide)) (((sc.mul sx).add1 (sd.mul sy)).mono (by decide)) hn
  unfold f_fraction_led; simp (maxSteps := 4000000) (dsimp := false) (disch := first | assumption | decide | omega | walk_at "cm") only [runDef_ap, sVar_ap, sC_ap, sBin_ap, sNeg_ap, sAnd_ap, sOr_ap, sNot_ap, sIf_ap, sTst_ap, qAnd_ap, qOr_ap, qNot_ap, qYes_ap, sChain_ap, sChain3_ap, sNil_ap, sCons_ap, sTup_ap, sLst_ap, sLstM_ap, sCall_ap, g1_ap, g2_ap, sFn_ap, sAsg_ap, gNm_ap, gTp_ap, gConsS_ap, gNilS_ap, sPar_ap, sPar3_ap, sRet_ap, sRetN_ap, sNx_ap, sBrk_ap, sCnt_ap, sSeq_ap, sIte_ap, sDrop_ap, sFrz_ap, sAug_ap, iRange1_ap, iRange2_ap, iSeq_ap, sFor_ap, sLc_ap, R.toG_ok, ↓R.bind_bnd, bnd_ok, ↓R.bd_bdn, bdn_ok, ↓R.toF_tof, tof_ok, ↓F.seq_sqn, sqn_nx, sqn_ret, sqn_cnt, sqn_brk, ↓F.turn_trn, trn_nx, trn_ret, trn_cnt, trn_brk, F.end_nx, F.end_ret, ↓br_true, br_true, ↓br_false, br_false, Dbr, Dneg, Dtst, opt_some, dAdd_int, dIAdd_int, dSub_int, dLt_int, dLe_int, dGt_int, dGe_int, dEq_int, dNe_int, dEq_bl, dNe_bl, dMul_cm, dMod_pos, dDiv_pos, dAbs_int, dMax2_int, dMin2_int, dInt_int, dInt_bl, dIx_tup, dIx_lst, dIx_seq, dLen_tup, dLen_lst, dLen_seq, atI_0, atI_1, atI_2, atI_3, List.map_cons, List.map_nil, List.length_cons, List.length_nil, List.replicate_succ, List.replicate_zero, List.cons_append, List.nil_append, List.getElem?_cons_zero, List.getElem?_cons_succ, List.set_cons_zero, List.set_cons_succ, Nat.reduceAdd, Nat.reduceSub, Nat.zero_add, Nat.add_zero, Nat.sub_self, Nat.reduceMul, mostL_def, Nat.reduceLeDiff, Nat.reduceLT, ite_true, ite_false, if_true, if_false, ↓reduceIte, reduceIte, ↓br_ite, Bool.false_eq_true, reduceCtorEq, Bool.not_true, Bool.not_false, decide_true, decide_false, Int.cast_ofNat_Int, Int.reduceBEq, Int.reduceAdd, Int.reduceSub, Int.reduceMul, Int.reduceNeg, Int.reduceLT, Int.reduceLE, Int.reduceMod, Int.reduceDiv, sMeth1_ap, sSl_ap, sRev_ap, oNo_ap, oPart_ap, sDict0_ap, sSetL_ap, sLc2_ap, sStar_ap, gTp_ap, gConsS_ap, gNilS_ap, e]
theorem Fr.ne {t b : Int} (f : Fr t b) : t ≠ 0 ∨ b ≠ 0 := by
  by_cases hb : b = 0
  · left; rw [f.inf hb]; decide
  · exact .inr hb
theorem led_fraction_ok {x y : Int} (sa : Sm 199 a) (sb : Sm 199 b) (sc : Sm 199 c) (sd : Sm 199 d) (hdet : a * d - b * c ≠ 0) (f : Fs x y) :
    f_led_fraction [T4 a b c d, T2 x y] h = .ok (T2 (lwT (mA a b x y) (mA c d x y)) (lwB (mA a b x y) (mA c d x y))) h := by
  have l2 : ∀ {t : Int}, Sm 199 t → Sm 200 t := fun s => s.mono (by decide)
  have l6 : ∀ {t : Int}, Sm 199 t → Sm 600 t := fun s => s.mono (by decide)
  have e1 := is_short_ok (h := h) sa sb sc sd
  have e2 := det_ok (h := h) (l6 sa) (l6 sb) (l6 sc) (l6 sd)
  have hd' : (a * d - b * c == 0) = false := beq_false_of_ne hdet
  have e3 := require_fraction_ok (h := h) f
  have e4 := fraction_led_ok (h := h) (l2 sa) (l2 sb) (l2 sc) (l2 sd) (f.sm.1.mono (by decide)) (f.sm.2.mono (by decide)) (led_ne hdet f.fr.ne)
  unfold f_led_fraction; simp (maxSteps := 4000000) (dsimp := false) (disch := first | assumption | decide | omega | walk_at "cm") only [runDef_ap, sVar_ap, sC_ap, sBin_ap, sNeg_ap, sAnd_ap, sOr_ap, sNot_ap, sIf_ap, sTst_ap, qAnd_ap, qOr_ap, qNot_ap, qYes_ap, sChain_ap, sChain3_ap, sNil_ap, sCons_ap, sTup_ap, sLst_ap, sLstM_ap, sCall_ap, g1_ap, g2_ap, sFn_ap, sAsg_ap, gNm_ap, gTp_ap, gConsS_ap, gNilS_ap, sPar_ap, sPar3_ap, sRet_ap, sRetN_ap, sNx_ap, sBrk_ap, sCnt_ap, sSeq_ap, sIte_ap, sDrop_ap, sFrz_ap, sAug_ap, iRange1_ap, iRange2_ap, iSeq_ap, sFor_ap, sLc_ap, R.toG_ok, ↓R.bind_bnd, bnd_ok, ↓R.bd_bdn, bdn_ok, ↓R.toF_tof, tof_ok, ↓F.seq_sqn, sqn_nx, sqn_ret, sqn_cnt, sqn_brk, ↓F.turn_trn, trn_nx, trn_ret, trn_cnt, trn_brk, F.end_nx, F.end_ret, ↓br_true, br_true, ↓br_false, br_false, Dbr, Dneg, Dtst, opt_some, dAdd_int, dIAdd_int, dSub_int, dLt_int, dLe_int, dGt_int, dGe_int, dEq_int, dNe_int, dEq_bl, dNe_bl, dMul_cm, dMod_pos, dDiv_pos, dAbs_int, dMax2_int, dMin2_int, dInt_int, dInt_bl, dIx_tup, dIx_lst, dIx_seq, dLen_tup, dLen_lst, dLen_seq, atI_0, atI_1, atI_2, atI_3, List.map_cons, List.map_nil, List.length_cons, List.length_nil, List.replicate_succ, List.replicate_zero, List.cons_append, List.nil_append, List.getElem?_cons_zero, List.getElem?_cons_succ, List.set_cons_zero, List.set_cons_succ, Nat.reduceAdd, Nat.reduceSub, Nat.zero_add, Nat.add_zero, Nat.sub_self, Nat.reduceMul, mostL_def, Nat.reduceLeDiff, Nat.reduceLT, ite_true, ite_false, if_true, if_false, ↓reduceIte, reduceIte, ↓br_ite, Bool.false_eq_true, reduceCtorEq, Bool.not_true, Bool.not_false, decide_true, decide_false, Int.cast_ofNat_Int, Int.reduceBEq, Int.reduceAdd, Int.reduceSub, Int.reduceMul, Int.reduceNeg, Int.reduceLT, Int.reduceLE, Int.reduceMod, Int.reduceDiv, sMeth1_ap, sSl_ap, sRev_ap, oNo_ap, oPart_ap, sDict0_ap, sSetL_ap, sLc2_ap, sStar_ap, e1, e2, hd', e3, e4]
end
end Pd

/-! Pi: groups, keepers -/
namespace Pd
open PySem L2 Evl
local macro_rules | `(tactic| walk_at "sm") => `(tactic| first | assumption | exact Sm.lit | exact Sm.mul (by walk_at "sm") (by walk_at "sm") | exact Sm.add (by walk_at "sm") (by walk_at "sm") | exact Sm.sub (by walk_at "sm") (by walk_at "sm") | exact Sm.neg (by walk_at "sm"))
local macro_rules | `(tactic| walk_at "cm") => `(tactic| ((with_reducible show CM _ _); first | assumption | exact CM.left (by decide) | exact CM.right (by decide) | exact CM.left (by omega) | exact CM.right (by omega) | exact CM.of (by walk_at "sm") (by walk_at "sm") (by decide)))
section
variable {a b c d L : Int} {h : Ph}
theorem dNe_one {x : D} {p : PyData} {h : Ph} (hx : x.py = some p) (hs : SeqAt.shaped (.list [p]) = true) : dNe (.lst [x]) (.lst []) h = .ok (.bl true) h := by
  unfold dNe pyOf
  simp only [D.py, D.py.pys, hx, Option.map_some]
  show (if SeqAt.shaped (.list [p]) = true ∧ SeqAt.shaped (.list []) = true then _ else _) = _
  rw [if_pos ⟨hs, rfl⟩]
  rfl
theorem member_ok (hL : 1 ≤ L) (hL2 : L ≤ 100) (sa : Sm 600 a) (sb : Sm 600 b) (sc : Sm 600 c) (sd : Sm 600 d) : f_is_member [.int L, T4 a b c d] h = .ok (.bl ((a * d - b * c == 1) && (c % L == 0))) h := by
  have e1 := require_level_ok (h := h) hL hL2
  have e2 := is_matrix_ok (a := a) (b := b) (c := c) (d := d) (h := h)
  have e3 := det_ok (h := h) sa sb sc sd
  have hp : 0 < L := by omega
  unfold f_is_member; simp (maxSteps := 4000000) (dsimp := false) (disch := first | assumption | decide | omega | walk_at "cm") only [runDef_ap, sVar_ap, sC_ap, sBin_ap, sNeg_ap, sAnd_ap, sOr_ap, sNot_ap, sIf_ap, sTst_ap, qAnd_ap, qOr_ap, qNot_ap, qYes_ap, sChain_ap, sChain3_ap, sNil_ap, sCons_ap, sTup_ap, sLst_ap, sLstM_ap, sCall_ap, g1_ap, g2_ap, sFn_ap, sAsg_ap, gNm_ap, gTp_ap, gConsS_ap, gNilS_ap, sPar_ap, sPar3_ap, sRet_ap, sRetN_ap, sNx_ap, sBrk_ap, sCnt_ap, sSeq_ap, sIte_ap, sDrop_ap, sFrz_ap, sAug_ap, iRange1_ap, iRange2_ap, iSeq_ap, sFor_ap, sLc_ap, R.toG_ok, ↓R.bind_bnd, bnd_ok, ↓R.bd_bdn, bdn_ok, ↓R.toF_tof, tof_ok, ↓F.seq_sqn, sqn_nx, sqn_ret, sqn_cnt, sqn_brk, ↓F.turn_trn, trn_nx, trn_ret, trn_cnt, trn_brk, F.end_nx, F.end_ret, ↓br_true, br_true, ↓br_false, br_false, Dbr, Dneg, Dtst, opt_some, dAdd_int, dIAdd_int, dSub_int, dLt_int, dLe_int, dGt_int, dGe_int, dEq_int, dNe_int, dEq_bl, dNe_bl, dMul_cm, dMod_pos, dDiv_pos, dAbs_int, dMax2_int, dMin2_int, dInt_int, dInt_bl, dIx_tup, dIx_lst, dIx_seq, dLen_tup, dLen_lst, dLen_seq, atI_0, atI_1, atI_2, atI_3, List.map_cons, List.map_nil, List.length_cons, List.length_nil, List.replicate_succ, List.replicate_zero, List.cons_append, List.nil_append, List.getElem?_cons_zero, List.getElem?_cons_succ, List.set_cons_zero, List.set_cons_succ, Nat.reduceAdd, Nat.reduceSub, Nat.zero_add, Nat.add_zero, Nat.sub_self, Nat.reduceMul, mostL_def, Nat.reduceLeDiff, Nat.reduceLT, ite_true, ite_false, if_true, if_false, ↓reduceIte, reduceIte, ↓br_ite, Bool.false_eq_true, reduceCtorEq, Bool.not_true, Bool.not_false, decide_true, decide_false, Int.cast_ofNat_Int, Int.reduceBEq, Int.reduceAdd, Int.reduceSub, Int.reduceMul, Int.reduceNeg, Int.reduceLT, Int.reduceLE, Int.reduceMod, Int.reduceDiv, sMeth1_ap, sSl_ap, sRev_ap, oNo_ap, oPart_ap, sDict0_ap, sSetL_ap, sLc2_ap, sStar_ap, e1, e2, e3, it_bl, br_bl, it_and, br_and]
theorem member_not {v : D} (hL : 1 ≤ L) (hL2 : L ≤ 100) (e : f_is_matrix [v] h = .ok (.bl false) h) : f_is_member [.int L, v] h = .ok (.bl false) h := by
  have e1 := require_level_ok (h := h) hL hL2
  unfold f_is_member; simp (maxSteps := 4000000) (dsimp := false) (disch := first | assumption | decide | omega | walk_at "cm") only [runDef_ap, sVar_ap, sC_ap, sBin_ap, sNeg_ap, sAnd_ap, sOr_ap, sNot_ap, sIf_ap, sTst_ap, qAnd_ap, qOr_ap, qNot_ap, qYes_ap, sChain_ap, sChain3_ap, sNil_ap, sCons_ap, sTup_ap, sLst_ap, sLstM_ap, sCall_ap, g1_ap, g2_ap, sFn_ap, sAsg_ap, gNm_ap, gTp_ap, gConsS_ap, gNilS_ap, sPar_ap, sPar3_ap, sRet_ap, sRetN_ap, sNx_ap, sBrk_ap, sCnt_ap, sSeq_ap, sIte_ap, sDrop_ap, sFrz_ap, sAug_ap, iRange1_ap, iRange2_ap, iSeq_ap, sFor_ap, sLc_ap, R.toG_ok, ↓R.bind_bnd, bnd_ok, ↓R.bd_bdn, bdn_ok, ↓R.toF_tof, tof_ok, ↓F.seq_sqn, sqn_nx, sqn_ret, sqn_cnt, sqn_brk, ↓F.turn_trn, trn_nx, trn_ret, trn_cnt, trn_brk, F.end_nx, F.end_ret, ↓br_true, br_true, ↓br_false, br_false, Dbr, Dneg, Dtst, opt_some, dAdd_int, dIAdd_int, dSub_int, dLt_int, dLe_int, dGt_int, dGe_int, dEq_int, dNe_int, dEq_bl, dNe_bl, dMul_cm, dMod_pos, dDiv_pos, dAbs_int, dMax2_int, dMin2_int, dInt_int, dInt_bl, dIx_tup, dIx_lst, dIx_seq, dLen_tup, dLen_lst, dLen_seq, atI_0, atI_1, atI_2, atI_3, List.map_cons, List.map_nil, List.length_cons, List.length_nil, List.replicate_succ, List.replicate_zero, List.cons_append, List.nil_append, List.getElem?_cons_zero, List.getElem?_cons_succ, List.set_cons_zero, List.set_cons_succ, Nat.reduceAdd, Nat.reduceSub, Nat.zero_add, Nat.add_zero, Nat.sub_self, Nat.reduceMul, mostL_def, Nat.reduceLeDiff, Nat.reduceLT, ite_true, ite_false, if_true, if_false, ↓reduceIte, reduceIte, ↓br_ite, Bool.false_eq_true, reduceCtorEq, Bool.not_true, Bool.not_false, decide_true, decide_false, Int.cast_ofNat_Int, Int.reduceBEq, Int.reduceAdd, Int.reduceSub, Int.reduceMul, Int.reduceNeg, Int.reduceLT, Int.reduceLE, Int.reduceMod, Int.reduceDiv, sMeth1_ap, sSl_ap, sRev_ap, oNo_ap, oPart_ap, sDict0_ap, sSetL_ap, sLc2_ap, sStar_ap, e1, e]
theorem group_ok (hL : 1 ≤ L) (sa : Sm 600 a) (sb : Sm 600 b) (sc : Sm 600 c) (sd : Sm 600 d) : f__law_is_group [.int L, T4 a b c d] h = .ok (.bl ((a * d - b * c == 1) && (c % L == 0))) h := by
  have hp : 0 < L := by omega
  unfold f__law_is_group c__law_is_group_1
  simp (maxSteps := 4000000) (dsimp := false) (disch := first | assumption | decide | omega | walk_at "cm") only [runDef_ap, sVar_ap, sC_ap, sBin_ap, sNeg_ap, sAnd_ap, sOr_ap, sNot_ap, sIf_ap, sTst_ap, qAnd_ap, qOr_ap, qNot_ap, qYes_ap, sChain_ap, sChain3_ap, sNil_ap, sCons_ap, sTup_ap, sLst_ap, sLstM_ap, sCall_ap, g1_ap, g2_ap, sFn_ap, sAsg_ap, gNm_ap, gTp_ap, gConsS_ap, gNilS_ap, sPar_ap, sPar3_ap, sRet_ap, sRetN_ap, sNx_ap, sBrk_ap, sCnt_ap, sSeq_ap, sIte_ap, sDrop_ap, sFrz_ap, sAug_ap, iRange1_ap, iRange2_ap, iSeq_ap, sFor_ap, sLc_ap, R.toG_ok, ↓R.bind_bnd, bnd_ok, ↓R.bd_bdn, bdn_ok, ↓R.toF_tof, tof_ok, ↓F.seq_sqn, sqn_nx, sqn_ret, sqn_cnt, sqn_brk, ↓F.turn_trn, trn_nx, trn_ret, trn_cnt, trn_brk, F.end_nx, F.end_ret, ↓br_true, br_true, ↓br_false, br_false, Dbr, Dneg, Dtst, opt_some, dAdd_int, dIAdd_int, dSub_int, dLt_int, dLe_int, dGt_int, dGe_int, dEq_int, dNe_int, dEq_bl, dNe_bl, dMul_cm, dMod_pos, dDiv_pos, dAbs_int, dMax2_int, dMin2_int, dInt_int, dInt_bl, dIx_tup, dIx_lst, dIx_seq, dLen_tup, dLen_lst, dLen_seq, atI_0, atI_1, atI_2, atI_3, List.map_cons, List.map_nil, List.length_cons, List.length_nil, List.replicate_succ, List.replicate_zero, List.cons_append, List.nil_append, List.getElem?_cons_zero, List.getElem?_cons_succ, List.set_cons_zero, List.set_cons_succ, Nat.reduceAdd, Nat.reduceSub, Nat.zero_add, Nat.add_zero, Nat.sub_self, Nat.reduceMul, mostL_def, Nat.reduceLeDiff, Nat.reduceLT, ite_true, ite_false, if_true, if_false, ↓reduceIte, reduceIte, ↓br_ite, Bool.false_eq_true, reduceCtorEq, Bool.not_true, Bool.not_false, decide_true, decide_false, Int.cast_ofNat_Int, Int.reduceBEq, Int.reduceAdd, Int.reduceSub, Int.reduceMul, Int.reduceNeg, Int.reduceLT, Int.reduceLE, Int.reduceMod, Int.reduceDiv, sMeth1_ap, sSl_ap, sRev_ap, oNo_ap, oPart_ap, sDict0_ap, sSetL_ap, sLc2_ap, sStar_ap, isi_tup, kit_tuple_tuple, isi_int, kit_int_int, kit_int_bool, compGo_cons, compGo_nil, wipe_cons, wipe_nil, iSeq_at, dNe_nil, it_bl, br_bl, it_and, br_and]
/-- what is a matrix for neither -/
def NoM (v : D) (h : Ph) : Prop := f_is_matrix [v] h = .ok (.bl false) h ∧ ∀ L : Int, f__law_is_group [.int L, v] h = .ok (.bl false) h
theorem nom_non : NoM .non h := ⟨by unfold f_is_matrix; simp (maxSteps := 4000000) (dsimp := false) (disch := first | assumption | decide | omega | walk_at "cm") only [runDef_ap, sVar_ap, sC_ap, sBin_ap, sNeg_ap, sAnd_ap, sOr_ap, sNot_ap, sIf_ap, sTst_ap, qAnd_ap, qOr_ap, qNot_ap, qYes_ap, sChain_ap, sChain3_ap, sNil_ap, sCons_ap, sTup_ap, sLst_ap, sLstM_ap, sCall_ap, g1_ap, g2_ap, sFn_ap, sAsg_ap, gNm_ap, gTp_ap, gConsS_ap, gNilS_ap, sPar_ap, sPar3_ap, sRet_ap, sRetN_ap, sNx_ap, sBrk_ap, sCnt_ap, sSeq_ap, sIte_ap, sDrop_ap, sFrz_ap, sAug_ap, iRange1_ap, iRange2_ap, iSeq_ap, sFor_ap, sLc_ap, R.toG_ok, ↓R.bind_bnd, bnd_ok, ↓R.bd_bdn, bdn_ok, ↓R.toF_tof, tof_ok, ↓F.seq_sqn, sqn_nx, sqn_ret, sqn_cnt, sqn_brk, ↓F.turn_trn, trn_nx, trn_ret, trn_cnt, trn_brk, F.end_nx, F.end_ret, ↓br_true, br_true, ↓br_false, br_false, Dbr, Dneg, Dtst, opt_some, dAdd_int, dIAdd_int, dSub_int, dLt_int, dLe_int, dGt_int, dGe_int, dEq_int, dNe_int, dEq_bl, dNe_bl, dMul_cm, dMod_pos, dDiv_pos, dAbs_int, dMax2_int, dMin2_int, dInt_int, dInt_bl, dIx_tup, dIx_lst, dIx_seq, dLen_tup, dLen_lst, dLen_seq, atI_0, atI_1, atI_2, atI_3, List.map_cons, List.map_nil, List.length_cons, List.length_nil, List.replicate_succ, List.replicate_zero, List.cons_append, List.nil_append, List.getElem?_cons_zero, List.getElem?_cons_succ, List.set_cons_zero, List.set_cons_succ, Nat.reduceAdd, Nat.reduceSub, Nat.zero_add, Nat.add_zero, Nat.sub_self, Nat.reduceMul, mostL_def, Nat.reduceLeDiff, Nat.reduceLT, ite_true, ite_false, if_true, if_false, ↓reduceIte, reduceIte, ↓br_ite, Bool.false_eq_true, reduceCtorEq, Bool.not_true, Bool.not_false, decide_true, decide_false, Int.cast_ofNat_Int, Int.reduceBEq, Int.reduceAdd, Int.reduceSub, Int.reduceMul, Int.reduceNeg, Int.reduceLT, Int.reduceLE, Int.reduceMod, Int.reduceDiv, sMeth1_ap, sSl_ap, sRev_ap, oNo_ap, oPart_ap, sDict0_ap, sSetL_ap, sLc2_ap, sStar_ap, isi_non, kit_non_tuple], fun L => by unfold f__law_is_group; simp (maxSteps := 4000000) (dsimp := false) (disch := first | assumption | decide | omega | walk_at "cm") only [runDef_ap, sVar_ap, sC_ap, sBin_ap, sNeg_ap, sAnd_ap, sOr_ap, sNot_ap, sIf_ap, sTst_ap, qAnd_ap, qOr_ap, qNot_ap, qYes_ap, sChain_ap, sChain3_ap, sNil_ap, sCons_ap, sTup_ap, sLst_ap, sLstM_ap, sCall_ap, g1_ap, g2_ap, sFn_ap, sAsg_ap, gNm_ap, gTp_ap, gConsS_ap, gNilS_ap, sPar_ap, sPar3_ap, sRet_ap, sRetN_ap, sNx_ap, sBrk_ap, sCnt_ap, sSeq_ap, sIte_ap, sDrop_ap, sFrz_ap, sAug_ap, iRange1_ap, iRange2_ap, iSeq_ap, sFor_ap, sLc_ap, R.toG_ok, ↓R.bind_bnd, bnd_ok, ↓R.bd_bdn, bdn_ok, ↓R.toF_tof, tof_ok, ↓F.seq_sqn, sqn_nx, sqn_ret, sqn_cnt, sqn_brk, ↓F.turn_trn, trn_nx, trn_ret, trn_cnt, trn_brk, F.end_nx, F.end_ret, ↓br_true, br_true, ↓br_false, br_false, Dbr, Dneg, Dtst, opt_some, dAdd_int, dIAdd_int, dSub_int, dLt_int, dLe_int, dGt_int, dGe_int, dEq_int, dNe_int, dEq_bl, dNe_bl, dMul_cm, dMod_pos, dDiv_pos, dAbs_int, dMax2_int, dMin2_int, dInt_int, dInt_bl, dIx_tup, dIx_lst, dIx_seq, dLen_tup, dLen_lst, dLen_seq, atI_0, atI_1, atI_2, atI_3, List.map_cons, List.map_nil, List.length_cons, List.length_nil, List.replicate_succ, List.replicate_zero, List.cons_append, List.nil_append, List.getElem?_cons_zero, List.getElem?_cons_succ, List.set_cons_zero, List.set_cons_succ, Nat.reduceAdd, Nat.reduceSub, Nat.zero_add, Nat.add_zero, Nat.sub_self, Nat.reduceMul, mostL_def, Nat.reduceLeDiff, Nat.reduceLT, ite_true, ite_false, if_true, if_false, ↓reduceIte, reduceIte, ↓br_ite, Bool.false_eq_true, reduceCtorEq, Bool.not_true, Bool.not_false, decide_true, decide_false, Int.cast_ofNat_Int, Int.reduceBEq, Int.reduceAdd, Int.reduceSub, Int.reduceMul, Int.reduceNeg, Int.reduceLT, Int.reduceLE, Int.reduceMod, Int.reduceDiv, sMeth1_ap, sSl_ap, sRev_ap, oNo_ap, oPart_ap, sDict0_ap, sSetL_ap, sLc2_ap, sStar_ap, isi_non, kit_non_tuple]⟩
theorem nom_lst {xs : List D} : NoM (.lst xs) h := ⟨by unfold f_is_matrix; simp (maxSteps := 4000000) (dsimp := false) (disch := first | assumption | decide | omega | walk_at "cm") only [runDef_ap, sVar_ap, sC_ap, sBin_ap, sNeg_ap, sAnd_ap, sOr_ap, sNot_ap, sIf_ap, sTst_ap, qAnd_ap, qOr_ap, qNot_ap, qYes_ap, sChain_ap, sChain3_ap, sNil_ap, sCons_ap, sTup_ap, sLst_ap, sLstM_ap, sCall_ap, g1_ap, g2_ap, sFn_ap, sAsg_ap, gNm_ap, gTp_ap, gConsS_ap, gNilS_ap, sPar_ap, sPar3_ap, sRet_ap, sRetN_ap, sNx_ap, sBrk_ap, sCnt_ap, sSeq_ap, sIte_ap, sDrop_ap, sFrz_ap, sAug_ap, iRange1_ap, iRange2_ap, iSeq_ap, sFor_ap, sLc_ap, R.toG_ok, ↓R.bind_bnd, bnd_ok, ↓R.bd_bdn, bdn_ok, ↓R.toF_tof, tof_ok, ↓F.seq_sqn, sqn_nx, sqn_ret, sqn_cnt, sqn_brk, ↓F.turn_trn, trn_nx, trn_ret, trn_cnt, trn_brk, F.end_nx, F.end_ret, ↓br_true, br_true, ↓br_false, br_false, Dbr, Dneg, Dtst, opt_some, dAdd_int, dIAdd_int, dSub_int, dLt_int, dLe_int, dGt_int, dGe_int, dEq_int, dNe_int, dEq_bl, dNe_bl, dMul_cm, dMod_pos, dDiv_pos, dAbs_int, dMax2_int, dMin2_int, dInt_int, dInt_bl, dIx_tup, dIx_lst, dIx_seq, dLen_tup, dLen_lst, dLen_seq, atI_0, atI_1, atI_2, atI_3, List.map_cons, List.map_nil, List.length_cons, List.length_nil, List.replicate_succ, List.replicate_zero, List.cons_append, List.nil_append, List.getElem?_cons_zero, List.getElem?_cons_succ, List.set_cons_zero, List.set_cons_succ, Nat.reduceAdd, Nat.reduceSub, Nat.zero_add, Nat.add_zero, Nat.sub_self, Nat.reduceMul, mostL_def, Nat.reduceLeDiff, Nat.reduceLT, ite_true, ite_false, if_true, if_false, ↓reduceIte, reduceIte, ↓br_ite, Bool.false_eq_true, reduceCtorEq, Bool.not_true, Bool.not_false, decide_true, decide_false, Int.cast_ofNat_Int, Int.reduceBEq, Int.reduceAdd, Int.reduceSub, Int.reduceMul, Int.reduceNeg, Int.reduceLT, Int.reduceLE, Int.reduceMod, Int.reduceDiv, sMeth1_ap, sSl_ap, sRev_ap, oNo_ap, oPart_ap, sDict0_ap, sSetL_ap, sLc2_ap, sStar_ap, isi_lst, kit_list_tuple], fun L => by unfold f__law_is_group; simp (maxSteps := 4000000) (dsimp := false) (disch := first | assumption | decide | omega | walk_at "cm") only [runDef_ap, sVar_ap, sC_ap, sBin_ap, sNeg_ap, sAnd_ap, sOr_ap, sNot_ap, sIf_ap, sTst_ap, qAnd_ap, qOr_ap, qNot_ap, qYes_ap, sChain_ap, sChain3_ap, sNil_ap, sCons_ap, sTup_ap, sLst_ap, sLstM_ap, sCall_ap, g1_ap, g2_ap, sFn_ap, sAsg_ap, gNm_ap, gTp_ap, gConsS_ap, gNilS_ap, sPar_ap, sPar3_ap, sRet_ap, sRetN_ap, sNx_ap, sBrk_ap, sCnt_ap, sSeq_ap, sIte_ap, sDrop_ap, sFrz_ap, sAug_ap, iRange1_ap, iRange2_ap, iSeq_ap, sFor_ap, sLc_ap, R.toG_ok, ↓R.bind_bnd, bnd_ok, ↓R.bd_bdn, bdn_ok, ↓R.toF_tof, tof_ok, ↓F.seq_sqn, sqn_nx, sqn_ret, sqn_cnt, sqn_brk, ↓F.turn_trn, trn_nx, trn_ret, trn_cnt, trn_brk, F.end_nx, F.end_ret, ↓br_true, br_true, ↓br_false, br_false, Dbr, Dneg, Dtst, opt_some, dAdd_int, dIAdd_int, dSub_int, dLt_int, dLe_int, dGt_int, dGe_int, dEq_int, dNe_int, dEq_bl, dNe_bl, dMul_cm, dMod_pos, dDiv_pos, dAbs_int, dMax2_int, dMin2_int, dInt_int, dInt_bl, dIx_tup, dIx_lst, dIx_seq, dLen_tup, dLen_lst, dLen_seq, atI_0, atI_1, atI_2, atI_3, List.map_cons, List.map_nil, List.length_cons, List.length_nil, List.replicate_succ, List.replicate_zero, List.cons_append, List.nil_append, List.getElem?_cons_zero, List.getElem?_cons_succ, List.set_cons_zero, List.set_cons_succ, Nat.reduceAdd, Nat.reduceSub, Nat.zero_add, Nat.add_zero, Nat.sub_self, Nat.reduceMul, mostL_def, Nat.reduceLeDiff, Nat.reduceLT, ite_true, ite_false, if_true, if_false, ↓reduceIte, reduceIte, ↓br_ite, Bool.false_eq_true, reduceCtorEq, Bool.not_true, Bool.not_false, decide_true, decide_false, Int.cast_ofNat_Int, Int.reduceBEq, Int.reduceAdd, Int.reduceSub, Int.reduceMul, Int.reduceNeg, Int.reduceLT, Int.reduceLE, Int.reduceMod, Int.reduceDiv, sMeth1_ap, sSl_ap, sRev_ap, oNo_ap, oPart_ap, sDict0_ap, sSetL_ap, sLc2_ap, sStar_ap, isi_lst, kit_list_tuple]⟩
theorem nom_dict {n : Nat} (e : h[n]? = some (.dK [])) : NoM (.ref n) h := by
  have e1 : dIsi (.ref n) (.ty "tuple") h = .ok (.bl false) h := by
    unfold dIsi tyOf
    simp only [e]
    rfl
  exact ⟨by unfold f_is_matrix; simp (maxSteps := 4000000) (dsimp := false) (disch := first | assumption | decide | omega | walk_at "cm") only [runDef_ap, sVar_ap, sC_ap, sBin_ap, sNeg_ap, sAnd_ap, sOr_ap, sNot_ap, sIf_ap, sTst_ap, qAnd_ap, qOr_ap, qNot_ap, qYes_ap, sChain_ap, sChain3_ap, sNil_ap, sCons_ap, sTup_ap, sLst_ap, sLstM_ap, sCall_ap, g1_ap, g2_ap, sFn_ap, sAsg_ap, gNm_ap, gTp_ap, gConsS_ap, gNilS_ap, sPar_ap, sPar3_ap, sRet_ap, sRetN_ap, sNx_ap, sBrk_ap, sCnt_ap, sSeq_ap, sIte_ap, sDrop_ap, sFrz_ap, sAug_ap, iRange1_ap, iRange2_ap, iSeq_ap, sFor_ap, sLc_ap, R.toG_ok, ↓R.bind_bnd, bnd_ok, ↓R.bd_bdn, bdn_ok, ↓R.toF_tof, tof_ok, ↓F.seq_sqn, sqn_nx, sqn_ret, sqn_cnt, sqn_brk, ↓F.turn_trn, trn_nx, trn_ret, trn_cnt, trn_brk, F.end_nx, F.end_ret, ↓br_true, br_true, ↓br_false, br_false, Dbr, Dneg, Dtst, opt_some, dAdd_int, dIAdd_int, dSub_int, dLt_int, dLe_int, dGt_int, dGe_int, dEq_int, dNe_int, dEq_bl, dNe_bl, dMul_cm, dMod_pos, dDiv_pos, dAbs_int, dMax2_int, dMin2_int, dInt_int, dInt_bl, dIx_tup, dIx_lst, dIx_seq, dLen_tup, dLen_lst, dLen_seq, atI_0, atI_1, atI_2, atI_3, List.map_cons, List.map_nil, List.length_cons, List.length_nil, List.replicate_succ, List.replicate_zero, List.cons_append, List.nil_append, List.getElem?_cons_zero, List.getElem?_cons_succ, List.set_cons_zero, List.set_cons_succ, Nat.reduceAdd, Nat.reduceSub, Nat.zero_add, Nat.add_zero, Nat.sub_self, Nat.reduceMul, mostL_def, Nat.reduceLeDiff, Nat.reduceLT, ite_true, ite_false, if_true, if_false, ↓reduceIte, reduceIte, ↓br_ite, Bool.false_eq_true, reduceCtorEq, Bool.not_true, Bool.not_false, decide_true, decide_false, Int.cast_ofNat_Int, Int.reduceBEq, Int.reduceAdd, Int.reduceSub, Int.reduceMul, Int.reduceNeg, Int.reduceLT, Int.reduceLE, Int.reduceMod, Int.reduceDiv, sMeth1_ap, sSl_ap, sRev_ap, oNo_ap, oPart_ap, sDict0_ap, sSetL_ap, sLc2_ap, sStar_ap, e1], fun L => by unfold f__law_is_group; simp (maxSteps := 4000000) (dsimp := false) (disch := first | assumption | decide | omega | walk_at "cm") only [runDef_ap, sVar_ap, sC_ap, sBin_ap, sNeg_ap, sAnd_ap, sOr_ap, sNot_ap, sIf_ap, sTst_ap, qAnd_ap, qOr_ap, qNot_ap, qYes_ap, sChain_ap, sChain3_ap, sNil_ap, sCons_ap, sTup_ap, sLst_ap, sLstM_ap, sCall_ap, g1_ap, g2_ap, sFn_ap, sAsg_ap, gNm_ap, gTp_ap, gConsS_ap, gNilS_ap, sPar_ap, sPar3_ap, sRet_ap, sRetN_ap, sNx_ap, sBrk_ap, sCnt_ap, sSeq_ap, sIte_ap, sDrop_ap, sFrz_ap, sAug_ap, iRange1_ap, iRange2_ap, iSeq_ap, sFor_ap, sLc_ap, R.toG_ok, ↓R.bind_bnd, bnd_ok, ↓R.bd_bdn, bdn_ok, ↓R.toF_tof, tof_ok, ↓F.seq_sqn, sqn_nx, sqn_ret, sqn_cnt, sqn_brk, ↓F.turn_trn, trn_nx, trn_ret, trn_cnt, trn_brk, F.end_nx, F.end_ret, ↓br_true, br_true, ↓br_false, br_false, Dbr, Dneg, Dtst, opt_some, dAdd_int, dIAdd_int, dSub_int, dLt_int, dLe_int, dGt_int, dGe_int, dEq_int, dNe_int, dEq_bl, dNe_bl, dMul_cm, dMod_pos, dDiv_pos, dAbs_int, dMax2_int, dMin2_int, dInt_int, dInt_bl, dIx_tup, dIx_lst, dIx_seq, dLen_tup, dLen_lst, dLen_seq, atI_0, atI_1, atI_2, atI_3, List.map_cons, List.map_nil, List.length_cons, List.length_nil, List.replicate_succ, List.replicate_zero, List.cons_append, List.nil_append, List.getElem?_cons_zero, List.getElem?_cons_succ, List.set_cons_zero, List.set_cons_succ, Nat.reduceAdd, Nat.reduceSub, Nat.zero_add, Nat.add_zero, Nat.sub_self, Nat.reduceMul, mostL_def, Nat.reduceLeDiff, Nat.reduceLT, ite_true, ite_false, if_true, if_false, ↓reduceIte, reduceIte, ↓br_ite, Bool.false_eq_true, reduceCtorEq, Bool.not_true, Bool.not_false, decide_true, decide_false, Int.cast_ofNat_Int, Int.reduceBEq, Int.reduceAdd, Int.reduceSub, Int.reduceMul, Int.reduceNeg, Int.reduceLT, Int.reduceLE, Int.reduceMod, Int.reduceDiv, sMeth1_ap, sSl_ap, sRev_ap, oNo_ap, oPart_ap, sDict0_ap, sSetL_ap, sLc2_ap, sStar_ap, e1]⟩
theorem nom_len {xs : List D} (hn : ((xs.length : Int) == 4) = false) : NoM (.tup xs) h := ⟨by unfold f_is_matrix; simp (maxSteps := 4000000) (dsimp := false) (disch := first | assumption | decide | omega | walk_at "cm") only [runDef_ap, sVar_ap, sC_ap, sBin_ap, sNeg_ap, sAnd_ap, sOr_ap, sNot_ap, sIf_ap, sTst_ap, qAnd_ap, qOr_ap, qNot_ap, qYes_ap, sChain_ap, sChain3_ap, sNil_ap, sCons_ap, sTup_ap, sLst_ap, sLstM_ap, sCall_ap, g1_ap, g2_ap, sFn_ap, sAsg_ap, gNm_ap, gTp_ap, gConsS_ap, gNilS_ap, sPar_ap, sPar3_ap, sRet_ap, sRetN_ap, sNx_ap, sBrk_ap, sCnt_ap, sSeq_ap, sIte_ap, sDrop_ap, sFrz_ap, sAug_ap, iRange1_ap, iRange2_ap, iSeq_ap, sFor_ap, sLc_ap, R.toG_ok, ↓R.bind_bnd, bnd_ok, ↓R.bd_bdn, bdn_ok, ↓R.toF_tof, tof_ok, ↓F.seq_sqn, sqn_nx, sqn_ret, sqn_cnt, sqn_brk, ↓F.turn_trn, trn_nx, trn_ret, trn_cnt, trn_brk, F.end_nx, F.end_ret, ↓br_true, br_true, ↓br_false, br_false, Dbr, Dneg, Dtst, opt_some, dAdd_int, dIAdd_int, dSub_int, dLt_int, dLe_int, dGt_int, dGe_int, dEq_int, dNe_int, dEq_bl, dNe_bl, dMul_cm, dMod_pos, dDiv_pos, dAbs_int, dMax2_int, dMin2_int, dInt_int, dInt_bl, dIx_tup, dIx_lst, dIx_seq, dLen_tup, dLen_lst, dLen_seq, atI_0, atI_1, atI_2, atI_3, List.map_cons, List.map_nil, List.length_cons, List.length_nil, List.replicate_succ, List.replicate_zero, List.cons_append, List.nil_append, List.getElem?_cons_zero, List.getElem?_cons_succ, List.set_cons_zero, List.set_cons_succ, Nat.reduceAdd, Nat.reduceSub, Nat.zero_add, Nat.add_zero, Nat.sub_self, Nat.reduceMul, mostL_def, Nat.reduceLeDiff, Nat.reduceLT, ite_true, ite_false, if_true, if_false, ↓reduceIte, reduceIte, ↓br_ite, Bool.false_eq_true, reduceCtorEq, Bool.not_true, Bool.not_false, decide_true, decide_false, Int.cast_ofNat_Int, Int.reduceBEq, Int.reduceAdd, Int.reduceSub, Int.reduceMul, Int.reduceNeg, Int.reduceLT, Int.reduceLE, Int.reduceMod, Int.reduceDiv, sMeth1_ap, sSl_ap, sRev_ap, oNo_ap, oPart_ap, sDict0_ap, sSetL_ap, sLc2_ap, sStar_ap, isi_tup, kit_tuple_tuple, hn], fun L => by unfold f__law_is_group; simp (maxSteps := 4000000) (dsimp := false) (disch := first | assumption | decide | omega | walk_at "cm") only [runDef_ap, sVar_ap, sC_ap, sBin_ap, sNeg_ap, sAnd_ap, sOr_ap, sNot_ap, sIf_ap, sTst_ap, qAnd_ap, qOr_ap, qNot_ap, qYes_ap, sChain_ap, sChain3_ap, sNil_ap, sCons_ap, sTup_ap, sLst_ap, sLstM_ap, sCall_ap, g1_ap, g2_ap, sFn_ap, sAsg_ap, gNm_ap, gTp_ap, gConsS_ap, gNilS_ap, sPar_ap, sPar3_ap, sRet_ap, sRetN_ap, sNx_ap, sBrk_ap, sCnt_ap, sSeq_ap, sIte_ap, sDrop_ap, sFrz_ap, sAug_ap, iRange1_ap, iRange2_ap, iSeq_ap, sFor_ap, sLc_ap, R.toG_ok, ↓R.bind_bnd, bnd_ok, ↓R.bd_bdn, bdn_ok, ↓R.toF_tof, tof_ok, ↓F.seq_sqn, sqn_nx, sqn_ret, sqn_cnt, sqn_brk, ↓F.turn_trn, trn_nx, trn_ret, trn_cnt, trn_brk, F.end_nx, F.end_ret, ↓br_true, br_true, ↓br_false, br_false, Dbr, Dneg, Dtst, opt_some, dAdd_int, dIAdd_int, dSub_int, dLt_int, dLe_int, dGt_int, dGe_int, dEq_int, dNe_int, dEq_bl, dNe_bl, dMul_cm, dMod_pos, dDiv_pos, dAbs_int, dMax2_int, dMin2_int, dInt_int, dInt_bl, dIx_tup, dIx_lst, dIx_seq, dLen_tup, dLen_lst, dLen_seq, atI_0, atI_1, atI_2, atI_3, List.map_cons, List.map_nil, List.length_cons, List.length_nil, List.replicate_succ, List.replicate_zero, List.cons_append, List.nil_append, List.getElem?_cons_zero, List.getElem?_cons_succ, List.set_cons_zero, List.set_cons_succ, Nat.reduceAdd, Nat.reduceSub, Nat.zero_add, Nat.add_zero, Nat.sub_self, Nat.reduceMul, mostL_def, Nat.reduceLeDiff, Nat.reduceLT, ite_true, ite_false, if_true, if_false, ↓reduceIte, reduceIte, ↓br_ite, Bool.false_eq_true, reduceCtorEq, Bool.not_true, Bool.not_false, decide_true, decide_false, Int.cast_ofNat_Int, Int.reduceBEq, Int.reduceAdd, Int.reduceSub, Int.reduceMul, Int.reduceNeg, Int.reduceLT, Int.reduceLE, Int.reduceMod, Int.reduceDiv, sMeth1_ap, sSl_ap, sRev_ap, oNo_ap, oPart_ap, sDict0_ap, sSetL_ap, sLc2_ap, sStar_ap, isi_tup, kit_tuple_tuple, hn]⟩
theorem nom_4non : NoM (.tup [.int a, .int b, .int c, .non]) h := ⟨by
    unfold f_is_matrix c_is_matrix_1; simp (maxSteps := 4000000) (dsimp := false) (disch := first | assumption | decide | omega | walk_at "cm") only [runDef_ap, sVar_ap, sC_ap, sBin_ap, sNeg_ap, sAnd_ap, sOr_ap, sNot_ap, sIf_ap, sTst_ap, qAnd_ap, qOr_ap, qNot_ap, qYes_ap, sChain_ap, sChain3_ap, sNil_ap, sCons_ap, sTup_ap, sLst_ap, sLstM_ap, sCall_ap, g1_ap, g2_ap, sFn_ap, sAsg_ap, gNm_ap, gTp_ap, gConsS_ap, gNilS_ap, sPar_ap, sPar3_ap, sRet_ap, sRetN_ap, sNx_ap, sBrk_ap, sCnt_ap, sSeq_ap, sIte_ap, sDrop_ap, sFrz_ap, sAug_ap, iRange1_ap, iRange2_ap, iSeq_ap, sFor_ap, sLc_ap, R.toG_ok, ↓R.bind_bnd, bnd_ok, ↓R.bd_bdn, bdn_ok, ↓R.toF_tof, tof_ok, ↓F.seq_sqn, sqn_nx, sqn_ret, sqn_cnt, sqn_brk, ↓F.turn_trn, trn_nx, trn_ret, trn_cnt, trn_brk, F.end_nx, F.end_ret, ↓br_true, br_true, ↓br_false, br_false, Dbr, Dneg, Dtst, opt_some, dAdd_int, dIAdd_int, dSub_int, dLt_int, dLe_int, dGt_int, dGe_int, dEq_int, dNe_int, dEq_bl, dNe_bl, dMul_cm, dMod_pos, dDiv_pos, dAbs_int, dMax2_int, dMin2_int, dInt_int, dInt_bl, dIx_tup, dIx_lst, dIx_seq, dLen_tup, dLen_lst, dLen_seq, atI_0, atI_1, atI_2, atI_3, List.map_cons, List.map_nil, List.length_cons, List.length_nil, List.replicate_succ, List.replicate_zero, List.cons_append, List.nil_append, List.getElem?_cons_zero, List.getElem?_cons_succ, List.set_cons_zero, List.set_cons_succ, Nat.reduceAdd, Nat.reduceSub, Nat.zero_add, Nat.add_zero, Nat.sub_self, Nat.reduceMul, mostL_def, Nat.reduceLeDiff, Nat.reduceLT, ite_true, ite_false, if_true, if_false, ↓reduceIte, reduceIte, ↓br_ite, Bool.false_eq_true, reduceCtorEq, Bool.not_true, Bool.not_false, decide_true, decide_false, Int.cast_ofNat_Int, Int.reduceBEq, Int.reduceAdd, Int.reduceSub, Int.reduceMul, Int.reduceNeg, Int.reduceLT, Int.reduceLE, Int.reduceMod, Int.reduceDiv, sMeth1_ap, sSl_ap, sRev_ap, oNo_ap, oPart_ap, sDict0_ap, sSetL_ap, sLc2_ap, sStar_ap, isi_tup, kit_tuple_tuple, compGo_cons, compGo_nil, wipe_cons, wipe_nil, iSeq_at, dAll_lst, bls_cons, bls_nil, Option.map_some, List.all_cons, List.all_nil, id, whole_int, whole_non, Bool.and_true, Bool.and_false], fun L => by
    have e := dNe_one (x := .non) (h := h) rfl rfl
    unfold f__law_is_group c__law_is_group_1
    simp (maxSteps := 4000000) (dsimp := false) (disch := first | assumption | decide | omega | walk_at "cm") only [runDef_ap, sVar_ap, sC_ap, sBin_ap, sNeg_ap, sAnd_ap, sOr_ap, sNot_ap, sIf_ap, sTst_ap, qAnd_ap, qOr_ap, qNot_ap, qYes_ap, sChain_ap, sChain3_ap, sNil_ap, sCons_ap, sTup_ap, sLst_ap, sLstM_ap, sCall_ap, g1_ap, g2_ap, sFn_ap, sAsg_ap, gNm_ap, gTp_ap, gConsS_ap, gNilS_ap, sPar_ap, sPar3_ap, sRet_ap, sRetN_ap, sNx_ap, sBrk_ap, sCnt_ap, sSeq_ap, sIte_ap, sDrop_ap, sFrz_ap, sAug_ap, iRange1_ap, iRange2_ap, iSeq_ap, sFor_ap, sLc_ap, R.toG_ok, ↓R.bind_bnd, bnd_ok, ↓R.bd_bdn, bdn_ok, ↓R.toF_tof, tof_ok, ↓F.seq_sqn, sqn_nx, sqn_ret, sqn_cnt, sqn_brk, ↓F.turn_trn, trn_nx, trn_ret, trn_cnt, trn_brk, F.end_nx, F.end_ret, ↓br_true, br_true, ↓br_false, br_false, Dbr, Dneg, Dtst, opt_some, dAdd_int, dIAdd_int, dSub_int, dLt_int, dLe_int, dGt_int, dGe_int, dEq_int, dNe_int, dEq_bl, dNe_bl, dMul_cm, dMod_pos, dDiv_pos, dAbs_int, dMax2_int, dMin2_int, dInt_int, dInt_bl, dIx_tup, dIx_lst, dIx_seq, dLen_tup, dLen_lst, dLen_seq, atI_0, atI_1, atI_2, atI_3, List.map_cons, List.map_nil, List.length_cons, List.length_nil, List.replicate_succ, List.replicate_zero, List.cons_append, List.nil_append, List.getElem?_cons_zero, List.getElem?_cons_succ, List.set_cons_zero, List.set_cons_succ, Nat.reduceAdd, Nat.reduceSub, Nat.zero_add, Nat.add_zero, Nat.sub_self, Nat.reduceMul, mostL_def, Nat.reduceLeDiff, Nat.reduceLT, ite_true, ite_false, if_true, if_false, ↓reduceIte, reduceIte, ↓br_ite, Bool.false_eq_true, reduceCtorEq, Bool.not_true, Bool.not_false, decide_true, decide_false, Int.cast_ofNat_Int, Int.reduceBEq, Int.reduceAdd, Int.reduceSub, Int.reduceMul, Int.reduceNeg, Int.reduceLT, Int.reduceLE, Int.reduceMod, Int.reduceDiv, sMeth1_ap, sSl_ap, sRev_ap, oNo_ap, oPart_ap, sDict0_ap, sSetL_ap, sLc2_ap, sStar_ap, isi_tup, kit_tuple_tuple, isi_int, isi_non, kit_non_int, kit_int_int, kit_int_bool, compGo_cons, compGo_nil, wipe_cons, wipe_nil, iSeq_at, e]⟩
theorem nom_4str {z : Str} (hz : SeqAt.shaped (.list [.str z]) = true) : NoM (.tup [.int a, .int b, .int c, .str z]) h := ⟨by
    unfold f_is_matrix c_is_matrix_1; simp (maxSteps := 4000000) (dsimp := false) (disch := first | assumption | decide | omega | walk_at "cm") only [runDef_ap, sVar_ap, sC_ap, sBin_ap, sNeg_ap, sAnd_ap, sOr_ap, sNot_ap, sIf_ap, sTst_ap, qAnd_ap, qOr_ap, qNot_ap, qYes_ap, sChain_ap, sChain3_ap, sNil_ap, sCons_ap, sTup_ap, sLst_ap, sLstM_ap, sCall_ap, g1_ap, g2_ap, sFn_ap, sAsg_ap, gNm_ap, gTp_ap, gConsS_ap, gNilS_ap, sPar_ap, sPar3_ap, sRet_ap, sRetN_ap, sNx_ap, sBrk_ap, sCnt_ap, sSeq_ap, sIte_ap, sDrop_ap, sFrz_ap, sAug_ap, iRange1_ap, iRange2_ap, iSeq_ap, sFor_ap, sLc_ap, R.toG_ok, ↓R.bind_bnd, bnd_ok, ↓R.bd_bdn, bdn_ok, ↓R.toF_tof, tof_ok, ↓F.seq_sqn, sqn_nx, sqn_ret, sqn_cnt, sqn_brk, ↓F.turn_trn, trn_nx, trn_ret, trn_cnt, trn_brk, F.end_nx, F.end_ret, ↓br_true, br_true, ↓br_false, br_false, Dbr, Dneg, Dtst, opt_some, dAdd_int, dIAdd_int, dSub_int, dLt_int, dLe_int, dGt_int, dGe_int, dEq_int, dNe_int, dEq_bl, dNe_bl, dMul_cm, dMod_pos, dDiv_pos, dAbs_int, dMax2_int, dMin2_int, dInt_int, dInt_bl, dIx_tup, dIx_lst, dIx_seq, dLen_tup, dLen_lst, dLen_seq, atI_0, atI_1, atI_2, atI_3, List.map_cons, List.map_nil, List.length_cons, List.length_nil, List.replicate_succ, List.replicate_zero, List.cons_append, List.nil_append, List.getElem?_cons_zero, List.getElem?_cons_succ, List.set_cons_zero, List.set_cons_succ, Nat.reduceAdd, Nat.reduceSub, Nat.zero_add, Nat.add_zero, Nat.sub_self, Nat.reduceMul, mostL_def, Nat.reduceLeDiff, Nat.reduceLT, ite_true, ite_false, if_true, if_false, ↓reduceIte, reduceIte, ↓br_ite, Bool.false_eq_true, reduceCtorEq, Bool.not_true, Bool.not_false, decide_true, decide_false, Int.cast_ofNat_Int, Int.reduceBEq, Int.reduceAdd, Int.reduceSub, Int.reduceMul, Int.reduceNeg, Int.reduceLT, Int.reduceLE, Int.reduceMod, Int.reduceDiv, sMeth1_ap, sSl_ap, sRev_ap, oNo_ap, oPart_ap, sDict0_ap, sSetL_ap, sLc2_ap, sStar_ap, isi_tup, kit_tuple_tuple, compGo_cons, compGo_nil, wipe_cons, wipe_nil, iSeq_at, dAll_lst, bls_cons, bls_nil, Option.map_some, List.all_cons, List.all_nil, id, whole_int, whole_str, Bool.and_true, Bool.and_false], fun L => by
    have e := dNe_one (x := .str z) (h := h) rfl hz
    unfold f__law_is_group c__law_is_group_1
    simp (maxSteps := 4000000) (dsimp := false) (disch := first | assumption | decide | omega | walk_at "cm") only [runDef_ap, sVar_ap, sC_ap, sBin_ap, sNeg_ap, sAnd_ap, sOr_ap, sNot_ap, sIf_ap, sTst_ap, qAnd_ap, qOr_ap, qNot_ap, qYes_ap, sChain_ap, sChain3_ap, sNil_ap, sCons_ap, sTup_ap, sLst_ap, sLstM_ap, sCall_ap, g1_ap, g2_ap, sFn_ap, sAsg_ap, gNm_ap, gTp_ap, gConsS_ap, gNilS_ap, sPar_ap, sPar3_ap, sRet_ap, sRetN_ap, sNx_ap, sBrk_ap, sCnt_ap, sSeq_ap, sIte_ap, sDrop_ap, sFrz_ap, sAug_ap, iRange1_ap, iRange2_ap, iSeq_ap, sFor_ap, sLc_ap, R.toG_ok, ↓R.bind_bnd, bnd_ok, ↓R.bd_bdn, bdn_ok, ↓R.toF_tof, tof_ok, ↓F.seq_sqn, sqn_nx, sqn_ret, sqn_cnt, sqn_brk, ↓F.turn_trn, trn_nx, trn_ret, trn_cnt, trn_brk, F.end_nx, F.end_ret, ↓br_true, br_true, ↓br_false, br_false, Dbr, Dneg, Dtst, opt_some, dAdd_int, dIAdd_int, dSub_int, dLt_int, dLe_int, dGt_int, dGe_int, dEq_int, dNe_int, dEq_bl, dNe_bl, dMul_cm, dMod_pos, dDiv_pos, dAbs_int, dMax2_int, dMin2_int, dInt_int, dInt_bl, dIx_tup, dIx_lst, dIx_seq, dLen_tup, dLen_lst, dLen_seq, atI_0, atI_1, atI_2, atI_3, List.map_cons, List.map_nil, List.length_cons, List.length_nil, List.replicate_succ, List.replicate_zero, List.cons_append, List.nil_append, List.getElem?_cons_zero, List.getElem?_cons_succ, List.set_cons_zero, List.set_cons_succ, Nat.reduceAdd, Nat.reduceSub, Nat.zero_add, Nat.add_zero, Nat.sub_self, Nat.reduceMul, mostL_def, Nat.reduceLeDiff, Nat.reduceLT, ite_true, ite_false, if_true, if_false, ↓reduceIte, reduceIte, ↓br_ite, Bool.false_eq_true, reduceCtorEq, Bool.not_true, Bool.not_false, decide_true, decide_false, Int.cast_ofNat_Int, Int.reduceBEq, Int.reduceAdd, Int.reduceSub, Int.reduceMul, Int.reduceNeg, Int.reduceLT, Int.reduceLE, Int.reduceMod, Int.reduceDiv, sMeth1_ap, sSl_ap, sRev_ap, oNo_ap, oPart_ap, sDict0_ap, sSetL_ap, sLc2_ap, sStar_ap, isi_tup, kit_tuple_tuple, isi_int, isi_str, kit_str_int, kit_int_int, kit_int_bool, compGo_cons, compGo_nil, wipe_cons, wipe_nil, iSeq_at, e]⟩
theorem nom_4bl : NoM (.tup [.bl true, .int a, .int b, .bl true]) h := ⟨by
    unfold f_is_matrix c_is_matrix_1; simp (maxSteps := 4000000) (dsimp := false) (disch := first | assumption | decide | omega | walk_at "cm") only [runDef_ap, sVar_ap, sC_ap, sBin_ap, sNeg_ap, sAnd_ap, sOr_ap, sNot_ap, sIf_ap, sTst_ap, qAnd_ap, qOr_ap, qNot_ap, qYes_ap, sChain_ap, sChain3_ap, sNil_ap, sCons_ap, sTup_ap, sLst_ap, sLstM_ap, sCall_ap, g1_ap, g2_ap, sFn_ap, sAsg_ap, gNm_ap, gTp_ap, gConsS_ap, gNilS_ap, sPar_ap, sPar3_ap, sRet_ap, sRetN_ap, sNx_ap, sBrk_ap, sCnt_ap, sSeq_ap, sIte_ap, sDrop_ap, sFrz_ap, sAug_ap, iRange1_ap, iRange2_ap, iSeq_ap, sFor_ap, sLc_ap, R.toG_ok, ↓R.bind_bnd, bnd_ok, ↓R.bd_bdn, bdn_ok, ↓R.toF_tof, tof_ok, ↓F.seq_sqn, sqn_nx, sqn_ret, sqn_cnt, sqn_brk, ↓F.turn_trn, trn_nx, trn_ret, trn_cnt, trn_brk, F.end_nx, F.end_ret, ↓br_true, br_true, ↓br_false, br_false, Dbr, Dneg, Dtst, opt_some, dAdd_int, dIAdd_int, dSub_int, dLt_int, dLe_int, dGt_int, dGe_int, dEq_int, dNe_int, dEq_bl, dNe_bl, dMul_cm, dMod_pos, dDiv_pos, dAbs_int, dMax2_int, dMin2_int, dInt_int, dInt_bl, dIx_tup, dIx_lst, dIx_seq, dLen_tup, dLen_lst, dLen_seq, atI_0, atI_1, atI_2, atI_3, List.map_cons, List.map_nil, List.length_cons, List.length_nil, List.replicate_succ, List.replicate_zero, List.cons_append, List.nil_append, List.getElem?_cons_zero, List.getElem?_cons_succ, List.set_cons_zero, List.set_cons_succ, Nat.reduceAdd, Nat.reduceSub, Nat.zero_add, Nat.add_zero, Nat.sub_self, Nat.reduceMul, mostL_def, Nat.reduceLeDiff, Nat.reduceLT, ite_true, ite_false, if_true, if_false, ↓reduceIte, reduceIte, ↓br_ite, Bool.false_eq_true, reduceCtorEq, Bool.not_true, Bool.not_false, decide_true, decide_false, Int.cast_ofNat_Int, Int.reduceBEq, Int.reduceAdd, Int.reduceSub, Int.reduceMul, Int.reduceNeg, Int.reduceLT, Int.reduceLE, Int.reduceMod, Int.reduceDiv, sMeth1_ap, sSl_ap, sRev_ap, oNo_ap, oPart_ap, sDict0_ap, sSetL_ap, sLc2_ap, sStar_ap, isi_tup, kit_tuple_tuple, compGo_cons, compGo_nil, wipe_cons, wipe_nil, iSeq_at, dAll_lst, bls_cons, bls_nil, Option.map_some, List.all_cons, List.all_nil, id, whole_int, whole_bl, Bool.and_true, Bool.and_false], fun L => by
    have e : dNe (.lst [.bl true, .bl true]) (.lst []) h = .ok (.bl true) h := rfl
    unfold f__law_is_group c__law_is_group_1
    simp (maxSteps := 4000000) (dsimp := false) (disch := first | assumption | decide | omega | walk_at "cm") only [runDef_ap, sVar_ap, sC_ap, sBin_ap, sNeg_ap, sAnd_ap, sOr_ap, sNot_ap, sIf_ap, sTst_ap, qAnd_ap, qOr_ap, qNot_ap, qYes_ap, sChain_ap, sChain3_ap, sNil_ap, sCons_ap, sTup_ap, sLst_ap, sLstM_ap, sCall_ap, g1_ap, g2_ap, sFn_ap, sAsg_ap, gNm_ap, gTp_ap, gConsS_ap, gNilS_ap, sPar_ap, sPar3_ap, sRet_ap, sRetN_ap, sNx_ap, sBrk_ap, sCnt_ap, sSeq_ap, sIte_ap, sDrop_ap, sFrz_ap, sAug_ap, iRange1_ap, iRange2_ap, iSeq_ap, sFor_ap, sLc_ap, R.toG_ok, ↓R.bind_bnd, bnd_ok, ↓R.bd_bdn, bdn_ok, ↓R.toF_tof, tof_ok, ↓F.seq_sqn, sqn_nx, sqn_ret, sqn_cnt, sqn_brk, ↓F.turn_trn, trn_nx, trn_ret, trn_cnt, trn_brk, F.end_nx, F.end_ret, ↓br_true, br_true, ↓br_false, br_false, Dbr, Dneg, Dtst, opt_some, dAdd_int, dIAdd_int, dSub_int, dLt_int, dLe_int, dGt_int, dGe_int, dEq_int, dNe_int, dEq_bl, dNe_bl, dMul_cm, dMod_pos, dDiv_pos, dAbs_int, dMax2_int, dMin2_int, dInt_int, dInt_bl, dIx_tup, dIx_lst, dIx_seq, dLen_tup, dLen_lst, dLen_seq, atI_0, atI_1, atI_2, atI_3, List.map_cons, List.map_nil, List.length_cons, List.length_nil, List.replicate_succ, List.replicate_zero, List.cons_append, List.nil_append, List.getElem?_cons_zero, List.getElem?_cons_succ, List.set_cons_zero, List.set_cons_succ, Nat.reduceAdd, Nat.reduceSub, Nat.zero_add, Nat.add_zero, Nat.sub_self, Nat.reduceMul, mostL_def, Nat.reduceLeDiff, Nat.reduceLT, ite_true, ite_false, if_true, if_false, ↓reduceIte, reduceIte, ↓br_ite, Bool.false_eq_true, reduceCtorEq, Bool.not_true, Bool.not_false, decide_true, decide_false, Int.cast_ofNat_Int, Int.reduceBEq, Int.reduceAdd, Int.reduceSub, Int.reduceMul, Int.reduceNeg, Int.reduceLT, Int.reduceLE, Int.reduceMod, Int.reduceDiv, sMeth1_ap, sSl_ap, sRev_ap, oNo_ap, oPart_ap, sDict0_ap, sSetL_ap, sLc2_ap, sStar_ap, isi_tup, kit_tuple_tuple, isi_int, isi_bl, kit_bool_int, kit_bool_bool, kit_int_int, kit_int_bool, compGo_cons, compGo_nil, wipe_cons, wipe_nil, iSeq_at, e]⟩
end
/-! ### products, backs -/
section
variable {a b c d p q r s : Int} {h : Ph}
theorem require_short_ok (sa : Sm 199 a) (sb : Sm 199 b) (sc : Sm 199 c) (sd : Sm 199 d) : f_require_short [T4 a b c d] h = .ok .non h := by
  unfold f_require_short; simp (maxSteps := 4000000) (dsimp := false) (disch := first | assumption | decide | omega | walk_at "cm") only [runDef_ap, sVar_ap, sC_ap, sBin_ap, sNeg_ap, sAnd_ap, sOr_ap, sNot_ap, sIf_ap, sTst_ap, qAnd_ap, qOr_ap, qNot_ap, qYes_ap, sChain_ap, sChain3_ap, sNil_ap, sCons_ap, sTup_ap, sLst_ap, sLstM_ap, sCall_ap, g1_ap, g2_ap, sFn_ap, sAsg_ap, gNm_ap, gTp_ap, gConsS_ap, gNilS_ap, sPar_ap, sPar3_ap, sRet_ap, sRetN_ap, sNx_ap, sBrk_ap, sCnt_ap, sSeq_ap, sIte_ap, sDrop_ap, sFrz_ap, sAug_ap, iRange1_ap, iRange2_ap, iSeq_ap, sFor_ap, sLc_ap, R.toG_ok, ↓R.bind_bnd, bnd_ok, ↓R.bd_bdn, bdn_ok, ↓R.toF_tof, tof_ok, ↓F.seq_sqn, sqn_nx, sqn_ret, sqn_cnt, sqn_brk, ↓F.turn_trn, trn_nx, trn_ret, trn_cnt, trn_brk, F.end_nx, F.end_ret, ↓br_true, br_true, ↓br_false, br_false, Dbr, Dneg, Dtst, opt_some, dAdd_int, dIAdd_int, dSub_int, dLt_int, dLe_int, dGt_int, dGe_int, dEq_int, dNe_int, dEq_bl, dNe_bl, dMul_cm, dMod_pos, dDiv_pos, dAbs_int, dMax2_int, dMin2_int, dInt_int, dInt_bl, dIx_tup, dIx_lst, dIx_seq, dLen_tup, dLen_lst, dLen_seq, atI_0, atI_1, atI_2, atI_3, List.map_cons, List.map_nil, List.length_cons, List.length_nil, List.replicate_succ, List.replicate_zero, List.cons_append, List.nil_append, List.getElem?_cons_zero, List.getElem?_cons_succ, List.set_cons_zero, List.set_cons_succ, Nat.reduceAdd, Nat.reduceSub, Nat.zero_add, Nat.add_zero, Nat.sub_self, Nat.reduceMul, mostL_def, Nat.reduceLeDiff, Nat.reduceLT, ite_true, ite_false, if_true, if_false, ↓reduceIte, reduceIte, ↓br_ite, Bool.false_eq_true, reduceCtorEq, Bool.not_true, Bool.not_false, decide_true, decide_false, Int.cast_ofNat_Int, Int.reduceBEq, Int.reduceAdd, Int.reduceSub, Int.reduceMul, Int.reduceNeg, Int.reduceLT, Int.reduceLE, Int.reduceMod, Int.reduceDiv, sMeth1_ap, sSl_ap, sRev_ap, oNo_ap, oPart_ap, sDict0_ap, sSetL_ap, sLc2_ap, sStar_ap, is_short_ok sa sb sc sd]
theorem matrix_product_ok {j k : Nat} (x : Mx j a b c d) (y : Mx k p q r s) (hj : j ≤ 199) (hk : k ≤ 199) : f_matrix_product [T4 a b c d, T4 p q r s] h = .ok (T4 (a * p + b * r) (a * q + b * s) (c * p + d * r) (c * q + d * s)) h := by
  have x' := x.mono hj
  have y' := y.mono hk
  have l6 : ∀ {t : Int}, Sm 199 t → Sm 600 t := fun s => s.mono (by decide)
  have e1 := require_short_ok (h := h) x'.sp x'.sq x'.sr x'.ss
  have e2 := require_short_ok (h := h) y'.sp y'.sq y'.sr y'.ss
  have e3 := product_in_ok (h := h) (l6 x'.sp) (l6 x'.sq) (l6 x'.sr) (l6 x'.ss) (l6 y'.sp) (l6 y'.sq) (l6 y'.sr) (l6 y'.ss)
  unfold f_matrix_product; simp (maxSteps := 4000000) (dsimp := false) (disch := first | assumption | decide | omega | walk_at "cm") only [runDef_ap, sVar_ap, sC_ap, sBin_ap, sNeg_ap, sAnd_ap, sOr_ap, sNot_ap, sIf_ap, sTst_ap, qAnd_ap, qOr_ap, qNot_ap, qYes_ap, sChain_ap, sChain3_ap, sNil_ap, sCons_ap, sTup_ap, sLst_ap, sLstM_ap, sCall_ap, g1_ap, g2_ap, sFn_ap, sAsg_ap, gNm_ap, gTp_ap, gConsS_ap, gNilS_ap, sPar_ap, sPar3_ap, sRet_ap, sRetN_ap, sNx_ap, sBrk_ap, sCnt_ap, sSeq_ap, sIte_ap, sDrop_ap, sFrz_ap, sAug_ap, iRange1_ap, iRange2_ap, iSeq_ap, sFor_ap, sLc_ap, R.toG_ok, ↓R.bind_bnd, bnd_ok, ↓R.bd_bdn, bdn_ok, ↓R.toF_tof, tof_ok, ↓F.seq_sqn, sqn_nx, sqn_ret, sqn_cnt, sqn_brk, ↓F.turn_trn, trn_nx, trn_ret, trn_cnt, trn_brk, F.end_nx, F.end_ret, ↓br_true, br_true, ↓br_false, br_false, Dbr, Dneg, Dtst, opt_some, dAdd_int, dIAdd_int, dSub_int, dLt_int, dLe_int, dGt_int, dGe_int, dEq_int, dNe_int, dEq_bl, dNe_bl, dMul_cm, dMod_pos, dDiv_pos, dAbs_int, dMax2_int, dMin2_int, dInt_int, dInt_bl, dIx_tup, dIx_lst, dIx_seq, dLen_tup, dLen_lst, dLen_seq, atI_0, atI_1, atI_2, atI_3, List.map_cons, List.map_nil, List.length_cons, List.length_nil, List.replicate_succ, List.replicate_zero, List.cons_append, List.nil_append, List.getElem?_cons_zero, List.getElem?_cons_succ, List.set_cons_zero, List.set_cons_succ, Nat.reduceAdd, Nat.reduceSub, Nat.zero_add, Nat.add_zero, Nat.sub_self, Nat.reduceMul, mostL_def, Nat.reduceLeDiff, Nat.reduceLT, ite_true, ite_false, if_true, if_false, ↓reduceIte, reduceIte, ↓br_ite, Bool.false_eq_true, reduceCtorEq, Bool.not_true, Bool.not_false, decide_true, decide_false, Int.cast_ofNat_Int, Int.reduceBEq, Int.reduceAdd, Int.reduceSub, Int.reduceMul, Int.reduceNeg, Int.reduceLT, Int.reduceLE, Int.reduceMod, Int.reduceDiv, sMeth1_ap, sSl_ap, sRev_ap, oNo_ap, oPart_ap, sDict0_ap, sSetL_ap, sLc2_ap, sStar_ap, e1, e2, e3]
theorem matrix_back_ok {j : Nat} (x : Mx j a b c d) (hj : j ≤ 199) : f_matrix_back [T4 a b c d] h = .ok (T4 d (-b) (-c) a) h := by
  have x' := x.mono hj
  have l6 : ∀ {t : Int}, Sm 199 t → Sm 600 t := fun s => s.mono (by decide)
  have e1 := is_short_ok (h := h) x'.sp x'.sq x'.sr x'.ss
  have e2 := det_ok (h := h) (l6 x'.sp) (l6 x'.sq) (l6 x'.sr) (l6 x'.ss)
  have e3 : (a * d - b * c == 1) = true := beq_iff_eq.mpr x'.det
  unfold f_matrix_back; simp (maxSteps := 4000000) (dsimp := false) (disch := first | assumption | decide | omega | walk_at "cm") only [runDef_ap, sVar_ap, sC_ap, sBin_ap, sNeg_ap, sAnd_ap, sOr_ap, sNot_ap, sIf_ap, sTst_ap, qAnd_ap, qOr_ap, qNot_ap, qYes_ap, sChain_ap, sChain3_ap, sNil_ap, sCons_ap, sTup_ap, sLst_ap, sLstM_ap, sCall_ap, g1_ap, g2_ap, sFn_ap, sAsg_ap, gNm_ap, gTp_ap, gConsS_ap, gNilS_ap, sPar_ap, sPar3_ap, sRet_ap, sRetN_ap, sNx_ap, sBrk_ap, sCnt_ap, sSeq_ap, sIte_ap, sDrop_ap, sFrz_ap, sAug_ap, iRange1_ap, iRange2_ap, iSeq_ap, sFor_ap, sLc_ap, R.toG_ok, ↓R.bind_bnd, bnd_ok, ↓R.bd_bdn, bdn_ok, ↓R.toF_tof, tof_ok, ↓F.seq_sqn, sqn_nx, sqn_ret, sqn_cnt, sqn_brk, ↓F.turn_trn, trn_nx, trn_ret, trn_cnt, trn_brk, F.end_nx, F.end_ret, ↓br_true, br_true, ↓br_false, br_false, Dbr, Dneg, Dtst, opt_some, dAdd_int, dIAdd_int, dSub_int, dLt_int, dLe_int, dGt_int, dGe_int, dEq_int, dNe_int, dEq_bl, dNe_bl, dMul_cm, dMod_pos, dDiv_pos, dAbs_int, dMax2_int, dMin2_int, dInt_int, dInt_bl, dIx_tup, dIx_lst, dIx_seq, dLen_tup, dLen_lst, dLen_seq, atI_0, atI_1, atI_2, atI_3, List.map_cons, List.map_nil, List.length_cons, List.length_nil, List.replicate_succ, List.replicate_zero, List.cons_append, List.nil_append, List.getElem?_cons_zero, List.getElem?_cons_succ, List.set_cons_zero, List.set_cons_succ, Nat.reduceAdd, Nat.reduceSub, Nat.zero_add, Nat.add_zero, Nat.sub_self, Nat.reduceMul, mostL_def, Nat.reduceLeDiff, Nat.reduceLT, ite_true, ite_false, if_true, if_false, ↓reduceIte, reduceIte, ↓br_ite, Bool.false_eq_true, reduceCtorEq, Bool.not_true, Bool.not_false, decide_true, decide_false, Int.cast_ofNat_Int, Int.reduceBEq, Int.reduceAdd, Int.reduceSub, Int.reduceMul, Int.reduceNeg, Int.reduceLT, Int.reduceLE, Int.reduceMod, Int.reduceDiv, sMeth1_ap, sSl_ap, sRev_ap, oNo_ap, oPart_ap, sDict0_ap, sSetL_ap, sLc2_ap, sStar_ap, e1, e2, e3, back_in_ok]
theorem Mx.back {j : Nat} (x : Mx j a b c d) : Mx j d (-b) (-c) a := ⟨x.ss, x.sq.neg, x.sr.neg, x.sp, by have := x.det; grind⟩
end
/-! ### keepers -/
def wid (L q : Int) : Int := L / (Int.gcd L (q * q) : Int)
theorem wid_ok {L q : Int} (hL : 1 ≤ L) : 1 ≤ wid L q ∧ wid L q ≤ L ∧ wid L q * (Int.gcd L (q * q) : Int) = L := by
  have hg : 0 < Int.gcd L (q * q) := by have := gcd_ne (x := L) (y := q * q) (.inl (by omega)); omega
  have hd : (Int.gcd L (q * q) : Int) ∣ L := Int.gcd_dvd_left _ _
  have e : wid L q * (Int.gcd L (q * q) : Int) = L := Int.ediv_mul_cancel hd
  have h1 : 1 ≤ wid L q := by
    by_cases h : 1 ≤ wid L q
    · exact h
    · have : wid L q * (Int.gcd L (q * q) : Int) ≤ 0 := Int.mul_nonpos_of_nonpos_of_nonneg (by omega) (by omega)
      omega
  refine ⟨h1, ?_, e⟩
  have : wid L q * 1 ≤ wid L q * (Int.gcd L (q * q) : Int) := Int.mul_le_mul_of_nonneg_left (by omega) (by omega)
  omega
/-- the width is the least with L | q q w -/
theorem wid_dvd {L q x : Int} (hL : 1 ≤ L) : L ∣ q * q * x ↔ wid L q ∣ x := by
  obtain ⟨w1, w2, w3⟩ := wid_ok (q := q) hL
  have hg : (Int.gcd L (q * q) : Int) ≠ 0 := by have := gcd_ne (x := L) (y := q * q) (.inl (by omega)); omega
  obtain ⟨k, hk⟩ := Int.gcd_dvd_right L (q * q)
  have hc : Int.gcd (wid L q) k = 1 := by
    have h1 : Int.gcd (wid L q * (Int.gcd L (q * q) : Int)) (k * (Int.gcd L (q * q) : Int)) = Int.gcd L (q * q) := by
      rw [w3, Int.mul_comm k, ← hk]
    rw [Int.gcd_mul_right, Int.natAbs_natCast] at h1
    have h2 : 0 < Int.gcd L (q * q) := by omega
    exact Nat.eq_of_mul_eq_mul_right h2 (by rw [h1, Nat.one_mul])
  constructor
  · rintro ⟨m, hm⟩
    have e : (Int.gcd L (q * q) : Int) * (k * x) = (Int.gcd L (q * q) : Int) * (wid L q * m) := by
      calc (Int.gcd L (q * q) : Int) * (k * x) = (Int.gcd L (q * q) : Int) * k * x := by rw [Int.mul_assoc]
        _ = q * q * x := by rw [← hk]
        _ = L * m := hm
        _ = wid L q * (Int.gcd L (q * q) : Int) * m := by rw [w3]
        _ = (Int.gcd L (q * q) : Int) * (wid L q * m) := by grind
    have e2 := Int.eq_of_mul_eq_mul_left hg e
    exact dvd_cop ⟨m, e2⟩ hc
  · rintro ⟨m, rfl⟩
    refine ⟨k * m, ?_⟩
    calc q * q * (wid L q * m) = (Int.gcd L (q * q) : Int) * k * (wid L q * m) := by rw [← hk]
      _ = wid L q * (Int.gcd L (q * q) : Int) * (k * m) := by grind
      _ = L * (k * m) := by rw [w3]
section
variable {L p q : Int} {h : Ph}
theorem law_width_ok (hL : 1 ≤ L) (hL2 : L ≤ 100) (sq : Sm 200 q) : f__law_width [.int L, T2 p q] h = .ok (.int (wid L q)) h := by
  have e1 := gcdL_ok L (q * q) h (fu_lt ((sq.mul sq).mono (by decide)))
  have hg := gcd_ne (x := L) (y := q * q) (.inl (by omega))
  have sL : Sm 400 L := Sm.of_lt 400 (n := 101) (by omega) (by omega) (by decide +kernel)
  have sg := (gcd_sm sL (sq.mul sq)).mono (by decide : 400 ≤ 8000)
  unfold f__law_width wid; simp (maxSteps := 4000000) (dsimp := false) (disch := first | assumption | decide | omega | walk_at "cm") only [runDef_ap, sVar_ap, sC_ap, sBin_ap, sNeg_ap, sAnd_ap, sOr_ap, sNot_ap, sIf_ap, sTst_ap, qAnd_ap, qOr_ap, qNot_ap, qYes_ap, sChain_ap, sChain3_ap, sNil_ap, sCons_ap, sTup_ap, sLst_ap, sLstM_ap, sCall_ap, g1_ap, g2_ap, sFn_ap, sAsg_ap, gNm_ap, gTp_ap, gConsS_ap, gNilS_ap, sPar_ap, sPar3_ap, sRet_ap, sRetN_ap, sNx_ap, sBrk_ap, sCnt_ap, sSeq_ap, sIte_ap, sDrop_ap, sFrz_ap, sAug_ap, iRange1_ap, iRange2_ap, iSeq_ap, sFor_ap, sLc_ap, R.toG_ok, ↓R.bind_bnd, bnd_ok, ↓R.bd_bdn, bdn_ok, ↓R.toF_tof, tof_ok, ↓F.seq_sqn, sqn_nx, sqn_ret, sqn_cnt, sqn_brk, ↓F.turn_trn, trn_nx, trn_ret, trn_cnt, trn_brk, F.end_nx, F.end_ret, ↓br_true, br_true, ↓br_false, br_false, Dbr, Dneg, Dtst, opt_some, dAdd_int, dIAdd_int, dSub_int, dLt_int, dLe_int, dGt_int, dGe_int, dEq_int, dNe_int, dEq_bl, dNe_bl, dMul_cm, dMod_pos, dDiv_pos, dAbs_int, dMax2_int, dMin2_int, dInt_int, dInt_bl, dIx_tup, dIx_lst, dIx_seq, dLen_tup, dLen_lst, dLen_seq, atI_0, atI_1, atI_2, atI_3, List.map_cons, List.map_nil, List.length_cons, List.length_nil, List.replicate_succ, List.replicate_zero, List.cons_append, List.nil_append, List.getElem?_cons_zero, List.getElem?_cons_succ, List.set_cons_zero, List.set_cons_succ, Nat.reduceAdd, Nat.reduceSub, Nat.zero_add, Nat.add_zero, Nat.sub_self, Nat.reduceMul, mostL_def, Nat.reduceLeDiff, Nat.reduceLT, ite_true, ite_false, if_true, if_false, ↓reduceIte, reduceIte, ↓br_ite, Bool.false_eq_true, reduceCtorEq, Bool.not_true, Bool.not_false, decide_true, decide_false, Int.cast_ofNat_Int, Int.reduceBEq, Int.reduceAdd, Int.reduceSub, Int.reduceMul, Int.reduceNeg, Int.reduceLT, Int.reduceLE, Int.reduceMod, Int.reduceDiv, sMeth1_ap, sSl_ap, sRev_ap, oNo_ap, oPart_ap, sDict0_ap, sSetL_ap, sLc2_ap, sStar_ap, e1, dDiv_n]
theorem width_in_ok (hL : 1 ≤ L) (hL2 : L ≤ 100) (sq : Sm 200 q) : f_width_in [.int L, T2 p q] h = .ok (.int (wid L q)) h := by
  have e1 := common_ok (a := L) (h := h) ((sq.mul sq).mono (by decide : 200 + 200 ≤ 600))
  have hg := gcd_ne (x := L) (y := q * q) (.inl (by omega))
  have sL : Sm 400 L := Sm.of_lt 400 (n := 101) (by omega) (by omega) (by decide +kernel)
  have sg := (gcd_sm sL (sq.mul sq)).mono (by decide : 400 ≤ 8000)
  unfold f_width_in wid; simp (maxSteps := 4000000) (dsimp := false) (disch := first | assumption | decide | omega | walk_at "cm") only [runDef_ap, sVar_ap, sC_ap, sBin_ap, sNeg_ap, sAnd_ap, sOr_ap, sNot_ap, sIf_ap, sTst_ap, qAnd_ap, qOr_ap, qNot_ap, qYes_ap, sChain_ap, sChain3_ap, sNil_ap, sCons_ap, sTup_ap, sLst_ap, sLstM_ap, sCall_ap, g1_ap, g2_ap, sFn_ap, sAsg_ap, gNm_ap, gTp_ap, gConsS_ap, gNilS_ap, sPar_ap, sPar3_ap, sRet_ap, sRetN_ap, sNx_ap, sBrk_ap, sCnt_ap, sSeq_ap, sIte_ap, sDrop_ap, sFrz_ap, sAug_ap, iRange1_ap, iRange2_ap, iSeq_ap, sFor_ap, sLc_ap, R.toG_ok, ↓R.bind_bnd, bnd_ok, ↓R.bd_bdn, bdn_ok, ↓R.toF_tof, tof_ok, ↓F.seq_sqn, sqn_nx, sqn_ret, sqn_cnt, sqn_brk, ↓F.turn_trn, trn_nx, trn_ret, trn_cnt, trn_brk, F.end_nx, F.end_ret, ↓br_true, br_true, ↓br_false, br_false, Dbr, Dneg, Dtst, opt_some, dAdd_int, dIAdd_int, dSub_int, dLt_int, dLe_int, dGt_int, dGe_int, dEq_int, dNe_int, dEq_bl, dNe_bl, dMul_cm, dMod_pos, dDiv_pos, dAbs_int, dMax2_int, dMin2_int, dInt_int, dInt_bl, dIx_tup, dIx_lst, dIx_seq, dLen_tup, dLen_lst, dLen_seq, atI_0, atI_1, atI_2, atI_3, List.map_cons, List.map_nil, List.length_cons, List.length_nil, List.replicate_succ, List.replicate_zero, List.cons_append, List.nil_append, List.getElem?_cons_zero, List.getElem?_cons_succ, List.set_cons_zero, List.set_cons_succ, Nat.reduceAdd, Nat.reduceSub, Nat.zero_add, Nat.add_zero, Nat.sub_self, Nat.reduceMul, mostL_def, Nat.reduceLeDiff, Nat.reduceLT, ite_true, ite_false, if_true, if_false, ↓reduceIte, reduceIte, ↓br_ite, Bool.false_eq_true, reduceCtorEq, Bool.not_true, Bool.not_false, decide_true, decide_false, Int.cast_ofNat_Int, Int.reduceBEq, Int.reduceAdd, Int.reduceSub, Int.reduceMul, Int.reduceNeg, Int.reduceLT, Int.reduceLE, Int.reduceMod, Int.reduceDiv, sMeth1_ap, sSl_ap, sRev_ap, oNo_ap, oPart_ap, sDict0_ap, sSetL_ap, sLc2_ap, sStar_ap, e1, dDiv_n]
theorem keeper_ok (hL : 1 ≤ L) (hL2 : L ≤ 100) (f : Fs p q) : f_keeper_of [.int L, T2 p q] h = .ok (T4 (1 - p * q * wid L q) (p * p * wid L q) (-q * q * wid L q) (1 + p * q * wid L q)) h := by
  obtain ⟨sp, sq⟩ := f.sm
  have e1 := require_level_ok (h := h) hL hL2
  have e2 := require_fraction_ok (h := h) f
  have e3 := width_in_ok (p := p) (h := h) hL hL2 (sq.mono (by decide))
  obtain ⟨w1, w2, w3⟩ := wid_ok (q := q) hL
  have sw : Sm 10 (wid L q) := Sm.of_lt 10 (n := 101) (by omega) (by omega) (by decide)
  unfold f_keeper_of; simp (maxSteps := 4000000) (dsimp := false) (disch := first | assumption | decide | omega | walk_at "cm") only [runDef_ap, sVar_ap, sC_ap, sBin_ap, sNeg_ap, sAnd_ap, sOr_ap, sNot_ap, sIf_ap, sTst_ap, qAnd_ap, qOr_ap, qNot_ap, qYes_ap, sChain_ap, sChain3_ap, sNil_ap, sCons_ap, sTup_ap, sLst_ap, sLstM_ap, sCall_ap, g1_ap, g2_ap, sFn_ap, sAsg_ap, gNm_ap, gTp_ap, gConsS_ap, gNilS_ap, sPar_ap, sPar3_ap, sRet_ap, sRetN_ap, sNx_ap, sBrk_ap, sCnt_ap, sSeq_ap, sIte_ap, sDrop_ap, sFrz_ap, sAug_ap, iRange1_ap, iRange2_ap, iSeq_ap, sFor_ap, sLc_ap, R.toG_ok, ↓R.bind_bnd, bnd_ok, ↓R.bd_bdn, bdn_ok, ↓R.toF_tof, tof_ok, ↓F.seq_sqn, sqn_nx, sqn_ret, sqn_cnt, sqn_brk, ↓F.turn_trn, trn_nx, trn_ret, trn_cnt, trn_brk, F.end_nx, F.end_ret, ↓br_true, br_true, ↓br_false, br_false, Dbr, Dneg, Dtst, opt_some, dAdd_int, dIAdd_int, dSub_int, dLt_int, dLe_int, dGt_int, dGe_int, dEq_int, dNe_int, dEq_bl, dNe_bl, dMul_cm, dMod_pos, dDiv_pos, dAbs_int, dMax2_int, dMin2_int, dInt_int, dInt_bl, dIx_tup, dIx_lst, dIx_seq, dLen_tup, dLen_lst, dLen_seq, atI_0, atI_1, atI_2, atI_3, List.map_cons, List.map_nil, List.length_cons, List.length_nil, List.replicate_succ, List.replicate_zero, List.cons_append, List.nil_append, List.getElem?_cons_zero, List.getElem?_cons_succ, List.set_cons_zero, List.set_cons_succ, Nat.reduceAdd, Nat.reduceSub, Nat.zero_add, Nat.add_zero, Nat.sub_self, Nat.reduceMul, mostL_def, Nat.reduceLeDiff, Nat.reduceLT, ite_true, ite_false, if_true, if_false, ↓reduceIte, reduceIte, ↓br_ite, Bool.false_eq_true, reduceCtorEq, Bool.not_true, Bool.not_false, decide_true, decide_false, Int.cast_ofNat_Int, Int.reduceBEq, Int.reduceAdd, Int.reduceSub, Int.reduceMul, Int.reduceNeg, Int.reduceLT, Int.reduceLE, Int.reduceMod, Int.reduceDiv, sMeth1_ap, sSl_ap, sRev_ap, oNo_ap, oPart_ap, sDict0_ap, sSetL_ap, sLc2_ap, sStar_ap, e1, e2, e3, gTp_ap, gConsS_ap, gNilS_ap, sNeg_ap]
end
/-! ### powers of what keeps -/
theorem power_step {a b c d p q r s : Int} {o0 o1 o2 o3 o4 o5 o6 : Option D} {h : Ph} (sa : Sm 600 a) (sb : Sm 600 b) (sc : Sm 600 c) (sd : Sm 600 d) (sp : Sm 600 p) (sq : Sm 600 q) (sr : Sm 600 r) (ss : Sm 600 s) :
    l__law_matrix_power_1 [o0, o1, o2, o3, o4, o5, o6, some (T4 p q r s), some (T4 a b c d)] h = .nx [o0, o1, o2, o3, o4, o5, o6, some (T4 p q r s), some (T4 (a * p + b * r) (a * q + b * s) (c * p + d * r) (c * q + d * s))] h := by
  unfold l__law_matrix_power_1; simp (maxSteps := 4000000) (dsimp := false) (disch := first | assumption | decide | omega | walk_at "cm") only [runDef_ap, sVar_ap, sC_ap, sBin_ap, sNeg_ap, sAnd_ap, sOr_ap, sNot_ap, sIf_ap, sTst_ap, qAnd_ap, qOr_ap, qNot_ap, qYes_ap, sChain_ap, sChain3_ap, sNil_ap, sCons_ap, sTup_ap, sLst_ap, sLstM_ap, sCall_ap, g1_ap, g2_ap, sFn_ap, sAsg_ap, gNm_ap, gTp_ap, gConsS_ap, gNilS_ap, sPar_ap, sPar3_ap, sRet_ap, sRetN_ap, sNx_ap, sBrk_ap, sCnt_ap, sSeq_ap, sIte_ap, sDrop_ap, sFrz_ap, sAug_ap, iRange1_ap, iRange2_ap, iSeq_ap, sFor_ap, sLc_ap, R.toG_ok, ↓R.bind_bnd, bnd_ok, ↓R.bd_bdn, bdn_ok, ↓R.toF_tof, tof_ok, ↓F.seq_sqn, sqn_nx, sqn_ret, sqn_cnt, sqn_brk, ↓F.turn_trn, trn_nx, trn_ret, trn_cnt, trn_brk, F.end_nx, F.end_ret, ↓br_true, br_true, ↓br_false, br_false, Dbr, Dneg, Dtst, opt_some, dAdd_int, dIAdd_int, dSub_int, dLt_int, dLe_int, dGt_int, dGe_int, dEq_int, dNe_int, dEq_bl, dNe_bl, dMul_cm, dMod_pos, dDiv_pos, dAbs_int, dMax2_int, dMin2_int, dInt_int, dInt_bl, dIx_tup, dIx_lst, dIx_seq, dLen_tup, dLen_lst, dLen_seq, atI_0, atI_1, atI_2, atI_3, List.map_cons, List.map_nil, List.length_cons, List.length_nil, List.replicate_succ, List.replicate_zero, List.cons_append, List.nil_append, List.getElem?_cons_zero, List.getElem?_cons_succ, List.set_cons_zero, List.set_cons_succ, Nat.reduceAdd, Nat.reduceSub, Nat.zero_add, Nat.add_zero, Nat.sub_self, Nat.reduceMul, mostL_def, Nat.reduceLeDiff, Nat.reduceLT, ite_true, ite_false, if_true, if_false, ↓reduceIte, reduceIte, ↓br_ite, Bool.false_eq_true, reduceCtorEq, Bool.not_true, Bool.not_false, decide_true, decide_false, Int.cast_ofNat_Int, Int.reduceBEq, Int.reduceAdd, Int.reduceSub, Int.reduceMul, Int.reduceNeg, Int.reduceLT, Int.reduceLE, Int.reduceMod, Int.reduceDiv, sMeth1_ap, sSl_ap, sRev_ap, oNo_ap, oPart_ap, sDict0_ap, sSetL_ap, sLc2_ap, sStar_ap, times_ok sa sb sc sd sp sq sr ss]
theorem power_run {t P Q : Int} {N : Nat} {o0 o1 o2 o3 o4 o5 o6 : Option D} {h : Ph} (hN : N ≤ 1000) (h0 : t * t + P * Q = 0) (st : Sm 100 t) (sP : Sm 100 P) (sQ : Sm 100 Q) :
    ∃ o2', forGo (gNm 2) l__law_matrix_power_1 (rangeD 0 N) [o0, o1, o2, o3, o4, o5, o6, some (T4 (1 - t) P Q (1 + t)), some (T4 1 0 0 1)] h = .nx [o0, o1, o2', o3, o4, o5, o6, some (T4 (1 - t) P Q (1 + t)), some (T4 (1 - N * t) (N * P) (N * Q) (1 + N * t))] h := by
  obtain ⟨e', h', q1, q2⟩ := forGo_inv (g := gNm 2) (f := l__law_matrix_power_1) (fun j e h' => h' = h ∧ ∃ o2, e = [o0, o1, o2, o3, o4, o5, o6, some (T4 (1 - t) P Q (1 + t)), some (T4 (1 - j * t) (j * P) (j * Q) (1 + j * t))]) (rangeD 0 N) 0 [o0, o1, o2, o3, o4, o5, o6, some (T4 (1 - t) P Q (1 + t)), some (T4 1 0 0 1)] h ⟨rfl, o2, by simp⟩
    (fun x _ j e h' hj hj2 ⟨hh, o2, he⟩ => by
      subst hh
      subst he
      rw [rangeD_len] at hj2
      have s1 : Sm 101 1 := ⟨by decide⟩
      have sj : Sm 10 (j : Int) := Sm.of_lt 10 (n := 1024) (by omega) (by omega) (by decide)
      have k1 := power_step (o0 := o0) (o1 := o1) (o2 := some x) (o3 := o3) (o4 := o4) (o5 := o5) (o6 := o6) (h := h') (a := 1 - j * t) (b := j * P) (c := j * Q) (d := 1 + j * t) (p := 1 - t) (q := P) (r := Q) (s := 1 + t)
        (((s1.mono (by decide : 101 ≤ 110)).sub1 ((sj.mul st).mono (by decide))).mono (by decide)) ((sj.mul sP).mono (by decide)) ((sj.mul sQ).mono (by decide)) (((s1.mono (by decide : 101 ≤ 110)).add1 ((sj.mul st).mono (by decide))).mono (by decide))
        ((s1.sub1 (st.mono (by decide))).mono (by decide)) (sP.mono (by decide)) (sQ.mono (by decide)) ((s1.add1 (st.mono (by decide))).mono (by decide))
      refine ⟨_, _, _, _, rfl, k1, rfl, some x, ?_⟩
      have z1 : (1 - j * t) * (1 - t) + j * P * Q = 1 - ((j + 1 : Nat) : Int) * t := by rw [Int.natCast_add]; grind
      have z2 : (1 - j * t) * P + j * P * (1 + t) = ((j + 1 : Nat) : Int) * P := by rw [Int.natCast_add]; grind
      have z3 : j * Q * (1 - t) + (1 + j * t) * Q = ((j + 1 : Nat) : Int) * Q := by rw [Int.natCast_add]; grind
      have z4 : j * Q * P + (1 + j * t) * (1 + t) = 1 + ((j + 1 : Nat) : Int) * t := by rw [Int.natCast_add]; grind
      rw [z1, z2, z3, z4])
  obtain ⟨rfl, o2', he⟩ := q2
  rw [rangeD_len, Nat.zero_add] at he
  subst he
  exact ⟨o2', q1⟩
theorem matrix_power_ok {t P Q m : Int} {h : Ph} (hm : -1000 ≤ m ∧ m ≤ 1000) (h0 : t * t + P * Q = 0) (st : Sm 100 t) (sP : Sm 100 P) (sQ : Sm 100 Q) :
    f__law_matrix_power [T4 (1 - t) P Q (1 + t), .int m] h = .ok (T4 (1 - m * t) (m * P) (m * Q) (1 + m * t)) h := by
  by_cases hs : 0 ≤ m
  · obtain ⟨o2', e⟩ := power_run (N := m.toNat) (o0 := some (T4 (1 - t) P Q (1 + t))) (o1 := some (.int m)) (o2 := none) (o3 := some (.int (1 - t))) (o4 := some (.int P)) (o5 := some (.int Q)) (o6 := some (.int (1 + t))) (h := h) (by omega) h0 st sP sQ
    have hn : ((m.toNat : Nat) : Int) = m := by omega
    have ha : ¬ m < 0 := by omega
    rw [hn] at e
    unfold f__law_matrix_power
    simp (maxSteps := 4000000) (dsimp := false) (disch := first | assumption | decide | omega | walk_at "cm") only [runDef_ap, sVar_ap, sC_ap, sBin_ap, sNeg_ap, sAnd_ap, sOr_ap, sNot_ap, sIf_ap, sTst_ap, qAnd_ap, qOr_ap, qNot_ap, qYes_ap, sChain_ap, sChain3_ap, sNil_ap, sCons_ap, sTup_ap, sLst_ap, sLstM_ap, sCall_ap, g1_ap, g2_ap, sFn_ap, sAsg_ap, gNm_ap, gTp_ap, gConsS_ap, gNilS_ap, sPar_ap, sPar3_ap, sRet_ap, sRetN_ap, sNx_ap, sBrk_ap, sCnt_ap, sSeq_ap, sIte_ap, sDrop_ap, sFrz_ap, sAug_ap, iRange1_ap, iRange2_ap, iSeq_ap, sFor_ap, sLc_ap, R.toG_ok, ↓R.bind_bnd, bnd_ok, ↓R.bd_bdn, bdn_ok, ↓R.toF_tof, tof_ok, ↓F.seq_sqn, sqn_nx, sqn_ret, sqn_cnt, sqn_brk, ↓F.turn_trn, trn_nx, trn_ret, trn_cnt, trn_brk, F.end_nx, F.end_ret, ↓br_true, br_true, ↓br_false, br_false, Dbr, Dneg, Dtst, opt_some, dAdd_int, dIAdd_int, dSub_int, dLt_int, dLe_int, dGt_int, dGe_int, dEq_int, dNe_int, dEq_bl, dNe_bl, dMul_cm, dMod_pos, dDiv_pos, dAbs_int, dMax2_int, dMin2_int, dInt_int, dInt_bl, dIx_tup, dIx_lst, dIx_seq, dLen_tup, dLen_lst, dLen_seq, atI_0, atI_1, atI_2, atI_3, List.map_cons, List.map_nil, List.length_cons, List.length_nil, List.replicate_succ, List.replicate_zero, List.cons_append, List.nil_append, List.getElem?_cons_zero, List.getElem?_cons_succ, List.set_cons_zero, List.set_cons_succ, Nat.reduceAdd, Nat.reduceSub, Nat.zero_add, Nat.add_zero, Nat.sub_self, Nat.reduceMul, mostL_def, Nat.reduceLeDiff, Nat.reduceLT, ite_true, ite_false, if_true, if_false, ↓reduceIte, reduceIte, ↓br_ite, Bool.false_eq_true, reduceCtorEq, Bool.not_true, Bool.not_false, decide_true, decide_false, Int.cast_ofNat_Int, Int.reduceBEq, Int.reduceAdd, Int.reduceSub, Int.reduceMul, Int.reduceNeg, Int.reduceLT, Int.reduceLE, Int.reduceMod, Int.reduceDiv, sMeth1_ap, sSl_ap, sRev_ap, oNo_ap, oPart_ap, sDict0_ap, sSetL_ap, sLc2_ap, sStar_ap, gTp_ap, gConsS_ap, gNilS_ap, hs, ha, rng_ok, e]
  · obtain ⟨o2', e⟩ := power_run (t := -t) (P := -P) (Q := -Q) (N := (-m).toNat) (o0 := some (T4 (1 - t) P Q (1 + t))) (o1 := some (.int m)) (o2 := none) (o3 := some (.int (1 - t))) (o4 := some (.int P)) (o5 := some (.int Q)) (o6 := some (.int (1 + t))) (h := h) (by omega) (by grind) st.neg sP.neg sQ.neg
    have hn : (((-m).toNat : Nat) : Int) = -m := by omega
    have ha : m < 0 := by omega
    rw [hn, Int.sub_neg, Int.neg_mul_neg, Int.neg_mul_neg, Int.neg_mul_neg, ← Int.sub_eq_add_neg] at e
    unfold f__law_matrix_power
    simp (maxSteps := 4000000) (dsimp := false) (disch := first | assumption | decide | omega | walk_at "cm") only [runDef_ap, sVar_ap, sC_ap, sBin_ap, sNeg_ap, sAnd_ap, sOr_ap, sNot_ap, sIf_ap, sTst_ap, qAnd_ap, qOr_ap, qNot_ap, qYes_ap, sChain_ap, sChain3_ap, sNil_ap, sCons_ap, sTup_ap, sLst_ap, sLstM_ap, sCall_ap, g1_ap, g2_ap, sFn_ap, sAsg_ap, gNm_ap, gTp_ap, gConsS_ap, gNilS_ap, sPar_ap, sPar3_ap, sRet_ap, sRetN_ap, sNx_ap, sBrk_ap, sCnt_ap, sSeq_ap, sIte_ap, sDrop_ap, sFrz_ap, sAug_ap, iRange1_ap, iRange2_ap, iSeq_ap, sFor_ap, sLc_ap, R.toG_ok, ↓R.bind_bnd, bnd_ok, ↓R.bd_bdn, bdn_ok, ↓R.toF_tof, tof_ok, ↓F.seq_sqn, sqn_nx, sqn_ret, sqn_cnt, sqn_brk, ↓F.turn_trn, trn_nx, trn_ret, trn_cnt, trn_brk, F.end_nx, F.end_ret, ↓br_true, br_true, ↓br_false, br_false, Dbr, Dneg, Dtst, opt_some, dAdd_int, dIAdd_int, dSub_int, dLt_int, dLe_int, dGt_int, dGe_int, dEq_int, dNe_int, dEq_bl, dNe_bl, dMul_cm, dMod_pos, dDiv_pos, dAbs_int, dMax2_int, dMin2_int, dInt_int, dInt_bl, dIx_tup, dIx_lst, dIx_seq, dLen_tup, dLen_lst, dLen_seq, atI_0, atI_1, atI_2, atI_3, List.map_cons, List.map_nil, List.length_cons, List.length_nil, List.replicate_succ, List.replicate_zero, List.cons_append, List.nil_append, List.getElem?_cons_zero, List.getElem?_cons_succ, List.set_cons_zero, List.set_cons_succ, Nat.reduceAdd, Nat.reduceSub, Nat.zero_add, Nat.add_zero, Nat.sub_self, Nat.reduceMul, mostL_def, Nat.reduceLeDiff, Nat.reduceLT, ite_true, ite_false, if_true, if_false, ↓reduceIte, reduceIte, ↓br_ite, Bool.false_eq_true, reduceCtorEq, Bool.not_true, Bool.not_false, decide_true, decide_false, Int.cast_ofNat_Int, Int.reduceBEq, Int.reduceAdd, Int.reduceSub, Int.reduceMul, Int.reduceNeg, Int.reduceLT, Int.reduceLE, Int.reduceMod, Int.reduceDiv, sMeth1_ap, sSl_ap, sRev_ap, oNo_ap, oPart_ap, sDict0_ap, sSetL_ap, sLc2_ap, sStar_ap, gTp_ap, gConsS_ap, gNilS_ap, hs, ha, rng_ok, e, sNeg_ap]
end Pd

/-! Fz: reduced forms, plain -/
namespace Pd
/-- b within -a .. a -/
theorem form_min {a b c x y : Int} (h1 : -a ≤ b) (h2 : b ≤ a) (h3 : a ≤ c) (hy : y ≠ 0) : c ≤ a * x * x + b * x * y + c * y * y := by
  have a0 : 0 ≤ a := by omega
  -- signs away
  have key : ∀ X Y : Int, 0 ≤ X → 1 ≤ Y → c ≤ a * X * X - a * X * Y + c * Y * Y := by
    intro X Y hX hY
    by_cases hXY : Y ≤ X
    · have e1 : 0 ≤ a * X * (X - Y) := Int.mul_nonneg (Int.mul_nonneg a0 hX) (by omega)
      have e2 : 0 ≤ c * (Y * Y - 1) := Int.mul_nonneg (by omega) (by have : 1 * 1 ≤ Y * Y := Int.mul_le_mul hY hY (by omega) (by omega); omega)
      grind
    · have e1 : 0 ≤ (c - a) * (X * (Y - X)) := Int.mul_nonneg (by omega) (Int.mul_nonneg hX (by omega))
      have e3 : 1 * 1 ≤ (Y - X) * Y := Int.mul_le_mul (by omega) hY (by omega) (by omega)
      have e4 : 0 ≤ X * X := Int.mul_nonneg hX hX
      have e2 : 0 ≤ c * ((Y - X) * Y + X * X - 1) := Int.mul_nonneg (by omega) (by omega)
      grind
  have fin : ∀ X Y : Int, 0 ≤ X → 1 ≤ Y → ∀ x y : Int, (x = X ∨ x = -X) → (y = Y ∨ y = -Y) → c ≤ a * x * x + b * x * y + c * y * y := by
    intro X Y hX hY x y hx hy
    have k := key X Y hX hY
    have t1 : 0 ≤ (b + a) * (X * Y) := Int.mul_nonneg (by omega) (Int.mul_nonneg hX (by omega))
    have t2 : 0 ≤ (a - b) * (X * Y) := Int.mul_nonneg (by omega) (Int.mul_nonneg hX (by omega))
    clear key
    rcases hx with rfl | rfl <;> rcases hy with rfl | rfl <;> grind
  exact fin x.natAbs y.natAbs (by omega) (by omega) x y (by omega) (by omega)
theorem form_min0 {a b c x y : Int} (h1 : -a ≤ b) (h2 : b ≤ a) (h3 : a ≤ c) (hn : x ≠ 0 ∨ y ≠ 0) : a ≤ a * x * x + b * x * y + c * y * y := by
  by_cases hy : y = 0
  · subst hy
    have hx : x ≠ 0 := by omega
    have : 1 ≤ x * x := by have := sq_pos' hx; omega
    have e : 0 ≤ a * (x * x - 1) := Int.mul_nonneg (by omega) (by omega)
    grind
  · have := form_min (x := x) h1 h2 h3 hy
    omega
theorem lst_iff {a b c : Int} : Lst a b c = true ↔ (-a ≤ b ∧ b ≤ a ∧ a ≤ c) ∧ (0 ≤ b ∨ (b ≠ -a ∧ a ≠ c)) := by
  unfold Lst
  simp only [Bool.and_eq_true, Bool.or_eq_true, decide_eq_true_eq, Bool.not_eq_true', beq_eq_false_iff_ne, ne_eq]
/-- one reduced form alone is alike to a form -/
theorem reduced_one {a b c p q r s : Int} (ha : 0 < a) (hm : 0 < 4 * a * c - b * b) (l1 : Lst a b c = true) (d : p * s - q * r = 1) (l2 : Lst (lA a b c p r) (lB a b c p q r s) (lA a b c q s) = true) :
    lA a b c p r = a ∧ lB a b c p q r s = b ∧ lA a b c q s = c := by
  obtain ⟨⟨r1, r2, r3⟩, r4⟩ := lst_iff.mp l1
  obtain ⟨⟨s1, s2, s3⟩, s4⟩ := lst_iff.mp l2
  have hD := led_measure (a := a) (b := b) (c := c) d
  have i1 : lA (lA a b c p r) (lB a b c p q r s) (lA a b c q s) s (-r) = a := by
    rw [led_led]
    have e1 : p * s + q * (-r) = 1 := by grind
    have e2 : r * s + s * (-r) = 0 := by grind
    rw [e1, e2]; unfold lA; grind
  have i2 : lB (lA a b c p r) (lB a b c p q r s) (lA a b c q s) s (-q) (-r) p = b := by
    rw [led_ledB]
    have e1 : p * s + q * (-r) = 1 := by grind
    have e2 : r * s + s * (-r) = 0 := by grind
    have e3 : p * (-q) + q * p = 0 := by grind
    have e4 : r * (-q) + s * p = 1 := by grind
    rw [e1, e2, e3, e4]; unfold lB; grind
  have hpr : p ≠ 0 ∨ r ≠ 0 := by
    by_cases hp : p = 0
    · right; intro hr; subst hp; subst hr; simp at d
    · exact .inl hp
  have hsr : s ≠ 0 ∨ -r ≠ 0 := by
    by_cases hp : s = 0
    · right; intro hr; have : r = 0 := by omega
      subst hp; subst this; simp at d
    · exact .inl hp
  have A1 : a ≤ lA a b c p r := form_min0 r1 r2 r3 hpr
  generalize hA : lA a b c p r = A at *
  generalize hB : lB a b c p q r s = B at *
  generalize hC : lA a b c q s = C at *
  have A2 : A ≤ a := by rw [← i1]; exact form_min0 s1 s2 s3 hsr
  have eA : A = a := by omega
  subst eA
  have fin : B = b → C = c := fun e => by
    subst e
    have : 4 * A * (C - c) = 0 := by grind
    rcases Int.mul_eq_zero.mp this with h | h <;> omega
  by_cases hr : r = 0
  · subst hr
    have hps : p * s = 1 := by grind
    have eB : B = 2 * A * (p * q) + b := by rw [← hB]; unfold lB; grind
    have : p * q = 0 := by
      by_cases h0 : p * q = 0
      · exact h0
      · by_cases hpos : 0 < p * q
        · have : 0 ≤ A * (p * q - 1) := Int.mul_nonneg (by omega) (by omega)
          have h3 : 2 * A * (p * q) = 2 * (A * (p * q - 1)) + 2 * A := by grind
          have b1 : -A < b := by rcases r4 with h | h <;> omega
          omega
        · have : 0 ≤ A * (-(p * q) - 1) := Int.mul_nonneg (by omega) (by omega)
          have h3 : 2 * A * (p * q) = -(2 * (A * (-(p * q) - 1))) - 2 * A := by grind
          have b1 : -A < B := by rcases s4 with h | h <;> omega
          omega
    have e : B = b := by rw [eB, this]; simp
    exact ⟨rfl, e, fin e⟩
  · have c1 : c ≤ A := by rw [← hA]; exact form_min r1 r2 r3 hr
    have c2 : C ≤ A := by
      have := form_min (x := s) s1 s2 s3 (y := -r) (by omega)
      have i1' : A * s * s + B * s * -r + C * -r * -r = A := i1
      omega
    have ec : c = A := by omega
    have eC : C = A := by omega
    subst ec
    subst eC
    have b0 : 0 ≤ b := by rcases r4 with h | h <;> omega
    have b1 : 0 ≤ B := by rcases s4 with h | h <;> omega
    have hsq : (B - b) * (B + b) = 0 := by grind
    refine ⟨rfl, ?_, rfl⟩
    rcases Int.mul_eq_zero.mp hsq with h | h <;> omega
end Pd

/-! Pj: reducing forms -/
namespace Pd
open PySem L2 Evl
local macro_rules | `(tactic| walk_at "sm") => `(tactic| first | assumption | exact Sm.lit | exact Sm.mul (by walk_at "sm") (by walk_at "sm") | exact Sm.add (by walk_at "sm") (by walk_at "sm") | exact Sm.sub (by walk_at "sm") (by walk_at "sm") | exact Sm.neg (by walk_at "sm"))
local macro_rules | `(tactic| walk_at "cm") => `(tactic| ((with_reducible show CM _ _); first | assumption | exact CM.left (by decide) | exact CM.right (by decide) | exact CM.left (by omega) | exact CM.right (by omega) | exact CM.of (by walk_at "sm") (by walk_at "sm") (by decide)))
/-- a while by a measure -/
theorem while_run {c : ST} {f : SS} (P : Nat → Pe → Ph → Prop) (Q : Pe → Ph → Prop) (H : ∀ m e h, P m e h → (∃ h1, c e h = .ok false h1 ∧ Q e h1) ∨ ∃ h1 e2 h2 m2, c e h = .ok true h1 ∧ (f e h1 = .nx e2 h2 ∨ f e h1 = .cnt e2 h2) ∧ m2 < m ∧ P m2 e2 h2) :
    ∀ (m N : Nat) (e : Pe) (h : Ph), m < N → P m e h → ∃ e1 h1, sWhile N c f e h = .nx e1 h1 ∧ Q e1 h1 := by
  intro m
  induction m using Nat.strongRecOn with
  | _ m ih =>
    intro N e h hN p
    obtain ⟨N, rfl⟩ : ∃ M, N = M + 1 := ⟨N - 1, by omega⟩
    rcases H m e h p with ⟨h1, e1, q⟩ | ⟨h1, e2, h2, m2, e1, e3, lt, p2⟩
    · refine ⟨e, h1, ?_, q⟩
      unfold sWhile
      rw [e1]
      rfl
    · obtain ⟨e4, h4, q1, q2⟩ := ih m2 lt N e2 h2 (by omega) p2
      refine ⟨e4, h4, ?_, q2⟩
      unfold sWhile
      rw [e1]
      show (f e h1).turn _ = _
      rcases e3 with e3 | e3 <;> rw [e3] <;> exact q1
def f__law_bf_drawn : Fn := runDef 4 (sSeq (sPar 2 3 (sCons (sBin dAdd (sC (.int 1)) (sFn f__law_roll (sCons (sVar 0) (sCons (sVar 1) (sNil))))) (sCons (sBin dSub (sFn f__law_roll (sCons (sVar 0) (sCons (sBin dAdd (sBin dMul (sC (.int 2)) (sVar 1)) (sC (.int 1))) (sNil)))) (sVar 1)) (sNil)))) (sRet (sTup (sCons (sVar 2) (sCons (sVar 3) (sCons (sBin dAdd (sBin dAdd (sBin dDiv (sBin dMul (sVar 3) (sVar 3)) (sBin dMul (sC (.int 4)) (sVar 2))) (sC (.int 1))) (sFn f__law_roll (sCons (sVar 0) (sCons (sVar 1) (sNil))))) (sNil)))))))
def f__law_bf_is_least : Fn := runDef 4 (sSeq (sAsg (sVar 0) (gTp 3 (gConsS (gNm 1) (gConsS (gNm 2) (gConsS (gNm 3) (gNilS)))))) (sSeq (sIte (qOr (sTst (sBin dLt (sVar 2) (sNeg (sVar 1)))) (qOr (sTst (sBin dGt (sVar 2) (sVar 1))) (sTst (sBin dLt (sVar 3) (sVar 1))))) (sRet (sC (.bl false))) (sNx)) (sRet (sOr (sBin dGe (sVar 2) (sC (.int 0))) (sAnd (sBin dNe (sVar 2) (sNeg (sVar 1))) (sBin dNe (sVar 1) (sVar 3)))))))
def f__law_bf_product : Fn := runDef 10 (sSeq (sAsg (sVar 0) (gTp 4 (gConsS (gNm 2) (gConsS (gNm 3) (gConsS (gNm 4) (gConsS (gNm 5) (gNilS))))))) (sSeq (sAsg (sVar 1) (gTp 4 (gConsS (gNm 6) (gConsS (gNm 7) (gConsS (gNm 8) (gConsS (gNm 9) (gNilS))))))) (sRet (sTup (sCons (sBin dAdd (sBin dMul (sVar 2) (sVar 6)) (sBin dMul (sVar 3) (sVar 8))) (sCons (sBin dAdd (sBin dMul (sVar 2) (sVar 7)) (sBin dMul (sVar 3) (sVar 9))) (sCons (sBin dAdd (sBin dMul (sVar 4) (sVar 6)) (sBin dMul (sVar 5) (sVar 8))) (sCons (sBin dAdd (sBin dMul (sVar 4) (sVar 7)) (sBin dMul (sVar 5) (sVar 9))) (sNil)))))))))
def f__law_bf_led : Fn := runDef 11 (sSeq (sAsg (sVar 0) (gTp 3 (gConsS (gNm 2) (gConsS (gNm 3) (gConsS (gNm 4) (gNilS)))))) (sSeq (sAsg (sVar 1) (gTp 4 (gConsS (gNm 5) (gConsS (gNm 6) (gConsS (gNm 7) (gConsS (gNm 8) (gNilS))))))) (sSeq (sPar 9 10 (sCons (sBin dMul (sVar 3) (sBin dAdd (sBin dMul (sVar 5) (sVar 8)) (sBin dMul (sVar 6) (sVar 7)))) (sCons (sBin dAdd (sBin dMul (sBin dMul (sVar 2) (sVar 5)) (sVar 6)) (sBin dMul (sBin dMul (sVar 4) (sVar 7)) (sVar 8))) (sNil)))) (sRet (sTup (sCons (sBin dAdd (sBin dAdd (sBin dMul (sBin dMul (sVar 2) (sVar 5)) (sVar 5)) (sBin dMul (sBin dMul (sVar 3) (sVar 5)) (sVar 7))) (sBin dMul (sBin dMul (sVar 4) (sVar 7)) (sVar 7))) (sCons (sBin dAdd (sVar 9) (sBin dMul (sC (.int 2)) (sVar 10))) (sCons (sBin dAdd (sBin dAdd (sBin dMul (sBin dMul (sVar 2) (sVar 6)) (sVar 6)) (sBin dMul (sBin dMul (sVar 3) (sVar 6)) (sVar 8))) (sBin dMul (sBin dMul (sVar 4) (sVar 8)) (sVar 8))) (sNil)))))))))
def l__law_bf_least_1 : SS := sSeq (sIte (sTst (sFn f__law_bf_is_least (sCons (sVar 2) (sNil)))) (sBrk) (sNx)) (sSeq (sAsg (sBin dDiv (sBin dSub (sBin dIx (sVar 2) (sC (.int 0))) (sBin dIx (sVar 2) (sC (.int 1)))) (sBin dMul (sC (.int 2)) (sBin dIx (sVar 2) (sC (.int 0))))) (gNm 4)) (sSeq (sAsg (sIf (sTst (sBin dNe (sVar 4) (sC (.int 0)))) (sTup (sCons (sC (.int 1)) (sCons (sVar 4) (sCons (sC (.int 0)) (sCons (sC (.int 1)) (sNil)))))) (sTup (sCons (sC (.int 0)) (sCons (sC (.int (-1))) (sCons (sC (.int 1)) (sCons (sC (.int 0)) (sNil))))))) (gNm 5)) (sPar 2 3 (sCons (sFn f__law_bf_led (sCons (sVar 2) (sCons (sVar 5) (sNil)))) (sCons (sFn f__law_bf_product (sCons (sVar 3) (sCons (sVar 5) (sNil)))) (sNil))))))
def f__law_bf_least : Fn := runDef 6 (sSeq (sPar 2 3 (sCons (sVar 0) (sCons (sTup (sCons (sC (.int 1)) (sCons (sC (.int 0)) (sCons (sC (.int 0)) (sCons (sC (.int 1)) (sNil)))))) (sNil)))) (sSeq (sFor (iRange1 (sCons (sC (.int 4000)) (sNil))) (gNm 1) (l__law_bf_least_1)) (sRet (sTup (sCons (sVar 2) (sCons (sVar 3) (sNil)))))))
def f_product_of : Fn := runDef 10 (sSeq (sAsg (sVar 0) (gTp 4 (gConsS (gNm 2) (gConsS (gNm 3) (gConsS (gNm 4) (gConsS (gNm 5) (gNilS))))))) (sSeq (sAsg (sVar 1) (gTp 4 (gConsS (gNm 6) (gConsS (gNm 7) (gConsS (gNm 8) (gConsS (gNm 9) (gNilS))))))) (sRet (sTup (sCons (sBin dAdd (sBin dMul (sVar 2) (sVar 6)) (sBin dMul (sVar 3) (sVar 8))) (sCons (sBin dAdd (sBin dMul (sVar 2) (sVar 7)) (sBin dMul (sVar 3) (sVar 9))) (sCons (sBin dAdd (sBin dMul (sVar 4) (sVar 6)) (sBin dMul (sVar 5) (sVar 8))) (sCons (sBin dAdd (sBin dMul (sVar 4) (sVar 7)) (sBin dMul (sVar 5) (sVar 9))) (sNil)))))))))
def l_reducing_1 : SS := sSeq (sAsg (sVar 1) (gTp 3 (gConsS (gNm 3) (gConsS (gNm 4) (gConsS (gNm 5) (gNilS)))))) (sSeq (sIte (sTst (sChain dLt dLe (sNeg (sVar 3)) (sVar 4) (sVar 3))) (sAsg (sTup (sCons (sC (.int 0)) (sCons (sC (.int (-1))) (sCons (sC (.int 1)) (sCons (sC (.int 0)) (sNil)))))) (gNm 6)) (sAsg (sTup (sCons (sC (.int 1)) (sCons (sBin dDiv (sBin dSub (sVar 3) (sVar 4)) (sBin dMul (sC (.int 2)) (sVar 3))) (sCons (sC (.int 0)) (sCons (sC (.int 1)) (sNil)))))) (gNm 6))) (sPar 1 2 (sCons (sFn f_led_by (sCons (sVar 1) (sCons (sVar 6) (sNil)))) (sCons (sFn f_product_of (sCons (sVar 2) (sCons (sVar 6) (sNil)))) (sNil)))))
def f_reducing : Fn := runDef 7 (sSeq (sPar 1 2 (sCons (sVar 0) (sCons (sC (.tup [(.int (1)), (.int (0)), (.int (0)), (.int (1))])) (sNil)))) (sSeq (sWhile FU (qNot (sTst (sFn f_is_least (sCons (sVar 1) (sNil))))) (l_reducing_1)) (sRet (sTup (sCons (sVar 1) (sCons (sVar 2) (sNil)))))))
def f_reduced_form : Fn := runDef 1 (sSeq (sDrop (sFn f_require_form (sCons (sVar 0) (sNil)))) (sRet (sBin dIx (sFn f_reducing (sCons (sVar 0) (sNil))) (sC (.int 0)))))
def l__law_bf_matrix_1 : SS := sSeq (sAsg (sBin dAdd (sC (.int 1)) (sFn f__law_roll (sCons (sVar 0) (sCons (sC (.int 9)) (sNil))))) (gNm 4)) (sSeq (sAsg (sFn f__law_pick (sCons (sVar 0) (sCons (sLst (sCons (sTup (sCons (sC (.int 0)) (sCons (sC (.int (-1))) (sCons (sC (.int 1)) (sCons (sC (.int 0)) (sNil)))))) (sCons (sTup (sCons (sC (.int 1)) (sCons (sVar 4) (sCons (sC (.int 0)) (sCons (sC (.int 1)) (sNil)))))) (sCons (sTup (sCons (sC (.int 1)) (sCons (sC (.int 0)) (sCons (sNeg (sVar 4)) (sCons (sC (.int 1)) (sNil)))))) (sCons (sTup (sCons (sC (.int 1)) (sCons (sNeg (sVar 4)) (sCons (sC (.int 0)) (sCons (sC (.int 1)) (sNil)))))) (sNil)))))) (sNil)))) (gNm 5)) (sAsg (sFn f__law_bf_product (sCons (sVar 2) (sCons (sVar 5) (sNil)))) (gNm 2)))
def f__law_bf_matrix : Fn := runDef 6 (sSeq (sAsg (sTup (sCons (sC (.int 1)) (sCons (sC (.int 0)) (sCons (sC (.int 0)) (sCons (sC (.int 1)) (sNil)))))) (gNm 2)) (sSeq (sFor (iRange1 (sCons (sFn f__law_roll (sCons (sVar 0) (sCons (sBin dAdd (sVar 1) (sC (.int 1))) (sNil)))) (sNil))) (gNm 3) (l__law_bf_matrix_1)) (sRet (sVar 2))))
def f_reducing_matrix : Fn := runDef 1 (sSeq (sDrop (sFn f_require_form (sCons (sVar 0) (sNil)))) (sRet (sBin dIx (sFn f_reducing (sCons (sVar 0) (sNil))) (sC (.int 1)))))
def c__law_bf_keepers_1 : SE := sLc (iSeq (sVar 3)) (gNm 7) (sTst (sBin dEq (sBin dSub (sBin dMul (sVar 1) (sVar 7)) (sBin dMul (sVar 4) (sVar 5))) (sC (.int 1)))) (sTup (sCons (sVar 1) (sCons (sVar 4) (sCons (sVar 5) (sCons (sVar 7) (sNil)))))) [7]
def l__law_bf_keepers_2 : SS := sAsg (sBin dAdd (sVar 2) (c__law_bf_keepers_1)) (gNm 2)
def l__law_bf_keepers_3 : SS := sFor (iSeq (sVar 3)) (gNm 5) (l__law_bf_keepers_2)
def l__law_bf_keepers_4 : SS := sFor (iSeq (sVar 3)) (gNm 4) (l__law_bf_keepers_3)
def c__law_bf_keepers_5 : SE := sLc (iSeq (sVar 2)) (gNm 6) (sTst (sBin dEq (sFn f__law_bf_led (sCons (sVar 0) (sCons (sVar 6) (sNil)))) (sVar 0))) (sVar 6) [6]
def f__law_bf_keepers : Fn := runDef 8 (sSeq (sPar 2 3 (sCons (sLst (sNil)) (sCons (sLst (sCons (sC (.int (-1))) (sCons (sC (.int 0)) (sCons (sC (.int 1)) (sNil))))) (sNil)))) (sSeq (sFor (iSeq (sVar 3)) (gNm 1) (l__law_bf_keepers_4)) (sRet (c__law_bf_keepers_5))))
def f_is_reducing : Fn := runDef 2 (sSeq (sDrop (sFn f_require_form (sCons (sVar 0) (sNil)))) (sRet (sAnd (sFn f_is_turn (sCons (sVar 1) (sNil))) (sBin dEq (sFn f_led_by (sCons (sVar 0) (sCons (sVar 1) (sNil)))) (sBin dIx (sFn f_reducing (sCons (sVar 0) (sNil))) (sC (.int 0)))))))
theorem bf_least_ok {a b c : Int} {h : Ph} : f__law_bf_is_least [T3 a b c] h = .ok (.bl (Lst a b c)) h := by
  unfold f__law_bf_is_least Lst
  by_cases h1 : b < -a <;> by_cases h2 : a < b <;> by_cases h3 : c < a <;> by_cases h4 : 0 ≤ b <;> first | (exfalso; omega) | (
    have k1 : (-a ≤ b) = ¬ (b < -a) := by simp
    have k2 : (b ≤ a) = ¬ (a < b) := by simp
    have k3 : (a ≤ c) = ¬ (c < a) := by simp
    simp only [k1, k2, k3]
    first
    | (simp (maxSteps := 4000000) (dsimp := false) (disch := first | assumption | decide | omega | walk_at "cm") only [runDef_ap, sVar_ap, sC_ap, sBin_ap, sNeg_ap, sAnd_ap, sOr_ap, sNot_ap, sIf_ap, sTst_ap, qAnd_ap, qOr_ap, qNot_ap, qYes_ap, sChain_ap, sChain3_ap, sNil_ap, sCons_ap, sTup_ap, sLst_ap, sLstM_ap, sCall_ap, g1_ap, g2_ap, sFn_ap, sAsg_ap, gNm_ap, gTp_ap, gConsS_ap, gNilS_ap, sPar_ap, sPar3_ap, sRet_ap, sRetN_ap, sNx_ap, sBrk_ap, sCnt_ap, sSeq_ap, sIte_ap, sDrop_ap, sFrz_ap, sAug_ap, iRange1_ap, iRange2_ap, iSeq_ap, sFor_ap, sLc_ap, R.toG_ok, ↓R.bind_bnd, bnd_ok, ↓R.bd_bdn, bdn_ok, ↓R.toF_tof, tof_ok, ↓F.seq_sqn, sqn_nx, sqn_ret, sqn_cnt, sqn_brk, ↓F.turn_trn, trn_nx, trn_ret, trn_cnt, trn_brk, F.end_nx, F.end_ret, ↓br_true, br_true, ↓br_false, br_false, Dbr, Dneg, Dtst, opt_some, dAdd_int, dIAdd_int, dSub_int, dLt_int, dLe_int, dGt_int, dGe_int, dEq_int, dNe_int, dEq_bl, dNe_bl, dMul_cm, dMod_pos, dDiv_pos, dAbs_int, dMax2_int, dMin2_int, dInt_int, dInt_bl, dIx_tup, dIx_lst, dIx_seq, dLen_tup, dLen_lst, dLen_seq, atI_0, atI_1, atI_2, atI_3, List.map_cons, List.map_nil, List.length_cons, List.length_nil, List.replicate_succ, List.replicate_zero, List.cons_append, List.nil_append, List.getElem?_cons_zero, List.getElem?_cons_succ, List.set_cons_zero, List.set_cons_succ, Nat.reduceAdd, Nat.reduceSub, Nat.zero_add, Nat.add_zero, Nat.sub_self, Nat.reduceMul, mostL_def, Nat.reduceLeDiff, Nat.reduceLT, ite_true, ite_false, if_true, if_false, ↓reduceIte, reduceIte, ↓br_ite, Bool.false_eq_true, reduceCtorEq, Bool.not_true, Bool.not_false, decide_true, decide_false, Int.cast_ofNat_Int, Int.reduceBEq, Int.reduceAdd, Int.reduceSub, Int.reduceMul, Int.reduceNeg, Int.reduceLT, Int.reduceLE, Int.reduceMod, Int.reduceDiv, sMeth1_ap, sSl_ap, sRev_ap, oNo_ap, oPart_ap, sDict0_ap, sSetL_ap, sLc2_ap, sStar_ap, gTp_ap, gConsS_ap, gNilS_ap, sNeg_ap, h1, h2, h3, h4, it_bl, br_bl, it_and, br_and, it_or, br_or, not_true_eq_false, not_false_eq_true]; done) | (simp (maxSteps := 4000000) (dsimp := false) (disch := first | assumption | decide | omega | walk_at "cm") only [runDef_ap, sVar_ap, sC_ap, sBin_ap, sNeg_ap, sAnd_ap, sOr_ap, sNot_ap, sIf_ap, sTst_ap, qAnd_ap, qOr_ap, qNot_ap, qYes_ap, sChain_ap, sChain3_ap, sNil_ap, sCons_ap, sTup_ap, sLst_ap, sLstM_ap, sCall_ap, g1_ap, g2_ap, sFn_ap, sAsg_ap, gNm_ap, gTp_ap, gConsS_ap, gNilS_ap, sPar_ap, sPar3_ap, sRet_ap, sRetN_ap, sNx_ap, sBrk_ap, sCnt_ap, sSeq_ap, sIte_ap, sDrop_ap, sFrz_ap, sAug_ap, iRange1_ap, iRange2_ap, iSeq_ap, sFor_ap, sLc_ap, R.toG_ok, ↓R.bind_bnd, bnd_ok, ↓R.bd_bdn, bdn_ok, ↓R.toF_tof, tof_ok, ↓F.seq_sqn, sqn_nx, sqn_ret, sqn_cnt, sqn_brk, ↓F.turn_trn, trn_nx, trn_ret, trn_cnt, trn_brk, F.end_nx, F.end_ret, ↓br_true, br_true, ↓br_false, br_false, Dbr, Dneg, Dtst, opt_some, dAdd_int, dIAdd_int, dSub_int, dLt_int, dLe_int, dGt_int, dGe_int, dEq_int, dNe_int, dEq_bl, dNe_bl, dMul_cm, dMod_pos, dDiv_pos, dAbs_int, dMax2_int, dMin2_int, dInt_int, dInt_bl, dIx_tup, dIx_lst, dIx_seq, dLen_tup, dLen_lst, dLen_seq, atI_0, atI_1, atI_2, atI_3, List.map_cons, List.map_nil, List.length_cons, List.length_nil, List.replicate_succ, List.replicate_zero, List.cons_append, List.nil_append, List.getElem?_cons_zero, List.getElem?_cons_succ, List.set_cons_zero, List.set_cons_succ, Nat.reduceAdd, Nat.reduceSub, Nat.zero_add, Nat.add_zero, Nat.sub_self, Nat.reduceMul, mostL_def, Nat.reduceLeDiff, Nat.reduceLT, ite_true, ite_false, if_true, if_false, ↓reduceIte, reduceIte, ↓br_ite, Bool.false_eq_true, reduceCtorEq, Bool.not_true, Bool.not_false, decide_true, decide_false, Int.cast_ofNat_Int, Int.reduceBEq, Int.reduceAdd, Int.reduceSub, Int.reduceMul, Int.reduceNeg, Int.reduceLT, Int.reduceLE, Int.reduceMod, Int.reduceDiv, sMeth1_ap, sSl_ap, sRev_ap, oNo_ap, oPart_ap, sDict0_ap, sSetL_ap, sLc2_ap, sStar_ap, gTp_ap, gConsS_ap, gNilS_ap, sNeg_ap, h1, h2, h3, h4, it_bl, br_bl, it_and, br_and, it_or, br_or, not_true_eq_false, not_false_eq_true]; rfl))
theorem bf_product_ok {j k : Nat} {a b c d p q r s : Int} {h : Ph} (x : Mx j a b c d) (y : Mx k p q r s) (hj : j ≤ 600) (hk : k ≤ 600) : f__law_bf_product [T4 a b c d, T4 p q r s] h = .ok (T4 (a * p + b * r) (a * q + b * s) (c * p + d * r) (c * q + d * s)) h := by
  have x' := x.mono hj
  have y' := y.mono hk
  have e1 := x'.sp
  have e2 := x'.sq
  have e3 := x'.sr
  have e4 := x'.ss
  have e5 := y'.sp
  have e6 := y'.sq
  have e7 := y'.sr
  have e8 := y'.ss
  unfold f__law_bf_product; simp (maxSteps := 4000000) (dsimp := false) (disch := first | assumption | decide | omega | walk_at "cm") only [runDef_ap, sVar_ap, sC_ap, sBin_ap, sNeg_ap, sAnd_ap, sOr_ap, sNot_ap, sIf_ap, sTst_ap, qAnd_ap, qOr_ap, qNot_ap, qYes_ap, sChain_ap, sChain3_ap, sNil_ap, sCons_ap, sTup_ap, sLst_ap, sLstM_ap, sCall_ap, g1_ap, g2_ap, sFn_ap, sAsg_ap, gNm_ap, gTp_ap, gConsS_ap, gNilS_ap, sPar_ap, sPar3_ap, sRet_ap, sRetN_ap, sNx_ap, sBrk_ap, sCnt_ap, sSeq_ap, sIte_ap, sDrop_ap, sFrz_ap, sAug_ap, iRange1_ap, iRange2_ap, iSeq_ap, sFor_ap, sLc_ap, R.toG_ok, ↓R.bind_bnd, bnd_ok, ↓R.bd_bdn, bdn_ok, ↓R.toF_tof, tof_ok, ↓F.seq_sqn, sqn_nx, sqn_ret, sqn_cnt, sqn_brk, ↓F.turn_trn, trn_nx, trn_ret, trn_cnt, trn_brk, F.end_nx, F.end_ret, ↓br_true, br_true, ↓br_false, br_false, Dbr, Dneg, Dtst, opt_some, dAdd_int, dIAdd_int, dSub_int, dLt_int, dLe_int, dGt_int, dGe_int, dEq_int, dNe_int, dEq_bl, dNe_bl, dMul_cm, dMod_pos, dDiv_pos, dAbs_int, dMax2_int, dMin2_int, dInt_int, dInt_bl, dIx_tup, dIx_lst, dIx_seq, dLen_tup, dLen_lst, dLen_seq, atI_0, atI_1, atI_2, atI_3, List.map_cons, List.map_nil, List.length_cons, List.length_nil, List.replicate_succ, List.replicate_zero, List.cons_append, List.nil_append, List.getElem?_cons_zero, List.getElem?_cons_succ, List.set_cons_zero, List.set_cons_succ, Nat.reduceAdd, Nat.reduceSub, Nat.zero_add, Nat.add_zero, Nat.sub_self, Nat.reduceMul, mostL_def, Nat.reduceLeDiff, Nat.reduceLT, ite_true, ite_false, if_true, if_false, ↓reduceIte, reduceIte, ↓br_ite, Bool.false_eq_true, reduceCtorEq, Bool.not_true, Bool.not_false, decide_true, decide_false, Int.cast_ofNat_Int, Int.reduceBEq, Int.reduceAdd, Int.reduceSub, Int.reduceMul, Int.reduceNeg, Int.reduceLT, Int.reduceLE, Int.reduceMod, Int.reduceDiv, sMeth1_ap, sSl_ap, sRev_ap, oNo_ap, oPart_ap, sDict0_ap, sSetL_ap, sLc2_ap, sStar_ap, gTp_ap, gConsS_ap, gNilS_ap]
theorem bf_led_ok {a b c p q r s : Int} {h : Ph} (sa : Sm 600 a) (sb : Sm 600 b) (sc : Sm 600 c) (m : Mx 600 p q r s) : f__law_bf_led [T3 a b c, T4 p q r s] h = .ok (T3 (lA a b c p r) (lB a b c p q r s) (lA a b c q s)) h := by
  have sp := m.sp
  have sq := m.sq
  have sr := m.sr
  have ss := m.ss
  have e : b * (p * s + q * r) + 2 * (a * p * q + c * r * s) = lB a b c p q r s := by unfold lB; grind
  unfold f__law_bf_led; simp (maxSteps := 4000000) (dsimp := false) (disch := first | assumption | decide | omega | walk_at "cm") only [runDef_ap, sVar_ap, sC_ap, sBin_ap, sNeg_ap, sAnd_ap, sOr_ap, sNot_ap, sIf_ap, sTst_ap, qAnd_ap, qOr_ap, qNot_ap, qYes_ap, sChain_ap, sChain3_ap, sNil_ap, sCons_ap, sTup_ap, sLst_ap, sLstM_ap, sCall_ap, g1_ap, g2_ap, sFn_ap, sAsg_ap, gNm_ap, gTp_ap, gConsS_ap, gNilS_ap, sPar_ap, sPar3_ap, sRet_ap, sRetN_ap, sNx_ap, sBrk_ap, sCnt_ap, sSeq_ap, sIte_ap, sDrop_ap, sFrz_ap, sAug_ap, iRange1_ap, iRange2_ap, iSeq_ap, sFor_ap, sLc_ap, R.toG_ok, ↓R.bind_bnd, bnd_ok, ↓R.bd_bdn, bdn_ok, ↓R.toF_tof, tof_ok, ↓F.seq_sqn, sqn_nx, sqn_ret, sqn_cnt, sqn_brk, ↓F.turn_trn, trn_nx, trn_ret, trn_cnt, trn_brk, F.end_nx, F.end_ret, ↓br_true, br_true, ↓br_false, br_false, Dbr, Dneg, Dtst, opt_some, dAdd_int, dIAdd_int, dSub_int, dLt_int, dLe_int, dGt_int, dGe_int, dEq_int, dNe_int, dEq_bl, dNe_bl, dMul_cm, dMod_pos, dDiv_pos, dAbs_int, dMax2_int, dMin2_int, dInt_int, dInt_bl, dIx_tup, dIx_lst, dIx_seq, dLen_tup, dLen_lst, dLen_seq, atI_0, atI_1, atI_2, atI_3, List.map_cons, List.map_nil, List.length_cons, List.length_nil, List.replicate_succ, List.replicate_zero, List.cons_append, List.nil_append, List.getElem?_cons_zero, List.getElem?_cons_succ, List.set_cons_zero, List.set_cons_succ, Nat.reduceAdd, Nat.reduceSub, Nat.zero_add, Nat.add_zero, Nat.sub_self, Nat.reduceMul, mostL_def, Nat.reduceLeDiff, Nat.reduceLT, ite_true, ite_false, if_true, if_false, ↓reduceIte, reduceIte, ↓br_ite, Bool.false_eq_true, reduceCtorEq, Bool.not_true, Bool.not_false, decide_true, decide_false, Int.cast_ofNat_Int, Int.reduceBEq, Int.reduceAdd, Int.reduceSub, Int.reduceMul, Int.reduceNeg, Int.reduceLT, Int.reduceLE, Int.reduceMod, Int.reduceDiv, sMeth1_ap, sSl_ap, sRev_ap, oNo_ap, oPart_ap, sDict0_ap, sSetL_ap, sLc2_ap, sStar_ap, gTp_ap, gConsS_ap, gNilS_ap, e]
theorem drawn_ok {n : Nat} {h : Ph} {T : Int} (hd : Dc h n) (hT : 0 < T) (hb : T ≤ 1000000000) : ∃ a b c h', f__law_bf_drawn [.ref n, .int T] h = .ok (T3 a b c) h' ∧ Fm 62 a b c ∧ Dr n h h' := by
  have lg : ∀ {X : Int}, 0 < X → X < 4294967296 → X.natAbs.log2 < 9000 := fun h1 h2 => Nat.lt_of_le_of_lt (log_lt (k := 32) (by omega)) (by decide)
  obtain ⟨v, h1, e1, v0, v1, d1⟩ := roll_ok hd hT (lg hT (by omega))
  obtain ⟨w, h2, e2, w0, w1, d2⟩ := roll_ok (T := 2 * T + 1) d1.dc (by omega) (lg (by omega) (by omega))
  obtain ⟨u, h3, e3, u0, u1, d3⟩ := roll_ok d2.dc hT (lg hT (by omega))
  have hp : 0 < 4 * (1 + v) := by omega
  have hlg : (4 * (1 + v)).natAbs.log2 < 9000 := Nat.lt_of_le_of_lt (log_lt (k := 40) (by omega)) (by decide)
  refine ⟨1 + v, w - T, (w - T) * (w - T) / (4 * (1 + v)) + 1 + u, h3, ?_, ?_, (d1.trans d2).trans d3⟩
  · unfold f__law_bf_drawn
    simp (maxSteps := 4000000) (dsimp := false) (disch := first | assumption | decide | omega | walk_at "cm") only [runDef_ap, sVar_ap, sC_ap, sBin_ap, sNeg_ap, sAnd_ap, sOr_ap, sNot_ap, sIf_ap, sTst_ap, qAnd_ap, qOr_ap, qNot_ap, qYes_ap, sChain_ap, sChain3_ap, sNil_ap, sCons_ap, sTup_ap, sLst_ap, sLstM_ap, sCall_ap, g1_ap, g2_ap, sFn_ap, sAsg_ap, gNm_ap, gTp_ap, gConsS_ap, gNilS_ap, sPar_ap, sPar3_ap, sRet_ap, sRetN_ap, sNx_ap, sBrk_ap, sCnt_ap, sSeq_ap, sIte_ap, sDrop_ap, sFrz_ap, sAug_ap, iRange1_ap, iRange2_ap, iSeq_ap, sFor_ap, sLc_ap, R.toG_ok, ↓R.bind_bnd, bnd_ok, ↓R.bd_bdn, bdn_ok, ↓R.toF_tof, tof_ok, ↓F.seq_sqn, sqn_nx, sqn_ret, sqn_cnt, sqn_brk, ↓F.turn_trn, trn_nx, trn_ret, trn_cnt, trn_brk, F.end_nx, F.end_ret, ↓br_true, br_true, ↓br_false, br_false, Dbr, Dneg, Dtst, opt_some, dAdd_int, dIAdd_int, dSub_int, dLt_int, dLe_int, dGt_int, dGe_int, dEq_int, dNe_int, dEq_bl, dNe_bl, dMul_cm, dMod_pos, dDiv_pos, dAbs_int, dMax2_int, dMin2_int, dInt_int, dInt_bl, dIx_tup, dIx_lst, dIx_seq, dLen_tup, dLen_lst, dLen_seq, atI_0, atI_1, atI_2, atI_3, List.map_cons, List.map_nil, List.length_cons, List.length_nil, List.replicate_succ, List.replicate_zero, List.cons_append, List.nil_append, List.getElem?_cons_zero, List.getElem?_cons_succ, List.set_cons_zero, List.set_cons_succ, Nat.reduceAdd, Nat.reduceSub, Nat.zero_add, Nat.add_zero, Nat.sub_self, Nat.reduceMul, mostL_def, Nat.reduceLeDiff, Nat.reduceLT, ite_true, ite_false, if_true, if_false, ↓reduceIte, reduceIte, ↓br_ite, Bool.false_eq_true, reduceCtorEq, Bool.not_true, Bool.not_false, decide_true, decide_false, Int.cast_ofNat_Int, Int.reduceBEq, Int.reduceAdd, Int.reduceSub, Int.reduceMul, Int.reduceNeg, Int.reduceLT, Int.reduceLE, Int.reduceMod, Int.reduceDiv, sMeth1_ap, sSl_ap, sRev_ap, oNo_ap, oPart_ap, sDict0_ap, sSetL_ap, sLc2_ap, sStar_ap, e1, e2, e3]
  · have sb : Sm 31 (w - T) := Sm.of_lt 31 (n := 2000000000) (by omega) (by omega) (by decide)
    have hbb : (w - T) * (w - T) < 4611686018427387904 := by have := (sb.mul sb).lt; have e : (2 : Nat) ^ (31 + 31) = 4611686018427387904 := rfl; omega
    have hb0 := sq_nonneg' (w - T)
    have hdm := Int.mul_ediv_add_emod ((w - T) * (w - T)) (4 * (1 + v))
    have hm1 := Int.emod_lt_of_pos ((w - T) * (w - T)) hp
    have hm0 := Int.emod_nonneg ((w - T) * (w - T)) (Int.ne_of_gt hp)
    have hq0 : 0 ≤ (w - T) * (w - T) / (4 * (1 + v)) := Int.ediv_nonneg hb0 (by omega)
    have hq1 : (w - T) * (w - T) / (4 * (1 + v)) * 4 ≤ (w - T) * (w - T) := by
      have k : 0 ≤ v * ((w - T) * (w - T) / (4 * (1 + v))) := Int.mul_nonneg v0 hq0
      have : 4 * (1 + v) * ((w - T) * (w - T) / (4 * (1 + v))) = 4 * ((w - T) * (w - T) / (4 * (1 + v))) + 4 * (v * ((w - T) * (w - T) / (4 * (1 + v)))) := by grind
      omega
    generalize hq : (w - T) * (w - T) / (4 * (1 + v)) = Q at *
    refine ⟨Sm.of_lt 62 (n := 2000000000) (by omega) (by omega) (by decide), sb.mono (by decide), Sm.of_lt 62 (n := 4611686018427387904) (by omega) (by omega) (by decide), by omega, ?_⟩
    have k : 0 ≤ (1 + v) * u := Int.mul_nonneg (by omega) u0
    have : 4 * (1 + v) * (Q + 1 + u) = 4 * (1 + v) * Q + 4 * (1 + v) + 4 * ((1 + v) * u) := by grind
    omega
/-- one more part of a matrix -/
theorem matrix_step {n : Nat} {h : Ph} {k : Nat} {p q r s : Int} {z : Int} {o3 o4 o5 : Option D} (hd : Dc h n) (x : Mx k p q r s) (hk : k ≤ 200) : ∃ a b c d o4' o5' h', l__law_bf_matrix_1 [some (.ref n), some (.int z), some (T4 p q r s), o3, o4, o5] h = .nx [some (.ref n), some (.int z), some (T4 a b c d), o3, o4', o5'] h' ∧ Mx (k + 5) a b c d ∧ Dr n h h' := by
  obtain ⟨v, h1, e1, v0, v1, d1⟩ := roll_ok (T := 9) hd (by decide) (by decide)
  have sv : Sm 4 (1 + v) := Sm.of_lt 4 (n := 11) (by omega) (by omega) (by decide)
  obtain ⟨d, h2, e2, md, d2⟩ := pick_ok (xs := [T4 0 (-1) 1 0, T4 1 (1 + v) 0 1, T4 1 0 (-(1 + v)) 1, T4 1 (-(1 + v)) 0 1]) d1.dc (by simp) (by simp)
  have : ∃ a b c t, d = T4 a b c t ∧ Mx 4 a b c t := by
    have s0 : Sm 4 0 := ⟨by decide⟩
    have s1 : Sm 4 1 := ⟨by decide⟩
    have s2 : Sm 4 (-1) := ⟨by decide⟩
    have sn := sv.neg
    simp only [List.mem_cons, List.not_mem_nil, or_false] at md
    rcases md with rfl | rfl | rfl | rfl
    · exact ⟨_, _, _, _, rfl, s0, s2, s1, s0, by decide⟩
    · exact ⟨_, _, _, _, rfl, s1, sv, s0, s1, by simp⟩
    · exact ⟨_, _, _, _, rfl, s1, s0, sn, s1, by simp⟩
    · exact ⟨_, _, _, _, rfl, s1, sn, s0, s1, by simp⟩
  obtain ⟨a, b, c, t, rfl, y⟩ := this
  refine ⟨p * a + q * c, p * b + q * t, r * a + s * c, r * b + s * t, some (.int (1 + v)), some (T4 a b c t), h2, ?_, (x.prod y).mono (by omega), d1.trans d2⟩
  have e3 := bf_product_ok (h := h2) x y (by omega) (by omega)
  unfold l__law_bf_matrix_1
  simp (maxSteps := 4000000) (dsimp := false) (disch := first | assumption | decide | omega | walk_at "cm") only [runDef_ap, sVar_ap, sC_ap, sBin_ap, sNeg_ap, sAnd_ap, sOr_ap, sNot_ap, sIf_ap, sTst_ap, qAnd_ap, qOr_ap, qNot_ap, qYes_ap, sChain_ap, sChain3_ap, sNil_ap, sCons_ap, sTup_ap, sLst_ap, sLstM_ap, sCall_ap, g1_ap, g2_ap, sFn_ap, sAsg_ap, gNm_ap, gTp_ap, gConsS_ap, gNilS_ap, sPar_ap, sPar3_ap, sRet_ap, sRetN_ap, sNx_ap, sBrk_ap, sCnt_ap, sSeq_ap, sIte_ap, sDrop_ap, sFrz_ap, sAug_ap, iRange1_ap, iRange2_ap, iSeq_ap, sFor_ap, sLc_ap, R.toG_ok, ↓R.bind_bnd, bnd_ok, ↓R.bd_bdn, bdn_ok, ↓R.toF_tof, tof_ok, ↓F.seq_sqn, sqn_nx, sqn_ret, sqn_cnt, sqn_brk, ↓F.turn_trn, trn_nx, trn_ret, trn_cnt, trn_brk, F.end_nx, F.end_ret, ↓br_true, br_true, ↓br_false, br_false, Dbr, Dneg, Dtst, opt_some, dAdd_int, dIAdd_int, dSub_int, dLt_int, dLe_int, dGt_int, dGe_int, dEq_int, dNe_int, dEq_bl, dNe_bl, dMul_cm, dMod_pos, dDiv_pos, dAbs_int, dMax2_int, dMin2_int, dInt_int, dInt_bl, dIx_tup, dIx_lst, dIx_seq, dLen_tup, dLen_lst, dLen_seq, atI_0, atI_1, atI_2, atI_3, List.map_cons, List.map_nil, List.length_cons, List.length_nil, List.replicate_succ, List.replicate_zero, List.cons_append, List.nil_append, List.getElem?_cons_zero, List.getElem?_cons_succ, List.set_cons_zero, List.set_cons_succ, Nat.reduceAdd, Nat.reduceSub, Nat.zero_add, Nat.add_zero, Nat.sub_self, Nat.reduceMul, mostL_def, Nat.reduceLeDiff, Nat.reduceLT, ite_true, ite_false, if_true, if_false, ↓reduceIte, reduceIte, ↓br_ite, Bool.false_eq_true, reduceCtorEq, Bool.not_true, Bool.not_false, decide_true, decide_false, Int.cast_ofNat_Int, Int.reduceBEq, Int.reduceAdd, Int.reduceSub, Int.reduceMul, Int.reduceNeg, Int.reduceLT, Int.reduceLE, Int.reduceMod, Int.reduceDiv, sMeth1_ap, sSl_ap, sRev_ap, oNo_ap, oPart_ap, sDict0_ap, sSetL_ap, sLc2_ap, sStar_ap, e1, e2, e3, sNeg_ap, Int.reduceNeg]
theorem matrix_ok {z : Int} {n : Nat} {h : Ph} (hd : Dc h n) (z0 : 0 ≤ z) (z1 : z ≤ 30) : ∃ a b c d h', f__law_bf_matrix [.ref n, .int z] h = .ok (T4 a b c d) h' ∧ Mx (1 + 5 * z.toNat) a b c d ∧ Dr n h h' := by
  obtain ⟨v, h1, e1, v0, v1, d1⟩ := roll_ok (T := z + 1) hd (by omega) (Nat.lt_of_le_of_lt (log_lt (k := 32) (by omega)) (by decide))
  have P0 : Mx 1 1 0 0 1 := ⟨⟨by decide⟩, ⟨by decide⟩, ⟨by decide⟩, ⟨by decide⟩, by decide⟩
  obtain ⟨e', h', q1, q2⟩ := forGo_inv (g := gNm 3) (f := l__law_bf_matrix_1) (fun j e h' => j ≤ z.toNat ∧ ∃ a b c d o3 o4 o5, e = [some (.ref n), some (.int z), some (T4 a b c d), o3, o4, o5] ∧ Mx (1 + 5 * j) a b c d ∧ Dr n h h') (rangeD 0 v.toNat) 0 [some (.ref n), some (.int z), some (T4 1 0 0 1), none, none, none] h1 ⟨by omega, 1, 0, 0, 1, none, none, none, rfl, P0, d1⟩
    (fun x hx j e h2 hj hj2 ⟨_, a, b, c, d, o3, o4, o5, he, m, dr⟩ => by
      rw [rangeD_len] at hj2
      subst he
      obtain ⟨a', b', c', d', o4', o5', h3, s1, s2, s3⟩ := matrix_step (o3 := some x) (o4 := o4) (o5 := o5) dr.dc m (by omega)
      exact ⟨_, _, _, _, rfl, s1, by omega, a', b', c', d', some x, o4', o5', rfl, s2.mono (by omega), dr.trans s3⟩)
  obtain ⟨_, a, b, c, d, o3, o4, o5, he, m, dr⟩ := q2
  rw [rangeD_len] at m
  subst he
  refine ⟨a, b, c, d, h', ?_, m.mono (by omega), dr⟩
  unfold f__law_bf_matrix
  simp (maxSteps := 4000000) (dsimp := false) (disch := first | assumption | decide | omega | walk_at "cm") only [runDef_ap, sVar_ap, sC_ap, sBin_ap, sNeg_ap, sAnd_ap, sOr_ap, sNot_ap, sIf_ap, sTst_ap, qAnd_ap, qOr_ap, qNot_ap, qYes_ap, sChain_ap, sChain3_ap, sNil_ap, sCons_ap, sTup_ap, sLst_ap, sLstM_ap, sCall_ap, g1_ap, g2_ap, sFn_ap, sAsg_ap, gNm_ap, gTp_ap, gConsS_ap, gNilS_ap, sPar_ap, sPar3_ap, sRet_ap, sRetN_ap, sNx_ap, sBrk_ap, sCnt_ap, sSeq_ap, sIte_ap, sDrop_ap, sFrz_ap, sAug_ap, iRange1_ap, iRange2_ap, iSeq_ap, sFor_ap, sLc_ap, R.toG_ok, ↓R.bind_bnd, bnd_ok, ↓R.bd_bdn, bdn_ok, ↓R.toF_tof, tof_ok, ↓F.seq_sqn, sqn_nx, sqn_ret, sqn_cnt, sqn_brk, ↓F.turn_trn, trn_nx, trn_ret, trn_cnt, trn_brk, F.end_nx, F.end_ret, ↓br_true, br_true, ↓br_false, br_false, Dbr, Dneg, Dtst, opt_some, dAdd_int, dIAdd_int, dSub_int, dLt_int, dLe_int, dGt_int, dGe_int, dEq_int, dNe_int, dEq_bl, dNe_bl, dMul_cm, dMod_pos, dDiv_pos, dAbs_int, dMax2_int, dMin2_int, dInt_int, dInt_bl, dIx_tup, dIx_lst, dIx_seq, dLen_tup, dLen_lst, dLen_seq, atI_0, atI_1, atI_2, atI_3, List.map_cons, List.map_nil, List.length_cons, List.length_nil, List.replicate_succ, List.replicate_zero, List.cons_append, List.nil_append, List.getElem?_cons_zero, List.getElem?_cons_succ, List.set_cons_zero, List.set_cons_succ, Nat.reduceAdd, Nat.reduceSub, Nat.zero_add, Nat.add_zero, Nat.sub_self, Nat.reduceMul, mostL_def, Nat.reduceLeDiff, Nat.reduceLT, ite_true, ite_false, if_true, if_false, ↓reduceIte, reduceIte, ↓br_ite, Bool.false_eq_true, reduceCtorEq, Bool.not_true, Bool.not_false, decide_true, decide_false, Int.cast_ofNat_Int, Int.reduceBEq, Int.reduceAdd, Int.reduceSub, Int.reduceMul, Int.reduceNeg, Int.reduceLT, Int.reduceLE, Int.reduceMod, Int.reduceDiv, sMeth1_ap, sSl_ap, sRev_ap, oNo_ap, oPart_ap, sDict0_ap, sSetL_ap, sLc2_ap, sStar_ap, rng_ok, e1, q1]
/-! ### reducing -/
theorem product_of_ok {j k : Nat} {a b c d p q r s : Int} {h : Ph} (x : Mx j a b c d) (y : Mx k p q r s) (hj : j ≤ 600) (hk : k ≤ 600) : f_product_of [T4 a b c d, T4 p q r s] h = .ok (T4 (a * p + b * r) (a * q + b * s) (c * p + d * r) (c * q + d * s)) h := by
  have x' := x.mono hj
  have y' := y.mono hk
  have e1 := x'.sp
  have e2 := x'.sq
  have e3 := x'.sr
  have e4 := x'.ss
  have e5 := y'.sp
  have e6 := y'.sq
  have e7 := y'.sr
  have e8 := y'.ss
  unfold f_product_of; simp (maxSteps := 4000000) (dsimp := false) (disch := first | assumption | decide | omega | walk_at "cm") only [runDef_ap, sVar_ap, sC_ap, sBin_ap, sNeg_ap, sAnd_ap, sOr_ap, sNot_ap, sIf_ap, sTst_ap, qAnd_ap, qOr_ap, qNot_ap, qYes_ap, sChain_ap, sChain3_ap, sNil_ap, sCons_ap, sTup_ap, sLst_ap, sLstM_ap, sCall_ap, g1_ap, g2_ap, sFn_ap, sAsg_ap, gNm_ap, gTp_ap, gConsS_ap, gNilS_ap, sPar_ap, sPar3_ap, sRet_ap, sRetN_ap, sNx_ap, sBrk_ap, sCnt_ap, sSeq_ap, sIte_ap, sDrop_ap, sFrz_ap, sAug_ap, iRange1_ap, iRange2_ap, iSeq_ap, sFor_ap, sLc_ap, R.toG_ok, ↓R.bind_bnd, bnd_ok, ↓R.bd_bdn, bdn_ok, ↓R.toF_tof, tof_ok, ↓F.seq_sqn, sqn_nx, sqn_ret, sqn_cnt, sqn_brk, ↓F.turn_trn, trn_nx, trn_ret, trn_cnt, trn_brk, F.end_nx, F.end_ret, ↓br_true, br_true, ↓br_false, br_false, Dbr, Dneg, Dtst, opt_some, dAdd_int, dIAdd_int, dSub_int, dLt_int, dLe_int, dGt_int, dGe_int, dEq_int, dNe_int, dEq_bl, dNe_bl, dMul_cm, dMod_pos, dDiv_pos, dAbs_int, dMax2_int, dMin2_int, dInt_int, dInt_bl, dIx_tup, dIx_lst, dIx_seq, dLen_tup, dLen_lst, dLen_seq, atI_0, atI_1, atI_2, atI_3, List.map_cons, List.map_nil, List.length_cons, List.length_nil, List.replicate_succ, List.replicate_zero, List.cons_append, List.nil_append, List.getElem?_cons_zero, List.getElem?_cons_succ, List.set_cons_zero, List.set_cons_succ, Nat.reduceAdd, Nat.reduceSub, Nat.zero_add, Nat.add_zero, Nat.sub_self, Nat.reduceMul, mostL_def, Nat.reduceLeDiff, Nat.reduceLT, ite_true, ite_false, if_true, if_false, ↓reduceIte, reduceIte, ↓br_ite, Bool.false_eq_true, reduceCtorEq, Bool.not_true, Bool.not_false, decide_true, decide_false, Int.cast_ofNat_Int, Int.reduceBEq, Int.reduceAdd, Int.reduceSub, Int.reduceMul, Int.reduceNeg, Int.reduceLT, Int.reduceLE, Int.reduceMod, Int.reduceDiv, sMeth1_ap, sSl_ap, sRev_ap, oNo_ap, oPart_ap, sDict0_ap, sSetL_ap, sLc2_ap, sStar_ap, gTp_ap, gConsS_ap, gNilS_ap]
theorem Sm.of_sq {m : Nat} {x : Int} (h : x * x < (2 ^ (2 * m) : Nat)) : Sm m x := ⟨by
  have e : ((x.natAbs * x.natAbs : Nat) : Int) = x * x := Int.natAbs_mul_self
  have h2 : x.natAbs * x.natAbs < 2 ^ m * 2 ^ m := by
    rw [← Nat.pow_add, show m + m = 2 * m by omega]
    omega
  exact Nat.lt_of_not_le fun g => absurd (Nat.mul_le_mul g g) (by omega)⟩
structure Rst (k : Nat) (a b c A B C p q r s : Int) : Prop where
  eA : lA a b c p r = A
  eB : lB a b c p q r s = B
  eC : lA a b c q s = C
  det : p * s - q * r = 1
  pos : 0 < A
  le : A ≤ a
  sB : Sm k B
theorem Rst.mea {k : Nat} {a b c A B C p q r s : Int} (x : Rst k a b c A B C p q r s) : 4 * A * C - B * B = 4 * a * c - b * b := by
  rw [← x.eA, ← x.eB, ← x.eC]; exact led_measure x.det
theorem Rst.fm {k : Nat} {a b c A B C p q r s : Int} (f : Fm k a b c) (x : Rst k a b c A B C p q r s) : Fm (2 * k + 3) A B C := by
  have hm := x.mea
  have hp := x.pos
  have hle := x.le
  have h1 := f.sa.lt
  have sD : Sm (2 * k + 2) (4 * a * c - b * b) := ⟨by
    have h2 := f.mea
    have h3 := (f.sa.mul f.sc).lt
    have e : (2 : Nat) ^ (2 * k + 2) = 4 * 2 ^ (k + k) := by rw [show 2 * k + 2 = (k + k) + 2 by omega, Nat.pow_add]; omega
    have e4 : 4 * a * c = 4 * (a * c) := Int.mul_assoc 4 a c
    have := sq_nonneg' b
    omega⟩
  have sBB := (x.sB.mul x.sB).lt
  have h4 := f.mea
  have hBB := sq_nonneg' B
  have hC : 0 < C := by
    have : 0 < 4 * A * C := by omega
    exact Int.pos_of_mul_pos_right this (by omega)
  have hAC : C ≤ A * C := by
    have : 0 ≤ (A - 1) * C := Int.mul_nonneg (by omega) (by omega)
    grind
  refine ⟨⟨?_⟩, x.sB.mono (by omega), ⟨?_⟩, hp, by rw [hm]; exact h4⟩
  · exact Nat.lt_of_lt_of_le (by omega : A.natAbs < 2 ^ k) (Nat.pow_le_pow_right (by decide) (by omega))
  · have e : (2 : Nat) ^ (2 * k + 3) = 2 * 2 ^ (2 * k + 2) := by rw [show 2 * k + 3 = (2 * k + 2) + 1 by omega, Nat.pow_succ]; omega
    have e2 : (2 : Nat) ^ (2 * k + 2) = 4 * 2 ^ (k + k) := by rw [show 2 * k + 2 = (k + k) + 2 by omega, Nat.pow_add]; omega
    have h5 := sD.lt
    have e4 : 4 * A * C = 4 * (A * C) := Int.mul_assoc 4 A C
    omega
theorem lead_sq {a b c p r D : Int} (hD : 4 * a * c - b * b = D) : 4 * c * lA a b c p r = (2 * c * r + b * p) * (2 * c * r + b * p) + D * (p * p) ∧ 4 * a * lA a b c p r = (2 * a * p + b * r) * (2 * a * p + b * r) + D * (r * r) := by
  subst hD
  unfold lA
  constructor <;> grind
theorem Rst.mx {k : Nat} {a b c A B C p q r s : Int} (f : Fm k a b c) (x : Rst k a b c A B C p q r s) : Mx (2 * k + 3) p q r s := by
  have g := x.fm f
  have hD := f.mea
  have hp := x.pos
  have key : ∀ u v w t : Int, Sm k u → Sm (2 * k + 3) v → 4 * u * v = w * w + (4 * a * c - b * b) * (t * t) → Sm (2 * k + 3) t := by
    intro u v w t su sv e
    refine Sm.of_sq ?_
    have h1 := (su.mul sv).lt
    have h2 := sq_nonneg' w
    have h3 : 0 ≤ (4 * a * c - b * b - 1) * (t * t) := Int.mul_nonneg (by omega) (sq_nonneg' t)
    have h4 : (4 * a * c - b * b - 1) * (t * t) = (4 * a * c - b * b) * (t * t) - t * t := by grind
    have e4 : 4 * u * v = 4 * (u * v) := Int.mul_assoc 4 u v
    have e5 : 4 * 2 ^ (k + (2 * k + 3)) ≤ 2 ^ (2 * (2 * k + 3)) := by
      have e6 : 4 * 2 ^ (k + (2 * k + 3)) = 2 ^ ((k + (2 * k + 3)) + 2) := by rw [Nat.pow_add 2 (k + (2 * k + 3)) 2]; omega
      rw [e6]
      exact Nat.pow_le_pow_right (by decide) (by omega)
    generalize 2 ^ (k + (2 * k + 3)) = P at h1 e5
    generalize 2 ^ (2 * (2 * k + 3)) = P2 at e5
    omega
  have l1 := lead_sq (a := a) (b := b) (c := c) (p := p) (r := r) rfl
  have l2 := lead_sq (a := a) (b := b) (c := c) (p := q) (r := s) rfl
  rw [x.eA] at l1
  rw [x.eC] at l2
  exact ⟨key _ _ _ _ f.sc g.sa l1.1, key _ _ _ _ f.sc g.sc l2.1, key _ _ _ _ f.sa g.sa l1.2, key _ _ _ _ f.sa g.sc l2.2, x.det⟩
theorem Rst.one {k : Nat} {a b c : Int} (f : Fm k a b c) : Rst k a b c a b c 1 0 0 1 := ⟨by unfold lA; grind, by unfold lB; grind, by unfold lA; grind, by decide, f.pos, Int.le_refl _, f.sb⟩
/-- how far a form is from a reduced one -/
def rmu (A B C : Int) : Nat := 4 * A.toNat + (if -A < B ∧ B ≤ A then (if Lst A B C = true then 0 else 1) else 3)
theorem rmu_le {A B C : Int} : rmu A B C ≤ 4 * A.toNat + 3 := by unfold rmu; split <;> (try split) <;> omega
theorem rmu_in {A B C : Int} (h1 : -A < B ∧ B ≤ A) : rmu A B C = 4 * A.toNat + (if Lst A B C = true then 0 else 1) := by unfold rmu; rw [if_pos h1]
theorem rmu_out {A B C : Int} (h1 : ¬ (-A < B ∧ B ≤ A)) : rmu A B C = 4 * A.toNat + 3 := by unfold rmu; rw [if_neg h1]
theorem Rst.turn {k : Nat} {a b c A B C p q r s : Int} (x : Rst k a b c A B C p q r s) (h1 : -A < B ∧ B ≤ A) (hl : Lst A B C = false) (hC : 0 < C) : Rst k a b c C (-B) A q (-p) s (-r) ∧ rmu C (-B) A < rmu A B C := by
  have hn : ¬ ((-A ≤ B ∧ B ≤ A ∧ A ≤ C) ∧ (0 ≤ B ∨ (B ≠ -A ∧ A ≠ C))) := fun z => by rw [lst_iff.mpr z] at hl; cases hl
  have hle := x.le
  refine ⟨⟨x.eC, by rw [← x.eB]; unfold lB; grind, by rw [← x.eA]; unfold lA; grind, by have := x.det; grind, hC, ?_, x.sB.neg⟩, ?_⟩
  · by_cases h : C ≤ A
    · omega
    · exact absurd ⟨⟨by omega, h1.2, by omega⟩, .inr ⟨by omega, by omega⟩⟩ hn
  · have v1 := rmu_in (C := C) h1
    rw [hl] at v1
    simp only [Bool.false_eq_true, if_false] at v1
    by_cases h : C < A
    · have v2 := rmu_le (A := C) (B := -B) (C := A)
      omega
    · have e : C = A := by
        by_cases h2 : C = A
        · exact h2
        · exact absurd ⟨⟨by omega, h1.2, by omega⟩, .inr ⟨by omega, by omega⟩⟩ hn
      subst e
      have hb : B < 0 := by
        by_cases h2 : 0 ≤ B
        · exact absurd ⟨⟨by omega, h1.2, by omega⟩, .inl h2⟩ hn
        · omega
      have l2 : Lst C (-B) C = true := lst_iff.mpr ⟨⟨by omega, by omega, by omega⟩, .inl (by omega)⟩
      have v2 := rmu_in (A := C) (B := -B) (C := C) (by omega)
      rw [l2] at v2
      simp only [if_true] at v2
      omega
theorem Rst.shift {k : Nat} {a b c A B C p q r s : Int} (x : Rst k a b c A B C p q r s) (sa : Sm k a) (h1 : ¬ (-A < B ∧ B ≤ A)) :
    Rst k a b c A (B + 2 * A * ((A - B) / (2 * A))) (A * ((A - B) / (2 * A)) * ((A - B) / (2 * A)) + B * ((A - B) / (2 * A)) + C) p (p * ((A - B) / (2 * A)) + q) r (r * ((A - B) / (2 * A)) + s) ∧
    rmu A (B + 2 * A * ((A - B) / (2 * A))) (A * ((A - B) / (2 * A)) * ((A - B) / (2 * A)) + B * ((A - B) / (2 * A)) + C) < rmu A B C := by
  have hp := x.pos
  have hle := x.le
  have q1 := Int.mul_ediv_add_emod (A - B) (2 * A)
  have q2 := Int.emod_lt_of_pos (A - B) (by omega : 0 < 2 * A)
  have q3 := Int.emod_nonneg (A - B) (by omega : 2 * A ≠ 0)
  generalize (A - B) / (2 * A) = t at *
  have b1 : -A < B + 2 * A * t ∧ B + 2 * A * t ≤ A := by omega
  refine ⟨⟨x.eA, by rw [← x.eB, ← x.eA]; unfold lA lB; grind, by rw [← x.eB, ← x.eA, ← x.eC]; unfold lA lB; grind, by have := x.det; grind, hp, hle, ?_⟩, ?_⟩
  · have := sa.lt
    exact ⟨by omega⟩
  · have v1 := rmu_out (C := C) h1
    have v2 := rmu_in (C := A * t * t + B * t + C) b1
    have : (if Lst A (B + 2 * A * t) (A * t * t + B * t + C) = true then 0 else 1) ≤ 1 := by split <;> omega
    omega
theorem reducing_cond {A B C : Int} {d o2 o3 o4 o5 o6 : Option D} {h : Ph} : qNot (sTst (sFn f_is_least (sCons (sVar 1) (sNil)))) [d, some (T3 A B C), o2, o3, o4, o5, o6] h = .ok (!(Lst A B C)) h := by
  simp (maxSteps := 4000000) (dsimp := false) (disch := first | assumption | decide | omega | walk_at "cm") only [runDef_ap, sVar_ap, sC_ap, sBin_ap, sNeg_ap, sAnd_ap, sOr_ap, sNot_ap, sIf_ap, sTst_ap, qAnd_ap, qOr_ap, qNot_ap, qYes_ap, sChain_ap, sChain3_ap, sNil_ap, sCons_ap, sTup_ap, sLst_ap, sLstM_ap, sCall_ap, g1_ap, g2_ap, sFn_ap, sAsg_ap, gNm_ap, gTp_ap, gConsS_ap, gNilS_ap, sPar_ap, sPar3_ap, sRet_ap, sRetN_ap, sNx_ap, sBrk_ap, sCnt_ap, sSeq_ap, sIte_ap, sDrop_ap, sFrz_ap, sAug_ap, iRange1_ap, iRange2_ap, iSeq_ap, sFor_ap, sLc_ap, R.toG_ok, ↓R.bind_bnd, bnd_ok, ↓R.bd_bdn, bdn_ok, ↓R.toF_tof, tof_ok, ↓F.seq_sqn, sqn_nx, sqn_ret, sqn_cnt, sqn_brk, ↓F.turn_trn, trn_nx, trn_ret, trn_cnt, trn_brk, F.end_nx, F.end_ret, ↓br_true, br_true, ↓br_false, br_false, Dbr, Dneg, Dtst, opt_some, dAdd_int, dIAdd_int, dSub_int, dLt_int, dLe_int, dGt_int, dGe_int, dEq_int, dNe_int, dEq_bl, dNe_bl, dMul_cm, dMod_pos, dDiv_pos, dAbs_int, dMax2_int, dMin2_int, dInt_int, dInt_bl, dIx_tup, dIx_lst, dIx_seq, dLen_tup, dLen_lst, dLen_seq, atI_0, atI_1, atI_2, atI_3, List.map_cons, List.map_nil, List.length_cons, List.length_nil, List.replicate_succ, List.replicate_zero, List.cons_append, List.nil_append, List.getElem?_cons_zero, List.getElem?_cons_succ, List.set_cons_zero, List.set_cons_succ, Nat.reduceAdd, Nat.reduceSub, Nat.zero_add, Nat.add_zero, Nat.sub_self, Nat.reduceMul, mostL_def, Nat.reduceLeDiff, Nat.reduceLT, ite_true, ite_false, if_true, if_false, ↓reduceIte, reduceIte, ↓br_ite, Bool.false_eq_true, reduceCtorEq, Bool.not_true, Bool.not_false, decide_true, decide_false, Int.cast_ofNat_Int, Int.reduceBEq, Int.reduceAdd, Int.reduceSub, Int.reduceMul, Int.reduceNeg, Int.reduceLT, Int.reduceLE, Int.reduceMod, Int.reduceDiv, sMeth1_ap, sSl_ap, sRev_ap, oNo_ap, oPart_ap, sDict0_ap, sSetL_ap, sLc2_ap, sStar_ap, least_ok, qNot_ap, sTst_ap]
theorem reducing_step {k : Nat} {a b c A B C p q r s : Int} {d o3 o4 o5 o6 : Option D} {h : Ph} (f : Fm k a b c) (hk : k ≤ 250) (x : Rst k a b c A B C p q r s) (hl : Lst A B C = false) :
    ∃ A' B' C' p' q' r' s' o3' o4' o5' o6', l_reducing_1 [d, some (T3 A B C), some (T4 p q r s), o3, o4, o5, o6] h = .nx [d, some (T3 A' B' C'), some (T4 p' q' r' s'), o3', o4', o5', o6'] h ∧ Rst k a b c A' B' C' p' q' r' s' ∧ rmu A' B' C' < rmu A B C := by
  have g := (x.fm f).mono (by omega : 2 * k + 3 ≤ 503)
  have m := (x.mx f).mono (by omega : 2 * k + 3 ≤ 503)
  have hC : 0 < C := by
    have h1 := g.mea
    have h2 := sq_nonneg' B
    have : 0 < 4 * A * C := by omega
    exact Int.pos_of_mul_pos_right this (by have := g.pos; omega)
  have hp := g.pos
  by_cases h1 : -A < B ∧ B ≤ A
  · obtain ⟨y, lt⟩ := x.turn h1 hl hC
    have ms : Mx 4 0 (-1) 1 0 := ⟨⟨by decide⟩, ⟨by decide⟩, ⟨by decide⟩, ⟨by decide⟩, by decide⟩
    have e1 := led_by_ok (h := h) (g.sa.mono (by omega : 503 ≤ 600)) (g.sb.mono (by omega)) (g.sc.mono (by omega)) (ms.mono (by omega))
    have e2 := product_of_ok (h := h) m ms (by omega) (by omega)
    have z1 : lA A B C 0 1 = C := by unfold lA; grind
    have z2 : lB A B C 0 (-1) 1 0 = -B := by unfold lB; grind
    have z3 : lA A B C (-1) 0 = A := by unfold lA; grind
    have z4 : p * 0 + q * 1 = q := by omega
    have z5 : p * -1 + q * 0 = -p := by omega
    have z6 : r * 0 + s * 1 = s := by omega
    have z7 : r * -1 + s * 0 = -r := by omega
    rw [z1, z2, z3] at e1
    rw [z4, z5, z6, z7] at e2
    have c1 := h1.1
    have c2 := h1.2
    refine ⟨C, -B, A, q, -p, s, -r, some (.int A), some (.int B), some (.int C), some (T4 0 (-1) 1 0), ?_, y, lt⟩
    unfold l_reducing_1
    simp (maxSteps := 4000000) (dsimp := false) (disch := first | assumption | decide | omega | walk_at "cm") only [runDef_ap, sVar_ap, sC_ap, sBin_ap, sNeg_ap, sAnd_ap, sOr_ap, sNot_ap, sIf_ap, sTst_ap, qAnd_ap, qOr_ap, qNot_ap, qYes_ap, sChain_ap, sChain3_ap, sNil_ap, sCons_ap, sTup_ap, sLst_ap, sLstM_ap, sCall_ap, g1_ap, g2_ap, sFn_ap, sAsg_ap, gNm_ap, gTp_ap, gConsS_ap, gNilS_ap, sPar_ap, sPar3_ap, sRet_ap, sRetN_ap, sNx_ap, sBrk_ap, sCnt_ap, sSeq_ap, sIte_ap, sDrop_ap, sFrz_ap, sAug_ap, iRange1_ap, iRange2_ap, iSeq_ap, sFor_ap, sLc_ap, R.toG_ok, ↓R.bind_bnd, bnd_ok, ↓R.bd_bdn, bdn_ok, ↓R.toF_tof, tof_ok, ↓F.seq_sqn, sqn_nx, sqn_ret, sqn_cnt, sqn_brk, ↓F.turn_trn, trn_nx, trn_ret, trn_cnt, trn_brk, F.end_nx, F.end_ret, ↓br_true, br_true, ↓br_false, br_false, Dbr, Dneg, Dtst, opt_some, dAdd_int, dIAdd_int, dSub_int, dLt_int, dLe_int, dGt_int, dGe_int, dEq_int, dNe_int, dEq_bl, dNe_bl, dMul_cm, dMod_pos, dDiv_pos, dAbs_int, dMax2_int, dMin2_int, dInt_int, dInt_bl, dIx_tup, dIx_lst, dIx_seq, dLen_tup, dLen_lst, dLen_seq, atI_0, atI_1, atI_2, atI_3, List.map_cons, List.map_nil, List.length_cons, List.length_nil, List.replicate_succ, List.replicate_zero, List.cons_append, List.nil_append, List.getElem?_cons_zero, List.getElem?_cons_succ, List.set_cons_zero, List.set_cons_succ, Nat.reduceAdd, Nat.reduceSub, Nat.zero_add, Nat.add_zero, Nat.sub_self, Nat.reduceMul, mostL_def, Nat.reduceLeDiff, Nat.reduceLT, ite_true, ite_false, if_true, if_false, ↓reduceIte, reduceIte, ↓br_ite, Bool.false_eq_true, reduceCtorEq, Bool.not_true, Bool.not_false, decide_true, decide_false, Int.cast_ofNat_Int, Int.reduceBEq, Int.reduceAdd, Int.reduceSub, Int.reduceMul, Int.reduceNeg, Int.reduceLT, Int.reduceLE, Int.reduceMod, Int.reduceDiv, sMeth1_ap, sSl_ap, sRev_ap, oNo_ap, oPart_ap, sDict0_ap, sSetL_ap, sLc2_ap, sStar_ap, e1, e2, gTp_ap, gConsS_ap, gNilS_ap, sNeg_ap, c1, c2]
  · obtain ⟨y, lt⟩ := x.shift f.sa h1
    have sA : Sm k A := ⟨by have := f.sa.lt; have := x.le; omega⟩
    have lg : (2 * A).natAbs.log2 < 9000 := Nat.lt_of_le_of_lt (log_lt ((Sm.lit (n := 2)).mul (sA.mono hk)).lt) (by decide)
    have st : Sm 501 ((A - B) / (2 * A)) := by
      have h2 := ((sA.sub x.sB).mono (by omega : k + k + 1 ≤ 501)).lt
      have h3 := Int.natAbs_ediv_le_natAbs (A - B) (2 * A)
      exact ⟨Nat.lt_of_le_of_lt h3 h2⟩
    generalize ht : (A - B) / (2 * A) = t at *
    have ms : Mx 501 1 t 0 1 := ⟨⟨by decide⟩, st, ⟨by decide⟩, ⟨by decide⟩, by omega⟩
    have e1 := led_by_ok (h := h) (g.sa.mono (by omega : 503 ≤ 600)) (g.sb.mono (by omega)) (g.sc.mono (by omega)) (ms.mono (by omega))
    have e2 := product_of_ok (h := h) m ms (by omega) (by omega)
    have z1 : lA A B C 1 0 = A := by unfold lA; grind
    have z2 : lB A B C 1 t 0 1 = B + 2 * A * t := by unfold lB; grind
    have z3 : lA A B C t 1 = A * t * t + B * t + C := by unfold lA; grind
    have z4 : p * 1 + q * 0 = p := by omega
    have z5 : p * t + q * 1 = p * t + q := by omega
    have z6 : r * 1 + s * 0 = r := by omega
    have z7 : r * t + s * 1 = r * t + s := by omega
    rw [z1, z2, z3] at e1
    rw [z4, z5, z6, z7] at e2
    have a2 : 0 < 2 * A := by omega
    refine ⟨A, _, _, p, _, r, _, some (.int A), some (.int B), some (.int C), some (T4 1 t 0 1), ?_, y, lt⟩
    unfold l_reducing_1
    by_cases c1 : -A < B
    · have c2 : ¬ B ≤ A := fun z => h1 ⟨c1, z⟩
      simp (maxSteps := 4000000) (dsimp := false) (disch := first | assumption | decide | omega | walk_at "cm") only [runDef_ap, sVar_ap, sC_ap, sBin_ap, sNeg_ap, sAnd_ap, sOr_ap, sNot_ap, sIf_ap, sTst_ap, qAnd_ap, qOr_ap, qNot_ap, qYes_ap, sChain_ap, sChain3_ap, sNil_ap, sCons_ap, sTup_ap, sLst_ap, sLstM_ap, sCall_ap, g1_ap, g2_ap, sFn_ap, sAsg_ap, gNm_ap, gTp_ap, gConsS_ap, gNilS_ap, sPar_ap, sPar3_ap, sRet_ap, sRetN_ap, sNx_ap, sBrk_ap, sCnt_ap, sSeq_ap, sIte_ap, sDrop_ap, sFrz_ap, sAug_ap, iRange1_ap, iRange2_ap, iSeq_ap, sFor_ap, sLc_ap, R.toG_ok, ↓R.bind_bnd, bnd_ok, ↓R.bd_bdn, bdn_ok, ↓R.toF_tof, tof_ok, ↓F.seq_sqn, sqn_nx, sqn_ret, sqn_cnt, sqn_brk, ↓F.turn_trn, trn_nx, trn_ret, trn_cnt, trn_brk, F.end_nx, F.end_ret, ↓br_true, br_true, ↓br_false, br_false, Dbr, Dneg, Dtst, opt_some, dAdd_int, dIAdd_int, dSub_int, dLt_int, dLe_int, dGt_int, dGe_int, dEq_int, dNe_int, dEq_bl, dNe_bl, dMul_cm, dMod_pos, dDiv_pos, dAbs_int, dMax2_int, dMin2_int, dInt_int, dInt_bl, dIx_tup, dIx_lst, dIx_seq, dLen_tup, dLen_lst, dLen_seq, atI_0, atI_1, atI_2, atI_3, List.map_cons, List.map_nil, List.length_cons, List.length_nil, List.replicate_succ, List.replicate_zero, List.cons_append, List.nil_append, List.getElem?_cons_zero, List.getElem?_cons_succ, List.set_cons_zero, List.set_cons_succ, Nat.reduceAdd, Nat.reduceSub, Nat.zero_add, Nat.add_zero, Nat.sub_self, Nat.reduceMul, mostL_def, Nat.reduceLeDiff, Nat.reduceLT, ite_true, ite_false, if_true, if_false, ↓reduceIte, reduceIte, ↓br_ite, Bool.false_eq_true, reduceCtorEq, Bool.not_true, Bool.not_false, decide_true, decide_false, Int.cast_ofNat_Int, Int.reduceBEq, Int.reduceAdd, Int.reduceSub, Int.reduceMul, Int.reduceNeg, Int.reduceLT, Int.reduceLE, Int.reduceMod, Int.reduceDiv, sMeth1_ap, sSl_ap, sRev_ap, oNo_ap, oPart_ap, sDict0_ap, sSetL_ap, sLc2_ap, sStar_ap, e1, e2, gTp_ap, gConsS_ap, gNilS_ap, sNeg_ap, c1, c2, lg, ht]
    · simp (maxSteps := 4000000) (dsimp := false) (disch := first | assumption | decide | omega | walk_at "cm") only [runDef_ap, sVar_ap, sC_ap, sBin_ap, sNeg_ap, sAnd_ap, sOr_ap, sNot_ap, sIf_ap, sTst_ap, qAnd_ap, qOr_ap, qNot_ap, qYes_ap, sChain_ap, sChain3_ap, sNil_ap, sCons_ap, sTup_ap, sLst_ap, sLstM_ap, sCall_ap, g1_ap, g2_ap, sFn_ap, sAsg_ap, gNm_ap, gTp_ap, gConsS_ap, gNilS_ap, sPar_ap, sPar3_ap, sRet_ap, sRetN_ap, sNx_ap, sBrk_ap, sCnt_ap, sSeq_ap, sIte_ap, sDrop_ap, sFrz_ap, sAug_ap, iRange1_ap, iRange2_ap, iSeq_ap, sFor_ap, sLc_ap, R.toG_ok, ↓R.bind_bnd, bnd_ok, ↓R.bd_bdn, bdn_ok, ↓R.toF_tof, tof_ok, ↓F.seq_sqn, sqn_nx, sqn_ret, sqn_cnt, sqn_brk, ↓F.turn_trn, trn_nx, trn_ret, trn_cnt, trn_brk, F.end_nx, F.end_ret, ↓br_true, br_true, ↓br_false, br_false, Dbr, Dneg, Dtst, opt_some, dAdd_int, dIAdd_int, dSub_int, dLt_int, dLe_int, dGt_int, dGe_int, dEq_int, dNe_int, dEq_bl, dNe_bl, dMul_cm, dMod_pos, dDiv_pos, dAbs_int, dMax2_int, dMin2_int, dInt_int, dInt_bl, dIx_tup, dIx_lst, dIx_seq, dLen_tup, dLen_lst, dLen_seq, atI_0, atI_1, atI_2, atI_3, List.map_cons, List.map_nil, List.length_cons, List.length_nil, List.replicate_succ, List.replicate_zero, List.cons_append, List.nil_append, List.getElem?_cons_zero, List.getElem?_cons_succ, List.set_cons_zero, List.set_cons_succ, Nat.reduceAdd, Nat.reduceSub, Nat.zero_add, Nat.add_zero, Nat.sub_self, Nat.reduceMul, mostL_def, Nat.reduceLeDiff, Nat.reduceLT, ite_true, ite_false, if_true, if_false, ↓reduceIte, reduceIte, ↓br_ite, Bool.false_eq_true, reduceCtorEq, Bool.not_true, Bool.not_false, decide_true, decide_false, Int.cast_ofNat_Int, Int.reduceBEq, Int.reduceAdd, Int.reduceSub, Int.reduceMul, Int.reduceNeg, Int.reduceLT, Int.reduceLE, Int.reduceMod, Int.reduceDiv, sMeth1_ap, sSl_ap, sRev_ap, oNo_ap, oPart_ap, sDict0_ap, sSetL_ap, sLc2_ap, sStar_ap, e1, e2, gTp_ap, gConsS_ap, gNilS_ap, sNeg_ap, c1, lg, ht]
end Pd

/-! Pk: loops; reduced forms told -/
namespace Pd
open PySem L2 Evl
local macro_rules | `(tactic| walk_at "sm") => `(tactic| first | assumption | exact Sm.lit | exact Sm.mul (by walk_at "sm") (by walk_at "sm") | exact Sm.add (by walk_at "sm") (by walk_at "sm") | exact Sm.sub (by walk_at "sm") (by walk_at "sm") | exact Sm.neg (by walk_at "sm"))
local macro_rules | `(tactic| walk_at "cm") => `(tactic| ((with_reducible show CM _ _); first | assumption | exact CM.left (by decide) | exact CM.right (by decide) | exact CM.left (by omega) | exact CM.right (by omega) | exact CM.of (by walk_at "sm") (by walk_at "sm") (by decide)))
/-! ### loops -/
/-- a for that breaks -/
theorem for_brk {g : SG} {f : SS} (P : Nat → Pe → Ph → Prop) (Q : Pe → Ph → Prop) (H : ∀ m x e h, P m e h → ∃ e1 h1, g x e h = .ok e1 h1 ∧ ((∃ e2 h2, f e1 h1 = .brk e2 h2 ∧ Q e2 h2) ∨ ∃ e2 h2 m2, (f e1 h1 = .nx e2 h2 ∨ f e1 h1 = .cnt e2 h2) ∧ m2 < m ∧ P m2 e2 h2)) :
    ∀ (xs : List D) (m : Nat) (e : Pe) (h : Ph), m < xs.length → P m e h → ∃ e1 h1, forGo g f xs e h = .nx e1 h1 ∧ Q e1 h1 := by
  intro xs
  induction xs with
  | nil => intro m e h hm; exact absurd hm (by simp)
  | cons x r ih =>
    intro m e h hm p
    obtain ⟨e1, h1, a, b⟩ := H m x e h p
    unfold forGo
    rw [a]
    show ∃ e3 h3, (f e1 h1).turn _ = _ ∧ _
    rcases b with ⟨e2, h2, b, q⟩ | ⟨e2, h2, m2, b, lt, p2⟩
    · rw [b]; exact ⟨e2, h2, rfl, q⟩
    · obtain ⟨e4, h4, q1, q2⟩ := ih m2 e2 h2 (by rw [List.length_cons] at hm; omega) p2
      refine ⟨e4, h4, ?_, q2⟩
      rcases b with b | b <;> rw [b] <;> exact q1
/-- a comprehension: filter and map -/
theorem compGo_fm {i : Nat} {tt : ST} {te : SE} {e : Pe} {h : Ph} (p : D → Bool) (f : D → D) : ∀ (xs : List D), (∀ x ∈ xs, tt (e.set i (some x)) h = .ok (p x) h) → (∀ x ∈ xs, p x = true → te (e.set i (some x)) h = .ok (f x) h) → compGo (gNm i) tt te xs e h = .ok ((xs.filter p).map f) h := by
  intro xs
  induction xs with
  | nil => intro _ _; rfl
  | cons x r ih =>
    intro hp hf
    have k := ih (fun y hy => hp y (List.mem_cons_of_mem _ hy)) (fun y hy => hf y (List.mem_cons_of_mem _ hy))
    rw [compGo_cons]
    show (tt (e.set i (some x)) h).bd _ = _
    rw [hp x List.mem_cons_self]
    cases hq : p x with
    | false =>
      rw [List.filter_cons_of_neg (by rw [hq]; simp)]
      exact k
    | true =>
      rw [List.filter_cons_of_pos hq]
      show (te (e.set i (some x)) h).bd _ = _
      rw [hf x List.mem_cons_self hq]
      show (compGo (gNm i) tt te r e h).bd _ = _
      rw [k]
      rfl
theorem lc_fm {it : SIt} {i : Nat} {tt : ST} {te : SE} {vs : List Nat} {e : Pe} {h h1 : Ph} {xs : List D} (p : D → Bool) (f : D → D) (hit : it e h = .ok xs h1) (hl : xs.length ≤ mostL) (hp : ∀ x ∈ xs, tt ((wipeD e vs).set i (some x)) h1 = .ok (p x) h1) (hf : ∀ x ∈ xs, p x = true → te ((wipeD e vs).set i (some x)) h1 = .ok (f x) h1) :
    sLc it (gNm i) tt te vs e h = .ok (.lst ((xs.filter p).map f)) h1 := by
  unfold sLc
  rw [hit]
  show (if xs.length ≤ mostL then _ else _) = _
  rw [if_pos hl, compGo_fm p f xs hp hf]
  rfl
theorem lc_mp {it : SIt} {i : Nat} {te : SE} {vs : List Nat} {e : Pe} {h h1 : Ph} {xs : List D} (f : D → D) (hit : it e h = .ok xs h1) (hl : xs.length ≤ mostL) (hf : ∀ x ∈ xs, te ((wipeD e vs).set i (some x)) h1 = .ok (f x) h1) :
    sLc it (gNm i) qYes te vs e h = .ok (.lst (xs.map f)) h1 := by
  have k := lc_fm (tt := qYes) (fun _ => true) f hit hl (fun _ _ => rfl) fun x hx _ => hf x hx
  rw [List.filter_eq_self.mpr (fun _ _ => rfl)] at k
  exact k
theorem lc_ex {it : SIt} {i : Nat} {tt : ST} {te : SE} {vs : List Nat} {e : Pe} {h h1 : Ph} {xs : List D} (R : D → Prop) (hit : it e h = .ok xs h1) (hl : xs.length ≤ mostL) (H : ∀ x ∈ xs, ∃ t, tt ((wipeD e vs).set i (some x)) h1 = .ok t h1 ∧ (t = true → ∃ y, te ((wipeD e vs).set i (some x)) h1 = .ok y h1 ∧ R y)) :
    ∃ ys, sLc it (gNm i) tt te vs e h = .ok (.lst ys) h1 ∧ (∀ y ∈ ys, R y) ∧ ys.length ≤ xs.length := by
  have go : ∀ xs : List D, (∀ x ∈ xs, ∃ t, tt ((wipeD e vs).set i (some x)) h1 = .ok t h1 ∧ (t = true → ∃ y, te ((wipeD e vs).set i (some x)) h1 = .ok y h1 ∧ R y)) → ∃ ys, compGo (gNm i) tt te xs (wipeD e vs) h1 = .ok ys h1 ∧ (∀ y ∈ ys, R y) ∧ ys.length ≤ xs.length := by
    intro xs
    induction xs with
    | nil => intro _; exact ⟨[], rfl, fun y hy => absurd hy (by simp), Nat.le_refl _⟩
    | cons x r ih =>
      intro H
      obtain ⟨ys, k1, k2, k3⟩ := ih fun y hy => H y (List.mem_cons_of_mem _ hy)
      obtain ⟨t, e1, e2⟩ := H x List.mem_cons_self
      rw [compGo_cons]
      show ∃ ys, (tt ((wipeD e vs).set i (some x)) h1).bd _ = _ ∧ _
      rw [e1]
      cases t with
      | false => exact ⟨ys, k1, k2, by rw [List.length_cons]; omega⟩
      | true =>
        obtain ⟨y, e3, ry⟩ := e2 rfl
        refine ⟨y :: ys, ?_, fun z hz => ?_, by rw [List.length_cons, List.length_cons]; omega⟩
        · show (te ((wipeD e vs).set i (some x)) h1).bd _ = _
          rw [e3]
          show (compGo (gNm i) tt te r (wipeD e vs) h1).bd _ = _
          rw [k1]
          rfl
        · rcases List.mem_cons.mp hz with q | q
          · rw [q]; exact ry
          · exact k2 z q
  obtain ⟨ys, k1, k2, k3⟩ := go xs H
  refine ⟨ys, ?_, k2, k3⟩
  unfold sLc
  rw [hit]
  show (if xs.length ≤ mostL then _ else _) = _
  rw [if_pos hl, k1]
  rfl
/-! ### reducing, told -/
theorem reducing_ok {k : Nat} {a b c : Int} {h : Ph} (f : Fm k a b c) (hk : k ≤ 250) : ∃ A B C p q r s, f_reducing [T3 a b c] h = .ok (.tup [T3 A B C, T4 p q r s]) h ∧ Rst k a b c A B C p q r s ∧ Lst A B C = true := by
  have sa := (f.sa.mono hk)
  obtain ⟨e1, h1, q1, rfl, A, B, C, p, q, r, s, o3, o4, o5, o6, rfl, x, l⟩ := while_run (c := qNot (sTst (sFn f_is_least (sCons (sVar 1) (sNil))))) (f := l_reducing_1)
    (fun m e h' => h' = h ∧ ∃ A B C p q r s o3 o4 o5 o6, e = [some (T3 a b c), some (T3 A B C), some (T4 p q r s), o3, o4, o5, o6] ∧ Rst k a b c A B C p q r s ∧ m = rmu A B C)
    (fun e h' => h' = h ∧ ∃ A B C p q r s o3 o4 o5 o6, e = [some (T3 a b c), some (T3 A B C), some (T4 p q r s), o3, o4, o5, o6] ∧ Rst k a b c A B C p q r s ∧ Lst A B C = true)
    (by
      rintro m e h' ⟨rfl, A, B, C, p, q, r, s, o3, o4, o5, o6, rfl, x, rfl⟩
      cases l : Lst A B C with
      | true => exact .inl ⟨h', by rw [reducing_cond, l]; rfl, rfl, A, B, C, p, q, r, s, o3, o4, o5, o6, rfl, x, l⟩
      | false =>
        obtain ⟨A', B', C', p', q', r', s', o3', o4', o5', o6', st, y, lt⟩ := reducing_step (d := some (T3 a b c)) (o3 := o3) (o4 := o4) (o5 := o5) (o6 := o6) (h := h') f hk x l
        exact .inr ⟨h', _, _, _, by rw [reducing_cond, l]; rfl, .inl st, lt, rfl, A', B', C', p', q', r', s', o3', o4', o5', o6', rfl, y, rfl⟩)
    (rmu a b c) FU [some (T3 a b c), some (T3 a b c), some (T4 1 0 0 1), none, none, none, none] h
    (by
      have h1 := rmu_le (A := a) (B := b) (C := c)
      have h2 := fu_lt (x := 4 * a) (((Sm.lit (n := 4)).mul sa).mono (by decide))
      have h3 := f.pos
      have h4 : 10 ≤ FU := by unfold FU; decide
      have h5 := ((Sm.lit (n := 8)).mul sa)
      have h6 := fu_lt (x := 8 * a) (h5.mono (by decide))
      omega)
    ⟨rfl, a, b, c, 1, 0, 0, 1, none, none, none, none, rfl, Rst.one f, rfl⟩
  refine ⟨A, B, C, p, q, r, s, ?_, x, l⟩
  unfold f_reducing
  simp (maxSteps := 4000000) (dsimp := false) (disch := first | assumption | decide | omega | walk_at "cm") only [runDef_ap, sVar_ap, sC_ap, sBin_ap, sNeg_ap, sAnd_ap, sOr_ap, sNot_ap, sIf_ap, sTst_ap, qAnd_ap, qOr_ap, qNot_ap, qYes_ap, sChain_ap, sChain3_ap, sNil_ap, sCons_ap, sTup_ap, sLst_ap, sLstM_ap, sCall_ap, g1_ap, g2_ap, sFn_ap, sAsg_ap, gNm_ap, gTp_ap, gConsS_ap, gNilS_ap, sPar_ap, sPar3_ap, sRet_ap, sRetN_ap, sNx_ap, sBrk_ap, sCnt_ap, sSeq_ap, sIte_ap, sDrop_ap, sFrz_ap, sAug_ap, iRange1_ap, iRange2_ap, iSeq_ap, sFor_ap, sLc_ap, R.toG_ok, ↓R.bind_bnd, bnd_ok, ↓R.bd_bdn, bdn_ok, ↓R.toF_tof, tof_ok, ↓F.seq_sqn, sqn_nx, sqn_ret, sqn_cnt, sqn_brk, ↓F.turn_trn, trn_nx, trn_ret, trn_cnt, trn_brk, F.end_nx, F.end_ret, ↓br_true, br_true, ↓br_false, br_false, Dbr, Dneg, Dtst, opt_some, dAdd_int, dIAdd_int, dSub_int, dLt_int, dLe_int, dGt_int, dGe_int, dEq_int, dNe_int, dEq_bl, dNe_bl, dMul_cm, dMod_pos, dDiv_pos, dAbs_int, dMax2_int, dMin2_int, dInt_int, dInt_bl, dIx_tup, dIx_lst, dIx_seq, dLen_tup, dLen_lst, dLen_seq, atI_0, atI_1, atI_2, atI_3, List.map_cons, List.map_nil, List.length_cons, List.length_nil, List.replicate_succ, List.replicate_zero, List.cons_append, List.nil_append, List.getElem?_cons_zero, List.getElem?_cons_succ, List.set_cons_zero, List.set_cons_succ, Nat.reduceAdd, Nat.reduceSub, Nat.zero_add, Nat.add_zero, Nat.sub_self, Nat.reduceMul, mostL_def, Nat.reduceLeDiff, Nat.reduceLT, ite_true, ite_false, if_true, if_false, ↓reduceIte, reduceIte, ↓br_ite, Bool.false_eq_true, reduceCtorEq, Bool.not_true, Bool.not_false, decide_true, decide_false, Int.cast_ofNat_Int, Int.reduceBEq, Int.reduceAdd, Int.reduceSub, Int.reduceMul, Int.reduceNeg, Int.reduceLT, Int.reduceLE, Int.reduceMod, Int.reduceDiv, sMeth1_ap, sSl_ap, sRev_ap, oNo_ap, oPart_ap, sDict0_ap, sSetL_ap, sLc2_ap, sStar_ap, q1]
theorem det_mul {p q r s p' q' r' s' : Int} (d : p * s - q * r = 1) (d' : p' * s' - q' * r' = 1) : (p * p' + q * r') * (r * q' + s * s') - (p * q' + q * s') * (r * p' + s * r') = 1 := by
  have e : (p * p' + q * r') * (r * q' + s * s') - (p * q' + q * s') * (r * p' + s * r') = (p * s - q * r) * (p' * s' - q' * r') := by grind
  rw [e, d, d']; decide
/-- the reduced form of a form -/
structure Rdc (a b c A B C : Int) : Prop where
  l : Lst A B C = true
  u : ∀ A' B' C' p q r s, p * s - q * r = 1 → lA a b c p r = A' → lB a b c p q r s = B' → lA a b c q s = C' → Lst A' B' C' = true → A' = A ∧ B' = B ∧ C' = C
theorem Rst.rdc {k : Nat} {a b c A B C p q r s : Int} (f : Fm k a b c) (x : Rst k a b c A B C p q r s) (l : Lst A B C = true) : Rdc a b c A B C := by
  refine ⟨l, fun A' B' C' p' q' r' s' d e1 e2 e3 l' => ?_⟩
  have d0 := x.det
  have hm := x.mea
  have f1 := f.mea
  -- A', B', C' are led from A, B, C by undoing p q r s and then p' ..
  have t : ∀ u v, lA A B C u v = lA a b c (p * u + q * v) (r * u + s * v) := fun u v => by
    have t := led_led (a := a) (b := b) (c := c) (p := p) (q := q) (r := r) (s := s) (p' := u) (r' := v)
    rw [x.eA, x.eB, x.eC] at t
    exact t
  have t2 : ∀ u v w z, lB A B C u v w z = lB a b c (p * u + q * w) (p * v + q * z) (r * u + s * w) (r * v + s * z) := fun u v w z => by
    have t := led_ledB (a := a) (b := b) (c := c) (p := p) (q := q) (r := r) (s := s) (p' := u) (r' := w) (q' := v) (s' := z)
    rw [x.eA, x.eB, x.eC] at t
    exact t
  have g1 : p * (s * p' + -q * r') + q * (-r * p' + p * r') = p' := by grind
  have g2 : r * (s * p' + -q * r') + s * (-r * p' + p * r') = r' := by grind
  have g3 : p * (s * q' + -q * s') + q * (-r * q' + p * s') = q' := by grind
  have g4 : r * (s * q' + -q * s') + s * (-r * q' + p * s') = s' := by grind
  have u1 := t (s * p' + -q * r') (-r * p' + p * r')
  have u2 := t (s * q' + -q * s') (-r * q' + p * s')
  have u3 := t2 (s * p' + -q * r') (s * q' + -q * s') (-r * p' + p * r') (-r * q' + p * s')
  rw [g1, g2, e1] at u1
  rw [g3, g4, e3] at u2
  rw [g1, g2, g3, g4, e2] at u3
  have o := reduced_one (a := A) (b := B) (c := C) (p := s * p' + -q * r') (r := -r * p' + p * r') (q := s * q' + -q * s') (s := -r * q' + p * s') x.pos (by omega) l (det_mul (p := s) (q := -q) (r := -r) (s := p) (by grind) d) (by rw [u1, u2, u3]; exact l')
  rw [u1, u2, u3] at o
  exact o
/-- .. is that of all forms to which it is led -/
theorem Rdc.led {a b c A B C p q r s : Int} (x : Rdc a b c A B C) (d : p * s - q * r = 1) {a' b' c' : Int} (e1 : lA a b c p r = a') (e2 : lB a b c p q r s = b') (e3 : lA a b c q s = c') : Rdc a' b' c' A B C := by
  refine ⟨x.l, fun A' B' C' p' q' r' s' d' h1 h2 h3 l' => ?_⟩
  subst e1 e2 e3
  rw [led_led] at h1 h3
  rw [led_ledB] at h2
  exact x.u A' B' C' (p * p' + q * r') (p * q' + q * s') (r * p' + s * r') (r * q' + s * s') (det_mul d d') h1 h2 h3 l'
theorem Rdc.one {a b c A B C A' B' C' : Int} (x : Rdc a b c A B C) (y : Rdc a b c A' B' C') {p q r s : Int} (d : p * s - q * r = 1) (e1 : lA a b c p r = A) (e2 : lB a b c p q r s = B) (e3 : lA a b c q s = C) : A = A' ∧ B = B' ∧ C = C' := y.u A B C p q r s d e1 e2 e3 x.l
theorem reducing_rdc {k : Nat} {a b c A B C : Int} {h : Ph} (f : Fm k a b c) (hk : k ≤ 250) (x : Rdc a b c A B C) : ∃ p q r s, f_reducing [T3 a b c] h = .ok (.tup [T3 A B C, T4 p q r s]) h ∧ Rst k a b c A B C p q r s := by
  obtain ⟨A', B', C', p, q, r, s, e, y, l⟩ := reducing_ok (h := h) f hk
  obtain ⟨rfl, rfl, rfl⟩ := x.u A' B' C' p q r s y.det y.eA y.eB y.eC l
  exact ⟨p, q, r, s, e, y⟩
theorem rdc_some {k : Nat} {a b c : Int} (f : Fm k a b c) (hk : k ≤ 250) : ∃ A B C, Rdc a b c A B C ∧ Fm (2 * k + 3) A B C ∧ A ≤ a ∧ 4 * A * C - B * B = 4 * a * c - b * b := by
  obtain ⟨A, B, C, p, q, r, s, _, y, l⟩ := reducing_ok (h := []) f hk
  exact ⟨A, B, C, y.rdc f l, y.fm f, y.le, y.mea⟩
theorem reduced_form_ok {k : Nat} {a b c A B C : Int} {h : Ph} (f : Fm k a b c) (hk : k ≤ 199) (x : Rdc a b c A B C) : f_reduced_form [T3 a b c] h = .ok (T3 A B C) h := by
  obtain ⟨p, q, r, s, e, _⟩ := reducing_rdc (h := h) f (by omega) x
  have e1 := require_form_fm (h := h) (f.mono hk)
  unfold f_reduced_form; simp (maxSteps := 4000000) (dsimp := false) (disch := first | assumption | decide | omega | walk_at "cm") only [runDef_ap, sVar_ap, sC_ap, sBin_ap, sNeg_ap, sAnd_ap, sOr_ap, sNot_ap, sIf_ap, sTst_ap, qAnd_ap, qOr_ap, qNot_ap, qYes_ap, sChain_ap, sChain3_ap, sNil_ap, sCons_ap, sTup_ap, sLst_ap, sLstM_ap, sCall_ap, g1_ap, g2_ap, sFn_ap, sAsg_ap, gNm_ap, gTp_ap, gConsS_ap, gNilS_ap, sPar_ap, sPar3_ap, sRet_ap, sRetN_ap, sNx_ap, sBrk_ap, sCnt_ap, sSeq_ap, sIte_ap, sDrop_ap, sFrz_ap, sAug_ap, iRange1_ap, iRange2_ap, iSeq_ap, sFor_ap, sLc_ap, R.toG_ok, ↓R.bind_bnd, bnd_ok, ↓R.bd_bdn, bdn_ok, ↓R.toF_tof, tof_ok, ↓F.seq_sqn, sqn_nx, sqn_ret, sqn_cnt, sqn_brk, ↓F.turn_trn, trn_nx, trn_ret, trn_cnt, trn_brk, F.end_nx, F.end_ret, ↓br_true, br_true, ↓br_false, br_false, Dbr, Dneg, Dtst, opt_some, dAdd_int, dIAdd_int, dSub_int, dLt_int, dLe_int, dGt_int, dGe_int, dEq_int, dNe_int, dEq_bl, dNe_bl, dMul_cm, dMod_pos, dDiv_pos, dAbs_int, dMax2_int, dMin2_int, dInt_int, dInt_bl, dIx_tup, dIx_lst, dIx_seq, dLen_tup, dLen_lst, dLen_seq, atI_0, atI_1, atI_2, atI_3, List.map_cons, List.map_nil, List.length_cons, List.length_nil, List.replicate_succ, List.replicate_zero, List.cons_append, List.nil_append, List.getElem?_cons_zero, List.getElem?_cons_succ, List.set_cons_zero, List.set_cons_succ, Nat.reduceAdd, Nat.reduceSub, Nat.zero_add, Nat.add_zero, Nat.sub_self, Nat.reduceMul, mostL_def, Nat.reduceLeDiff, Nat.reduceLT, ite_true, ite_false, if_true, if_false, ↓reduceIte, reduceIte, ↓br_ite, Bool.false_eq_true, reduceCtorEq, Bool.not_true, Bool.not_false, decide_true, decide_false, Int.cast_ofNat_Int, Int.reduceBEq, Int.reduceAdd, Int.reduceSub, Int.reduceMul, Int.reduceNeg, Int.reduceLT, Int.reduceLE, Int.reduceMod, Int.reduceDiv, sMeth1_ap, sSl_ap, sRev_ap, oNo_ap, oPart_ap, sDict0_ap, sSetL_ap, sLc2_ap, sStar_ap, e, e1]
theorem reducing_matrix_ok {k : Nat} {a b c A B C : Int} {h : Ph} (f : Fm k a b c) (hk : k ≤ 199) (x : Rdc a b c A B C) : ∃ p q r s, f_reducing_matrix [T3 a b c] h = .ok (T4 p q r s) h ∧ Rst k a b c A B C p q r s := by
  obtain ⟨p, q, r, s, e, y⟩ := reducing_rdc (h := h) f (by omega) x
  have e1 := require_form_fm (h := h) (f.mono hk)
  refine ⟨p, q, r, s, ?_, y⟩
  unfold f_reducing_matrix; simp (maxSteps := 4000000) (dsimp := false) (disch := first | assumption | decide | omega | walk_at "cm") only [runDef_ap, sVar_ap, sC_ap, sBin_ap, sNeg_ap, sAnd_ap, sOr_ap, sNot_ap, sIf_ap, sTst_ap, qAnd_ap, qOr_ap, qNot_ap, qYes_ap, sChain_ap, sChain3_ap, sNil_ap, sCons_ap, sTup_ap, sLst_ap, sLstM_ap, sCall_ap, g1_ap, g2_ap, sFn_ap, sAsg_ap, gNm_ap, gTp_ap, gConsS_ap, gNilS_ap, sPar_ap, sPar3_ap, sRet_ap, sRetN_ap, sNx_ap, sBrk_ap, sCnt_ap, sSeq_ap, sIte_ap, sDrop_ap, sFrz_ap, sAug_ap, iRange1_ap, iRange2_ap, iSeq_ap, sFor_ap, sLc_ap, R.toG_ok, ↓R.bind_bnd, bnd_ok, ↓R.bd_bdn, bdn_ok, ↓R.toF_tof, tof_ok, ↓F.seq_sqn, sqn_nx, sqn_ret, sqn_cnt, sqn_brk, ↓F.turn_trn, trn_nx, trn_ret, trn_cnt, trn_brk, F.end_nx, F.end_ret, ↓br_true, br_true, ↓br_false, br_false, Dbr, Dneg, Dtst, opt_some, dAdd_int, dIAdd_int, dSub_int, dLt_int, dLe_int, dGt_int, dGe_int, dEq_int, dNe_int, dEq_bl, dNe_bl, dMul_cm, dMod_pos, dDiv_pos, dAbs_int, dMax2_int, dMin2_int, dInt_int, dInt_bl, dIx_tup, dIx_lst, dIx_seq, dLen_tup, dLen_lst, dLen_seq, atI_0, atI_1, atI_2, atI_3, List.map_cons, List.map_nil, List.length_cons, List.length_nil, List.replicate_succ, List.replicate_zero, List.cons_append, List.nil_append, List.getElem?_cons_zero, List.getElem?_cons_succ, List.set_cons_zero, List.set_cons_succ, Nat.reduceAdd, Nat.reduceSub, Nat.zero_add, Nat.add_zero, Nat.sub_self, Nat.reduceMul, mostL_def, Nat.reduceLeDiff, Nat.reduceLT, ite_true, ite_false, if_true, if_false, ↓reduceIte, reduceIte, ↓br_ite, Bool.false_eq_true, reduceCtorEq, Bool.not_true, Bool.not_false, decide_true, decide_false, Int.cast_ofNat_Int, Int.reduceBEq, Int.reduceAdd, Int.reduceSub, Int.reduceMul, Int.reduceNeg, Int.reduceLT, Int.reduceLE, Int.reduceMod, Int.reduceDiv, sMeth1_ap, sSl_ap, sRev_ap, oNo_ap, oPart_ap, sDict0_ap, sSetL_ap, sLc2_ap, sStar_ap, e, e1]
theorem turn_ints {p q r s : Int} {h : Ph} (sp : Sm 600 p) (sq : Sm 600 q) (sr : Sm 600 r) (ss : Sm 600 s) : f_is_turn [T4 p q r s] h = .ok (.bl (p * s - q * r == 1)) h := by
  unfold f_is_turn; simp (maxSteps := 4000000) (dsimp := false) (disch := first | assumption | decide | omega | walk_at "cm") only [runDef_ap, sVar_ap, sC_ap, sBin_ap, sNeg_ap, sAnd_ap, sOr_ap, sNot_ap, sIf_ap, sTst_ap, qAnd_ap, qOr_ap, qNot_ap, qYes_ap, sChain_ap, sChain3_ap, sNil_ap, sCons_ap, sTup_ap, sLst_ap, sLstM_ap, sCall_ap, g1_ap, g2_ap, sFn_ap, sAsg_ap, gNm_ap, gTp_ap, gConsS_ap, gNilS_ap, sPar_ap, sPar3_ap, sRet_ap, sRetN_ap, sNx_ap, sBrk_ap, sCnt_ap, sSeq_ap, sIte_ap, sDrop_ap, sFrz_ap, sAug_ap, iRange1_ap, iRange2_ap, iSeq_ap, sFor_ap, sLc_ap, R.toG_ok, ↓R.bind_bnd, bnd_ok, ↓R.bd_bdn, bdn_ok, ↓R.toF_tof, tof_ok, ↓F.seq_sqn, sqn_nx, sqn_ret, sqn_cnt, sqn_brk, ↓F.turn_trn, trn_nx, trn_ret, trn_cnt, trn_brk, F.end_nx, F.end_ret, ↓br_true, br_true, ↓br_false, br_false, Dbr, Dneg, Dtst, opt_some, dAdd_int, dIAdd_int, dSub_int, dLt_int, dLe_int, dGt_int, dGe_int, dEq_int, dNe_int, dEq_bl, dNe_bl, dMul_cm, dMod_pos, dDiv_pos, dAbs_int, dMax2_int, dMin2_int, dInt_int, dInt_bl, dIx_tup, dIx_lst, dIx_seq, dLen_tup, dLen_lst, dLen_seq, atI_0, atI_1, atI_2, atI_3, List.map_cons, List.map_nil, List.length_cons, List.length_nil, List.replicate_succ, List.replicate_zero, List.cons_append, List.nil_append, List.getElem?_cons_zero, List.getElem?_cons_succ, List.set_cons_zero, List.set_cons_succ, Nat.reduceAdd, Nat.reduceSub, Nat.zero_add, Nat.add_zero, Nat.sub_self, Nat.reduceMul, mostL_def, Nat.reduceLeDiff, Nat.reduceLT, ite_true, ite_false, if_true, if_false, ↓reduceIte, reduceIte, ↓br_ite, Bool.false_eq_true, reduceCtorEq, Bool.not_true, Bool.not_false, decide_true, decide_false, Int.cast_ofNat_Int, Int.reduceBEq, Int.reduceAdd, Int.reduceSub, Int.reduceMul, Int.reduceNeg, Int.reduceLT, Int.reduceLE, Int.reduceMod, Int.reduceDiv, sMeth1_ap, sSl_ap, sRev_ap, oNo_ap, oPart_ap, sDict0_ap, sSetL_ap, sLc2_ap, sStar_ap, isi_tup, kit_tuple_tuple, compGo_cons, compGo_nil, wipe_cons, wipe_nil, iSeq_at, dAll_lst, bls_cons, bls_nil, Option.map_some, List.all_cons, List.all_nil, id, whole_int, Bool.and_true]
theorem is_reducing_ok {k : Nat} {a b c A B C p q r s : Int} {h : Ph} (f : Fm k a b c) (hk : k ≤ 199) (x : Rdc a b c A B C) (sp : Sm 600 p) (sq : Sm 600 q) (sr : Sm 600 r) (ss : Sm 600 s) :
    f_is_reducing [T3 a b c, T4 p q r s] h = .ok (.bl ((p * s - q * r == 1) && (lA a b c p r == A && (lB a b c p q r s == B && (lA a b c q s == C && true))))) h := by
  obtain ⟨p', q', r', s', e, y⟩ := reducing_rdc (h := h) f (by omega) x
  have e1 := require_form_fm (h := h) (f.mono hk)
  have e2 := turn_ints (h := h) sp sq sr ss
  by_cases hd : p * s - q * r = 1
  · have e3 := led_by_ok (h := h) (f.sa.mono (by omega : k ≤ 600)) (f.sb.mono (by omega)) (f.sc.mono (by omega)) ⟨sp, sq, sr, ss, hd⟩
    have hb : (p * s - q * r == 1) = true := beq_iff_eq.mpr hd
    unfold f_is_reducing; simp (maxSteps := 4000000) (dsimp := false) (disch := first | assumption | decide | omega | walk_at "cm") only [runDef_ap, sVar_ap, sC_ap, sBin_ap, sNeg_ap, sAnd_ap, sOr_ap, sNot_ap, sIf_ap, sTst_ap, qAnd_ap, qOr_ap, qNot_ap, qYes_ap, sChain_ap, sChain3_ap, sNil_ap, sCons_ap, sTup_ap, sLst_ap, sLstM_ap, sCall_ap, g1_ap, g2_ap, sFn_ap, sAsg_ap, gNm_ap, gTp_ap, gConsS_ap, gNilS_ap, sPar_ap, sPar3_ap, sRet_ap, sRetN_ap, sNx_ap, sBrk_ap, sCnt_ap, sSeq_ap, sIte_ap, sDrop_ap, sFrz_ap, sAug_ap, iRange1_ap, iRange2_ap, iSeq_ap, sFor_ap, sLc_ap, R.toG_ok, ↓R.bind_bnd, bnd_ok, ↓R.bd_bdn, bdn_ok, ↓R.toF_tof, tof_ok, ↓F.seq_sqn, sqn_nx, sqn_ret, sqn_cnt, sqn_brk, ↓F.turn_trn, trn_nx, trn_ret, trn_cnt, trn_brk, F.end_nx, F.end_ret, ↓br_true, br_true, ↓br_false, br_false, Dbr, Dneg, Dtst, opt_some, dAdd_int, dIAdd_int, dSub_int, dLt_int, dLe_int, dGt_int, dGe_int, dEq_int, dNe_int, dEq_bl, dNe_bl, dMul_cm, dMod_pos, dDiv_pos, dAbs_int, dMax2_int, dMin2_int, dInt_int, dInt_bl, dIx_tup, dIx_lst, dIx_seq, dLen_tup, dLen_lst, dLen_seq, atI_0, atI_1, atI_2, atI_3, List.map_cons, List.map_nil, List.length_cons, List.length_nil, List.replicate_succ, List.replicate_zero, List.cons_append, List.nil_append, List.getElem?_cons_zero, List.getElem?_cons_succ, List.set_cons_zero, List.set_cons_succ, Nat.reduceAdd, Nat.reduceSub, Nat.zero_add, Nat.add_zero, Nat.sub_self, Nat.reduceMul, mostL_def, Nat.reduceLeDiff, Nat.reduceLT, ite_true, ite_false, if_true, if_false, ↓reduceIte, reduceIte, ↓br_ite, Bool.false_eq_true, reduceCtorEq, Bool.not_true, Bool.not_false, decide_true, decide_false, Int.cast_ofNat_Int, Int.reduceBEq, Int.reduceAdd, Int.reduceSub, Int.reduceMul, Int.reduceNeg, Int.reduceLT, Int.reduceLE, Int.reduceMod, Int.reduceDiv, sMeth1_ap, sSl_ap, sRev_ap, oNo_ap, oPart_ap, sDict0_ap, sSetL_ap, sLc2_ap, sStar_ap, e, e1, e2, e3, hb, dEq_T3, Bool.true_and]
  · have hb : (p * s - q * r == 1) = false := beq_eq_false_iff_ne.mpr hd
    unfold f_is_reducing; simp (maxSteps := 4000000) (dsimp := false) (disch := first | assumption | decide | omega | walk_at "cm") only [runDef_ap, sVar_ap, sC_ap, sBin_ap, sNeg_ap, sAnd_ap, sOr_ap, sNot_ap, sIf_ap, sTst_ap, qAnd_ap, qOr_ap, qNot_ap, qYes_ap, sChain_ap, sChain3_ap, sNil_ap, sCons_ap, sTup_ap, sLst_ap, sLstM_ap, sCall_ap, g1_ap, g2_ap, sFn_ap, sAsg_ap, gNm_ap, gTp_ap, gConsS_ap, gNilS_ap, sPar_ap, sPar3_ap, sRet_ap, sRetN_ap, sNx_ap, sBrk_ap, sCnt_ap, sSeq_ap, sIte_ap, sDrop_ap, sFrz_ap, sAug_ap, iRange1_ap, iRange2_ap, iSeq_ap, sFor_ap, sLc_ap, R.toG_ok, ↓R.bind_bnd, bnd_ok, ↓R.bd_bdn, bdn_ok, ↓R.toF_tof, tof_ok, ↓F.seq_sqn, sqn_nx, sqn_ret, sqn_cnt, sqn_brk, ↓F.turn_trn, trn_nx, trn_ret, trn_cnt, trn_brk, F.end_nx, F.end_ret, ↓br_true, br_true, ↓br_false, br_false, Dbr, Dneg, Dtst, opt_some, dAdd_int, dIAdd_int, dSub_int, dLt_int, dLe_int, dGt_int, dGe_int, dEq_int, dNe_int, dEq_bl, dNe_bl, dMul_cm, dMod_pos, dDiv_pos, dAbs_int, dMax2_int, dMin2_int, dInt_int, dInt_bl, dIx_tup, dIx_lst, dIx_seq, dLen_tup, dLen_lst, dLen_seq, atI_0, atI_1, atI_2, atI_3, List.map_cons, List.map_nil, List.length_cons, List.length_nil, List.replicate_succ, List.replicate_zero, List.cons_append, List.nil_append, List.getElem?_cons_zero, List.getElem?_cons_succ, List.set_cons_zero, List.set_cons_succ, Nat.reduceAdd, Nat.reduceSub, Nat.zero_add, Nat.add_zero, Nat.sub_self, Nat.reduceMul, mostL_def, Nat.reduceLeDiff, Nat.reduceLT, ite_true, ite_false, if_true, if_false, ↓reduceIte, reduceIte, ↓br_ite, Bool.false_eq_true, reduceCtorEq, Bool.not_true, Bool.not_false, decide_true, decide_false, Int.cast_ofNat_Int, Int.reduceBEq, Int.reduceAdd, Int.reduceSub, Int.reduceMul, Int.reduceNeg, Int.reduceLT, Int.reduceLE, Int.reduceMod, Int.reduceDiv, sMeth1_ap, sSl_ap, sRev_ap, oNo_ap, oPart_ap, sDict0_ap, sSetL_ap, sLc2_ap, sStar_ap, e, e1, e2, hb, Bool.false_and]
theorem is_reducing_not {k : Nat} {a b c : Int} {v : D} {h : Ph} (f : Fm k a b c) (hk : k ≤ 199) (hv : f_is_turn [v] h = .ok (.bl false) h) : f_is_reducing [T3 a b c, v] h = .ok (.bl false) h := by
  have e1 := require_form_fm (h := h) (f.mono hk)
  unfold f_is_reducing; simp (maxSteps := 4000000) (dsimp := false) (disch := first | assumption | decide | omega | walk_at "cm") only [runDef_ap, sVar_ap, sC_ap, sBin_ap, sNeg_ap, sAnd_ap, sOr_ap, sNot_ap, sIf_ap, sTst_ap, qAnd_ap, qOr_ap, qNot_ap, qYes_ap, sChain_ap, sChain3_ap, sNil_ap, sCons_ap, sTup_ap, sLst_ap, sLstM_ap, sCall_ap, g1_ap, g2_ap, sFn_ap, sAsg_ap, gNm_ap, gTp_ap, gConsS_ap, gNilS_ap, sPar_ap, sPar3_ap, sRet_ap, sRetN_ap, sNx_ap, sBrk_ap, sCnt_ap, sSeq_ap, sIte_ap, sDrop_ap, sFrz_ap, sAug_ap, iRange1_ap, iRange2_ap, iSeq_ap, sFor_ap, sLc_ap, R.toG_ok, ↓R.bind_bnd, bnd_ok, ↓R.bd_bdn, bdn_ok, ↓R.toF_tof, tof_ok, ↓F.seq_sqn, sqn_nx, sqn_ret, sqn_cnt, sqn_brk, ↓F.turn_trn, trn_nx, trn_ret, trn_cnt, trn_brk, F.end_nx, F.end_ret, ↓br_true, br_true, ↓br_false, br_false, Dbr, Dneg, Dtst, opt_some, dAdd_int, dIAdd_int, dSub_int, dLt_int, dLe_int, dGt_int, dGe_int, dEq_int, dNe_int, dEq_bl, dNe_bl, dMul_cm, dMod_pos, dDiv_pos, dAbs_int, dMax2_int, dMin2_int, dInt_int, dInt_bl, dIx_tup, dIx_lst, dIx_seq, dLen_tup, dLen_lst, dLen_seq, atI_0, atI_1, atI_2, atI_3, List.map_cons, List.map_nil, List.length_cons, List.length_nil, List.replicate_succ, List.replicate_zero, List.cons_append, List.nil_append, List.getElem?_cons_zero, List.getElem?_cons_succ, List.set_cons_zero, List.set_cons_succ, Nat.reduceAdd, Nat.reduceSub, Nat.zero_add, Nat.add_zero, Nat.sub_self, Nat.reduceMul, mostL_def, Nat.reduceLeDiff, Nat.reduceLT, ite_true, ite_false, if_true, if_false, ↓reduceIte, reduceIte, ↓br_ite, Bool.false_eq_true, reduceCtorEq, Bool.not_true, Bool.not_false, decide_true, decide_false, Int.cast_ofNat_Int, Int.reduceBEq, Int.reduceAdd, Int.reduceSub, Int.reduceMul, Int.reduceNeg, Int.reduceLT, Int.reduceLE, Int.reduceMod, Int.reduceDiv, sMeth1_ap, sSl_ap, sRev_ap, oNo_ap, oPart_ap, sDict0_ap, sSetL_ap, sLc2_ap, sStar_ap, e1, hv]
/-! ### what is no turn -/
theorem turn_non {h : Ph} : f_is_turn [.non] h = .ok (.bl false) h := by unfold f_is_turn; simp (maxSteps := 4000000) (dsimp := false) (disch := first | assumption | decide | omega | walk_at "cm") only [runDef_ap, sVar_ap, sC_ap, sBin_ap, sNeg_ap, sAnd_ap, sOr_ap, sNot_ap, sIf_ap, sTst_ap, qAnd_ap, qOr_ap, qNot_ap, qYes_ap, sChain_ap, sChain3_ap, sNil_ap, sCons_ap, sTup_ap, sLst_ap, sLstM_ap, sCall_ap, g1_ap, g2_ap, sFn_ap, sAsg_ap, gNm_ap, gTp_ap, gConsS_ap, gNilS_ap, sPar_ap, sPar3_ap, sRet_ap, sRetN_ap, sNx_ap, sBrk_ap, sCnt_ap, sSeq_ap, sIte_ap, sDrop_ap, sFrz_ap, sAug_ap, iRange1_ap, iRange2_ap, iSeq_ap, sFor_ap, sLc_ap, R.toG_ok, ↓R.bind_bnd, bnd_ok, ↓R.bd_bdn, bdn_ok, ↓R.toF_tof, tof_ok, ↓F.seq_sqn, sqn_nx, sqn_ret, sqn_cnt, sqn_brk, ↓F.turn_trn, trn_nx, trn_ret, trn_cnt, trn_brk, F.end_nx, F.end_ret, ↓br_true, br_true, ↓br_false, br_false, Dbr, Dneg, Dtst, opt_some, dAdd_int, dIAdd_int, dSub_int, dLt_int, dLe_int, dGt_int, dGe_int, dEq_int, dNe_int, dEq_bl, dNe_bl, dMul_cm, dMod_pos, dDiv_pos, dAbs_int, dMax2_int, dMin2_int, dInt_int, dInt_bl, dIx_tup, dIx_lst, dIx_seq, dLen_tup, dLen_lst, dLen_seq, atI_0, atI_1, atI_2, atI_3, List.map_cons, List.map_nil, List.length_cons, List.length_nil, List.replicate_succ, List.replicate_zero, List.cons_append, List.nil_append, List.getElem?_cons_zero, List.getElem?_cons_succ, List.set_cons_zero, List.set_cons_succ, Nat.reduceAdd, Nat.reduceSub, Nat.zero_add, Nat.add_zero, Nat.sub_self, Nat.reduceMul, mostL_def, Nat.reduceLeDiff, Nat.reduceLT, ite_true, ite_false, if_true, if_false, ↓reduceIte, reduceIte, ↓br_ite, Bool.false_eq_true, reduceCtorEq, Bool.not_true, Bool.not_false, decide_true, decide_false, Int.cast_ofNat_Int, Int.reduceBEq, Int.reduceAdd, Int.reduceSub, Int.reduceMul, Int.reduceNeg, Int.reduceLT, Int.reduceLE, Int.reduceMod, Int.reduceDiv, sMeth1_ap, sSl_ap, sRev_ap, oNo_ap, oPart_ap, sDict0_ap, sSetL_ap, sLc2_ap, sStar_ap, isi_non, kit_non_tuple]
theorem turn_int {i : Int} {h : Ph} : f_is_turn [.int i] h = .ok (.bl false) h := by unfold f_is_turn; simp (maxSteps := 4000000) (dsimp := false) (disch := first | assumption | decide | omega | walk_at "cm") only [runDef_ap, sVar_ap, sC_ap, sBin_ap, sNeg_ap, sAnd_ap, sOr_ap, sNot_ap, sIf_ap, sTst_ap, qAnd_ap, qOr_ap, qNot_ap, qYes_ap, sChain_ap, sChain3_ap, sNil_ap, sCons_ap, sTup_ap, sLst_ap, sLstM_ap, sCall_ap, g1_ap, g2_ap, sFn_ap, sAsg_ap, gNm_ap, gTp_ap, gConsS_ap, gNilS_ap, sPar_ap, sPar3_ap, sRet_ap, sRetN_ap, sNx_ap, sBrk_ap, sCnt_ap, sSeq_ap, sIte_ap, sDrop_ap, sFrz_ap, sAug_ap, iRange1_ap, iRange2_ap, iSeq_ap, sFor_ap, sLc_ap, R.toG_ok, ↓R.bind_bnd, bnd_ok, ↓R.bd_bdn, bdn_ok, ↓R.toF_tof, tof_ok, ↓F.seq_sqn, sqn_nx, sqn_ret, sqn_cnt, sqn_brk, ↓F.turn_trn, trn_nx, trn_ret, trn_cnt, trn_brk, F.end_nx, F.end_ret, ↓br_true, br_true, ↓br_false, br_false, Dbr, Dneg, Dtst, opt_some, dAdd_int, dIAdd_int, dSub_int, dLt_int, dLe_int, dGt_int, dGe_int, dEq_int, dNe_int, dEq_bl, dNe_bl, dMul_cm, dMod_pos, dDiv_pos, dAbs_int, dMax2_int, dMin2_int, dInt_int, dInt_bl, dIx_tup, dIx_lst, dIx_seq, dLen_tup, dLen_lst, dLen_seq, atI_0, atI_1, atI_2, atI_3, List.map_cons, List.map_nil, List.length_cons, List.length_nil, List.replicate_succ, List.replicate_zero, List.cons_append, List.nil_append, List.getElem?_cons_zero, List.getElem?_cons_succ, List.set_cons_zero, List.set_cons_succ, Nat.reduceAdd, Nat.reduceSub, Nat.zero_add, Nat.add_zero, Nat.sub_self, Nat.reduceMul, mostL_def, Nat.reduceLeDiff, Nat.reduceLT, ite_true, ite_false, if_true, if_false, ↓reduceIte, reduceIte, ↓br_ite, Bool.false_eq_true, reduceCtorEq, Bool.not_true, Bool.not_false, decide_true, decide_false, Int.cast_ofNat_Int, Int.reduceBEq, Int.reduceAdd, Int.reduceSub, Int.reduceMul, Int.reduceNeg, Int.reduceLT, Int.reduceLE, Int.reduceMod, Int.reduceDiv, sMeth1_ap, sSl_ap, sRev_ap, oNo_ap, oPart_ap, sDict0_ap, sSetL_ap, sLc2_ap, sStar_ap, isi_int, kit_int_tuple]
theorem turn_lst {i : List D} {h : Ph} : f_is_turn [.lst i] h = .ok (.bl false) h := by unfold f_is_turn; simp (maxSteps := 4000000) (dsimp := false) (disch := first | assumption | decide | omega | walk_at "cm") only [runDef_ap, sVar_ap, sC_ap, sBin_ap, sNeg_ap, sAnd_ap, sOr_ap, sNot_ap, sIf_ap, sTst_ap, qAnd_ap, qOr_ap, qNot_ap, qYes_ap, sChain_ap, sChain3_ap, sNil_ap, sCons_ap, sTup_ap, sLst_ap, sLstM_ap, sCall_ap, g1_ap, g2_ap, sFn_ap, sAsg_ap, gNm_ap, gTp_ap, gConsS_ap, gNilS_ap, sPar_ap, sPar3_ap, sRet_ap, sRetN_ap, sNx_ap, sBrk_ap, sCnt_ap, sSeq_ap, sIte_ap, sDrop_ap, sFrz_ap, sAug_ap, iRange1_ap, iRange2_ap, iSeq_ap, sFor_ap, sLc_ap, R.toG_ok, ↓R.bind_bnd, bnd_ok, ↓R.bd_bdn, bdn_ok, ↓R.toF_tof, tof_ok, ↓F.seq_sqn, sqn_nx, sqn_ret, sqn_cnt, sqn_brk, ↓F.turn_trn, trn_nx, trn_ret, trn_cnt, trn_brk, F.end_nx, F.end_ret, ↓br_true, br_true, ↓br_false, br_false, Dbr, Dneg, Dtst, opt_some, dAdd_int, dIAdd_int, dSub_int, dLt_int, dLe_int, dGt_int, dGe_int, dEq_int, dNe_int, dEq_bl, dNe_bl, dMul_cm, dMod_pos, dDiv_pos, dAbs_int, dMax2_int, dMin2_int, dInt_int, dInt_bl, dIx_tup, dIx_lst, dIx_seq, dLen_tup, dLen_lst, dLen_seq, atI_0, atI_1, atI_2, atI_3, List.map_cons, List.map_nil, List.length_cons, List.length_nil, List.replicate_succ, List.replicate_zero, List.cons_append, List.nil_append, List.getElem?_cons_zero, List.getElem?_cons_succ, List.set_cons_zero, List.set_cons_succ, Nat.reduceAdd, Nat.reduceSub, Nat.zero_add, Nat.add_zero, Nat.sub_self, Nat.reduceMul, mostL_def, Nat.reduceLeDiff, Nat.reduceLT, ite_true, ite_false, if_true, if_false, ↓reduceIte, reduceIte, ↓br_ite, Bool.false_eq_true, reduceCtorEq, Bool.not_true, Bool.not_false, decide_true, decide_false, Int.cast_ofNat_Int, Int.reduceBEq, Int.reduceAdd, Int.reduceSub, Int.reduceMul, Int.reduceNeg, Int.reduceLT, Int.reduceLE, Int.reduceMod, Int.reduceDiv, sMeth1_ap, sSl_ap, sRev_ap, oNo_ap, oPart_ap, sDict0_ap, sSetL_ap, sLc2_ap, sStar_ap, isi_lst, kit_list_tuple]
theorem turn_len {xs : List D} {h : Ph} (hn : ((xs.length : Int) == 4) = false) : f_is_turn [.tup xs] h = .ok (.bl false) h := by unfold f_is_turn; simp (maxSteps := 4000000) (dsimp := false) (disch := first | assumption | decide | omega | walk_at "cm") only [runDef_ap, sVar_ap, sC_ap, sBin_ap, sNeg_ap, sAnd_ap, sOr_ap, sNot_ap, sIf_ap, sTst_ap, qAnd_ap, qOr_ap, qNot_ap, qYes_ap, sChain_ap, sChain3_ap, sNil_ap, sCons_ap, sTup_ap, sLst_ap, sLstM_ap, sCall_ap, g1_ap, g2_ap, sFn_ap, sAsg_ap, gNm_ap, gTp_ap, gConsS_ap, gNilS_ap, sPar_ap, sPar3_ap, sRet_ap, sRetN_ap, sNx_ap, sBrk_ap, sCnt_ap, sSeq_ap, sIte_ap, sDrop_ap, sFrz_ap, sAug_ap, iRange1_ap, iRange2_ap, iSeq_ap, sFor_ap, sLc_ap, R.toG_ok, ↓R.bind_bnd, bnd_ok, ↓R.bd_bdn, bdn_ok, ↓R.toF_tof, tof_ok, ↓F.seq_sqn, sqn_nx, sqn_ret, sqn_cnt, sqn_brk, ↓F.turn_trn, trn_nx, trn_ret, trn_cnt, trn_brk, F.end_nx, F.end_ret, ↓br_true, br_true, ↓br_false, br_false, Dbr, Dneg, Dtst, opt_some, dAdd_int, dIAdd_int, dSub_int, dLt_int, dLe_int, dGt_int, dGe_int, dEq_int, dNe_int, dEq_bl, dNe_bl, dMul_cm, dMod_pos, dDiv_pos, dAbs_int, dMax2_int, dMin2_int, dInt_int, dInt_bl, dIx_tup, dIx_lst, dIx_seq, dLen_tup, dLen_lst, dLen_seq, atI_0, atI_1, atI_2, atI_3, List.map_cons, List.map_nil, List.length_cons, List.length_nil, List.replicate_succ, List.replicate_zero, List.cons_append, List.nil_append, List.getElem?_cons_zero, List.getElem?_cons_succ, List.set_cons_zero, List.set_cons_succ, Nat.reduceAdd, Nat.reduceSub, Nat.zero_add, Nat.add_zero, Nat.sub_self, Nat.reduceMul, mostL_def, Nat.reduceLeDiff, Nat.reduceLT, ite_true, ite_false, if_true, if_false, ↓reduceIte, reduceIte, ↓br_ite, Bool.false_eq_true, reduceCtorEq, Bool.not_true, Bool.not_false, decide_true, decide_false, Int.cast_ofNat_Int, Int.reduceBEq, Int.reduceAdd, Int.reduceSub, Int.reduceMul, Int.reduceNeg, Int.reduceLT, Int.reduceLE, Int.reduceMod, Int.reduceDiv, sMeth1_ap, sSl_ap, sRev_ap, oNo_ap, oPart_ap, sDict0_ap, sSetL_ap, sLc2_ap, sStar_ap, isi_tup, kit_tuple_tuple, hn]
theorem turn_bad {x y z w : D} {p q r t : Bool} {h : Ph} (hx : f_is_whole [x] h = .ok (.bl p) h) (hy : f_is_whole [y] h = .ok (.bl q) h) (hz : f_is_whole [z] h = .ok (.bl r) h) (hw : f_is_whole [w] h = .ok (.bl t) h) (hb : (p && (q && (r && t))) = false) : f_is_turn [.tup [x, y, z, w]] h = .ok (.bl false) h := by
  unfold f_is_turn; simp (maxSteps := 4000000) (dsimp := false) (disch := first | assumption | decide | omega | walk_at "cm") only [runDef_ap, sVar_ap, sC_ap, sBin_ap, sNeg_ap, sAnd_ap, sOr_ap, sNot_ap, sIf_ap, sTst_ap, qAnd_ap, qOr_ap, qNot_ap, qYes_ap, sChain_ap, sChain3_ap, sNil_ap, sCons_ap, sTup_ap, sLst_ap, sLstM_ap, sCall_ap, g1_ap, g2_ap, sFn_ap, sAsg_ap, gNm_ap, gTp_ap, gConsS_ap, gNilS_ap, sPar_ap, sPar3_ap, sRet_ap, sRetN_ap, sNx_ap, sBrk_ap, sCnt_ap, sSeq_ap, sIte_ap, sDrop_ap, sFrz_ap, sAug_ap, iRange1_ap, iRange2_ap, iSeq_ap, sFor_ap, sLc_ap, R.toG_ok, ↓R.bind_bnd, bnd_ok, ↓R.bd_bdn, bdn_ok, ↓R.toF_tof, tof_ok, ↓F.seq_sqn, sqn_nx, sqn_ret, sqn_cnt, sqn_brk, ↓F.turn_trn, trn_nx, trn_ret, trn_cnt, trn_brk, F.end_nx, F.end_ret, ↓br_true, br_true, ↓br_false, br_false, Dbr, Dneg, Dtst, opt_some, dAdd_int, dIAdd_int, dSub_int, dLt_int, dLe_int, dGt_int, dGe_int, dEq_int, dNe_int, dEq_bl, dNe_bl, dMul_cm, dMod_pos, dDiv_pos, dAbs_int, dMax2_int, dMin2_int, dInt_int, dInt_bl, dIx_tup, dIx_lst, dIx_seq, dLen_tup, dLen_lst, dLen_seq, atI_0, atI_1, atI_2, atI_3, List.map_cons, List.map_nil, List.length_cons, List.length_nil, List.replicate_succ, List.replicate_zero, List.cons_append, List.nil_append, List.getElem?_cons_zero, List.getElem?_cons_succ, List.set_cons_zero, List.set_cons_succ, Nat.reduceAdd, Nat.reduceSub, Nat.zero_add, Nat.add_zero, Nat.sub_self, Nat.reduceMul, mostL_def, Nat.reduceLeDiff, Nat.reduceLT, ite_true, ite_false, if_true, if_false, ↓reduceIte, reduceIte, ↓br_ite, Bool.false_eq_true, reduceCtorEq, Bool.not_true, Bool.not_false, decide_true, decide_false, Int.cast_ofNat_Int, Int.reduceBEq, Int.reduceAdd, Int.reduceSub, Int.reduceMul, Int.reduceNeg, Int.reduceLT, Int.reduceLE, Int.reduceMod, Int.reduceDiv, sMeth1_ap, sSl_ap, sRev_ap, oNo_ap, oPart_ap, sDict0_ap, sSetL_ap, sLc2_ap, sStar_ap, isi_tup, kit_tuple_tuple, compGo_cons, compGo_nil, wipe_cons, wipe_nil, iSeq_at, dAll_lst, bls_cons, bls_nil, Option.map_some, List.all_cons, List.all_nil, id, hx, hy, hz, hw, Bool.and_true, hb]
/-! ### the law's own reducing -/
def shC (A B C : Int) : Int := A * ((A - B) / (2 * A)) * ((A - B) / (2 * A)) + B * ((A - B) / (2 * A)) + C
/-- how many turns it takes at most -/
def rnu (A B C : Int) : Nat := if Lst A B C = true then 0 else if -A < B ∧ B ≤ A then (if A ≤ C then 1 else 2 * A.natAbs.log2 + 3) else (if A ≤ shC A B C then 2 else 2 * A.natAbs.log2 + 4)
theorem rnu_le {A B C : Int} : rnu A B C ≤ 2 * A.natAbs.log2 + 4 := by
  unfold rnu
  by_cases h1 : Lst A B C = true
  · rw [if_pos h1]; omega
  · rw [if_neg h1]
    by_cases h2 : -A < B ∧ B ≤ A
    · rw [if_pos h2]; split <;> omega
    · rw [if_neg h2]; split <;> omega
theorem rnu_in {A B C : Int} (h1 : -A < B ∧ B ≤ A) : rnu A B C ≤ if A ≤ C then 1 else 2 * A.natAbs.log2 + 3 := by
  unfold rnu
  by_cases h2 : Lst A B C = true
  · rw [if_pos h2]; omega
  · rw [if_neg h2, if_pos h1]; omega
theorem rnu_in3 {A B C : Int} (h1 : -A < B ∧ B ≤ A) (hl : Lst A B C = false) : rnu A B C = if A ≤ C then 1 else 2 * A.natAbs.log2 + 3 := by
  unfold rnu
  rw [if_neg (by rw [hl]; simp), if_pos h1]
theorem rnu_out {A B C : Int} (hp : 0 < A) (h1 : ¬ (-A < B ∧ B ≤ A)) : rnu A B C = if A ≤ shC A B C then 2 else 2 * A.natAbs.log2 + 4 := by
  unfold rnu
  by_cases l : Lst A B C = true
  · exfalso
    obtain ⟨⟨r1, r2, r3⟩, r4⟩ := lst_iff.mp l
    exact h1 ⟨by rcases r4 with h | h <;> omega, r2⟩
  · rw [if_neg l, if_neg h1]
theorem log_third {A C : Int} (h1 : 0 < C) (h2 : 3 * C < A) : C.natAbs.log2 + 1 ≤ A.natAbs.log2 := by
  have e : A.natAbs.log2 = (A.natAbs / 2).log2 + 1 := by
    rw [Nat.log2_def A.natAbs]
    rw [if_pos (by omega)]
  rw [e]
  have : C.natAbs ≤ A.natAbs / 2 := by omega
  have hm : C.natAbs.log2 ≤ (A.natAbs / 2).log2 := (Nat.le_log2 (by omega)).mpr (Nat.le_trans (Nat.log2_self_le (by omega)) this)
  omega
theorem rnu_turn {A B C : Int} (hp : 0 < A) (h1 : -A < B ∧ B ≤ A) (hl : Lst A B C = false) (hC : 0 < C) : rnu C (-B) A < rnu A B C := by
  rw [rnu_in3 h1 hl]
  have hn : ¬ ((-A ≤ B ∧ B ≤ A ∧ A ≤ C) ∧ (0 ≤ B ∨ (B ≠ -A ∧ A ≠ C))) := fun z => by rw [lst_iff.mpr z] at hl; cases hl
  by_cases h : A ≤ C
  · rw [if_pos h]
    have e : C = A := by
      by_cases h2 : C = A
      · exact h2
      · exact absurd ⟨⟨by omega, h1.2, by omega⟩, .inr ⟨by omega, by omega⟩⟩ hn
    subst e
    have hb : B < 0 := by
      by_cases h2 : 0 ≤ B
      · exact absurd ⟨⟨by omega, h1.2, by omega⟩, .inl h2⟩ hn
      · omega
    have l2 : Lst C (-B) C = true := lst_iff.mpr ⟨⟨by omega, by omega, by omega⟩, .inl (by omega)⟩
    unfold rnu
    rw [if_pos l2]
    omega
  · rw [if_neg h]
    by_cases h2 : -C < -B ∧ -B ≤ C
    · have := rnu_in (C := A) h2
      rw [if_pos (by omega)] at this
      omega
    · rw [rnu_out hC h2]
      by_cases h3 : C ≤ shC C (-B) A
      · rw [if_pos h3]; omega
      · rw [if_neg h3]
        have h4 : 3 * C < A := by
          by_cases h5 : 3 * C < A
          · exact h5
          · exfalso
            apply h3
            unfold shC
            have q1 := Int.mul_ediv_add_emod (C - -B) (2 * C)
            have q2 := Int.emod_lt_of_pos (C - -B) (by omega : 0 < 2 * C)
            have q3 := Int.emod_nonneg (C - -B) (by omega : 2 * C ≠ 0)
            generalize (C - -B) / (2 * C) = t at *
            have c1 : t < 3 := by
              by_cases c : t < 3
              · exact c
              · have : 2 * C * 3 ≤ 2 * C * t := Int.mul_le_mul_of_nonneg_left (by omega) (by omega)
                omega
            have c2 : -2 < t := by
              by_cases c : -2 < t
              · exact c
              · have : 2 * C * t ≤ 2 * C * (-2) := Int.mul_le_mul_of_nonneg_left (by omega) (by omega)
                omega
            have c3 : t = -1 ∨ t = 0 ∨ t = 1 ∨ t = 2 := by omega
            rcases c3 with rfl | rfl | rfl | rfl <;> omega
        have := log_third hC h4
        omega
theorem rnu_shift {A B C : Int} (hp : 0 < A) (h1 : ¬ (-A < B ∧ B ≤ A)) : rnu A (B + 2 * A * ((A - B) / (2 * A))) (shC A B C) < rnu A B C := by
  rw [rnu_out hp h1]
  have q1 := Int.mul_ediv_add_emod (A - B) (2 * A)
  have q2 := Int.emod_lt_of_pos (A - B) (by omega : 0 < 2 * A)
  have q3 := Int.emod_nonneg (A - B) (by omega : 2 * A ≠ 0)
  have b1 : -A < B + 2 * A * ((A - B) / (2 * A)) ∧ B + 2 * A * ((A - B) / (2 * A)) ≤ A := by omega
  have := rnu_in (C := shC A B C) b1
  by_cases h : A ≤ shC A B C
  · rw [if_pos h] at this ⊢; omega
  · rw [if_neg h] at this ⊢; omega
theorem bfl_step {k : Nat} {a b c A B C p q r s : Int} {d o1 o4 o5 : Option D} {h : Ph} (f : Fm k a b c) (hk : k ≤ 250) (x : Rst k a b c A B C p q r s) (hl : Lst A B C = false) :
    ∃ A' B' C' p' q' r' s' o4' o5', l__law_bf_least_1 [d, o1, some (T3 A B C), some (T4 p q r s), o4, o5] h = .nx [d, o1, some (T3 A' B' C'), some (T4 p' q' r' s'), o4', o5'] h ∧ Rst k a b c A' B' C' p' q' r' s' ∧ rnu A' B' C' < rnu A B C := by
  have g := (x.fm f).mono (by omega : 2 * k + 3 ≤ 503)
  have m := (x.mx f).mono (by omega : 2 * k + 3 ≤ 503)
  have hC : 0 < C := by
    have h1 := g.mea
    have h2 := sq_nonneg' B
    have : 0 < 4 * A * C := by omega
    exact Int.pos_of_mul_pos_right this (by have := g.pos; omega)
  have hp := g.pos
  have sA : Sm k A := ⟨by have := f.sa.lt; have := x.le; omega⟩
  have lg : (2 * A).natAbs.log2 < 9000 := Nat.lt_of_le_of_lt (log_lt ((Sm.lit (n := 2)).mul (sA.mono hk)).lt) (by decide)
  have a2 : 0 < 2 * A := by omega
  have le := bf_least_ok (a := A) (b := B) (c := C) (h := h)
  rw [hl] at le
  by_cases h1 : -A < B ∧ B ≤ A
  · obtain ⟨y, _⟩ := x.turn h1 hl hC
    have lt := rnu_turn hp h1 hl hC
    have ms : Mx 4 0 (-1) 1 0 := ⟨⟨by decide⟩, ⟨by decide⟩, ⟨by decide⟩, ⟨by decide⟩, by decide⟩
    have e1 := bf_led_ok (h := h) (g.sa.mono (by omega : 503 ≤ 600)) (g.sb.mono (by omega)) (g.sc.mono (by omega)) (ms.mono (by omega))
    have e2 := bf_product_ok (h := h) m ms (by omega) (by omega)
    have z1 : lA A B C 0 1 = C := by unfold lA; grind
    have z2 : lB A B C 0 (-1) 1 0 = -B := by unfold lB; grind
    have z3 : lA A B C (-1) 0 = A := by unfold lA; grind
    have z4 : p * 0 + q * 1 = q := by omega
    have z5 : p * -1 + q * 0 = -p := by omega
    have z6 : r * 0 + s * 1 = s := by omega
    have z7 : r * -1 + s * 0 = -r := by omega
    rw [z1, z2, z3] at e1
    rw [z4, z5, z6, z7] at e2
    have ht : (A - B) / (2 * A) = 0 := by
      have q1 := Int.mul_ediv_add_emod (A - B) (2 * A)
      exact Int.ediv_eq_zero_of_lt (by omega) (by omega)
    refine ⟨C, -B, A, q, -p, s, -r, some (.int 0), some (T4 0 (-1) 1 0), ?_, y, lt⟩
    unfold l__law_bf_least_1
    simp (maxSteps := 4000000) (dsimp := false) (disch := first | assumption | decide | omega | walk_at "cm") only [runDef_ap, sVar_ap, sC_ap, sBin_ap, sNeg_ap, sAnd_ap, sOr_ap, sNot_ap, sIf_ap, sTst_ap, qAnd_ap, qOr_ap, qNot_ap, qYes_ap, sChain_ap, sChain3_ap, sNil_ap, sCons_ap, sTup_ap, sLst_ap, sLstM_ap, sCall_ap, g1_ap, g2_ap, sFn_ap, sAsg_ap, gNm_ap, gTp_ap, gConsS_ap, gNilS_ap, sPar_ap, sPar3_ap, sRet_ap, sRetN_ap, sNx_ap, sBrk_ap, sCnt_ap, sSeq_ap, sIte_ap, sDrop_ap, sFrz_ap, sAug_ap, iRange1_ap, iRange2_ap, iSeq_ap, sFor_ap, sLc_ap, R.toG_ok, ↓R.bind_bnd, bnd_ok, ↓R.bd_bdn, bdn_ok, ↓R.toF_tof, tof_ok, ↓F.seq_sqn, sqn_nx, sqn_ret, sqn_cnt, sqn_brk, ↓F.turn_trn, trn_nx, trn_ret, trn_cnt, trn_brk, F.end_nx, F.end_ret, ↓br_true, br_true, ↓br_false, br_false, Dbr, Dneg, Dtst, opt_some, dAdd_int, dIAdd_int, dSub_int, dLt_int, dLe_int, dGt_int, dGe_int, dEq_int, dNe_int, dEq_bl, dNe_bl, dMul_cm, dMod_pos, dDiv_pos, dAbs_int, dMax2_int, dMin2_int, dInt_int, dInt_bl, dIx_tup, dIx_lst, dIx_seq, dLen_tup, dLen_lst, dLen_seq, atI_0, atI_1, atI_2, atI_3, List.map_cons, List.map_nil, List.length_cons, List.length_nil, List.replicate_succ, List.replicate_zero, List.cons_append, List.nil_append, List.getElem?_cons_zero, List.getElem?_cons_succ, List.set_cons_zero, List.set_cons_succ, Nat.reduceAdd, Nat.reduceSub, Nat.zero_add, Nat.add_zero, Nat.sub_self, Nat.reduceMul, mostL_def, Nat.reduceLeDiff, Nat.reduceLT, ite_true, ite_false, if_true, if_false, ↓reduceIte, reduceIte, ↓br_ite, Bool.false_eq_true, reduceCtorEq, Bool.not_true, Bool.not_false, decide_true, decide_false, Int.cast_ofNat_Int, Int.reduceBEq, Int.reduceAdd, Int.reduceSub, Int.reduceMul, Int.reduceNeg, Int.reduceLT, Int.reduceLE, Int.reduceMod, Int.reduceDiv, sMeth1_ap, sSl_ap, sRev_ap, oNo_ap, oPart_ap, sDict0_ap, sSetL_ap, sLc2_ap, sStar_ap, le, e1, e2, lg, ht]
  · obtain ⟨y, _⟩ := x.shift f.sa h1
    have lt := rnu_shift (C := C) hp h1
    unfold shC at lt
    have st : Sm 501 ((A - B) / (2 * A)) := by
      have h2 := ((sA.sub x.sB).mono (by omega : k + k + 1 ≤ 501)).lt
      have h3 := Int.natAbs_ediv_le_natAbs (A - B) (2 * A)
      exact ⟨Nat.lt_of_le_of_lt h3 h2⟩
    have ht : ((A - B) / (2 * A) == 0) = false := by
      rw [beq_eq_false_iff_ne]
      intro hz
      have q1 := Int.mul_ediv_add_emod (A - B) (2 * A)
      have q2 := Int.emod_lt_of_pos (A - B) (by omega : 0 < 2 * A)
      have q3 := Int.emod_nonneg (A - B) (by omega : 2 * A ≠ 0)
      rw [hz] at q1
      exact h1 (by omega)
    generalize ht0 : (A - B) / (2 * A) = t at *
    have ms : Mx 501 1 t 0 1 := ⟨⟨by decide⟩, st, ⟨by decide⟩, ⟨by decide⟩, by omega⟩
    have e1 := bf_led_ok (h := h) (g.sa.mono (by omega : 503 ≤ 600)) (g.sb.mono (by omega)) (g.sc.mono (by omega)) (ms.mono (by omega))
    have e2 := bf_product_ok (h := h) m ms (by omega) (by omega)
    have z1 : lA A B C 1 0 = A := by unfold lA; grind
    have z2 : lB A B C 1 t 0 1 = B + 2 * A * t := by unfold lB; grind
    have z3 : lA A B C t 1 = A * t * t + B * t + C := by unfold lA; grind
    have z4 : p * 1 + q * 0 = p := by omega
    have z5 : p * t + q * 1 = p * t + q := by omega
    have z6 : r * 1 + s * 0 = r := by omega
    have z7 : r * t + s * 1 = r * t + s := by omega
    rw [z1, z2, z3] at e1
    rw [z4, z5, z6, z7] at e2
    refine ⟨A, _, _, p, _, r, _, some (.int t), some (T4 1 t 0 1), ?_, y, lt⟩
    unfold l__law_bf_least_1
    simp (maxSteps := 4000000) (dsimp := false) (disch := first | assumption | decide | omega | walk_at "cm") only [runDef_ap, sVar_ap, sC_ap, sBin_ap, sNeg_ap, sAnd_ap, sOr_ap, sNot_ap, sIf_ap, sTst_ap, qAnd_ap, qOr_ap, qNot_ap, qYes_ap, sChain_ap, sChain3_ap, sNil_ap, sCons_ap, sTup_ap, sLst_ap, sLstM_ap, sCall_ap, g1_ap, g2_ap, sFn_ap, sAsg_ap, gNm_ap, gTp_ap, gConsS_ap, gNilS_ap, sPar_ap, sPar3_ap, sRet_ap, sRetN_ap, sNx_ap, sBrk_ap, sCnt_ap, sSeq_ap, sIte_ap, sDrop_ap, sFrz_ap, sAug_ap, iRange1_ap, iRange2_ap, iSeq_ap, sFor_ap, sLc_ap, R.toG_ok, ↓R.bind_bnd, bnd_ok, ↓R.bd_bdn, bdn_ok, ↓R.toF_tof, tof_ok, ↓F.seq_sqn, sqn_nx, sqn_ret, sqn_cnt, sqn_brk, ↓F.turn_trn, trn_nx, trn_ret, trn_cnt, trn_brk, F.end_nx, F.end_ret, ↓br_true, br_true, ↓br_false, br_false, Dbr, Dneg, Dtst, opt_some, dAdd_int, dIAdd_int, dSub_int, dLt_int, dLe_int, dGt_int, dGe_int, dEq_int, dNe_int, dEq_bl, dNe_bl, dMul_cm, dMod_pos, dDiv_pos, dAbs_int, dMax2_int, dMin2_int, dInt_int, dInt_bl, dIx_tup, dIx_lst, dIx_seq, dLen_tup, dLen_lst, dLen_seq, atI_0, atI_1, atI_2, atI_3, List.map_cons, List.map_nil, List.length_cons, List.length_nil, List.replicate_succ, List.replicate_zero, List.cons_append, List.nil_append, List.getElem?_cons_zero, List.getElem?_cons_succ, List.set_cons_zero, List.set_cons_succ, Nat.reduceAdd, Nat.reduceSub, Nat.zero_add, Nat.add_zero, Nat.sub_self, Nat.reduceMul, mostL_def, Nat.reduceLeDiff, Nat.reduceLT, ite_true, ite_false, if_true, if_false, ↓reduceIte, reduceIte, ↓br_ite, Bool.false_eq_true, reduceCtorEq, Bool.not_true, Bool.not_false, decide_true, decide_false, Int.cast_ofNat_Int, Int.reduceBEq, Int.reduceAdd, Int.reduceSub, Int.reduceMul, Int.reduceNeg, Int.reduceLT, Int.reduceLE, Int.reduceMod, Int.reduceDiv, sMeth1_ap, sSl_ap, sRev_ap, oNo_ap, oPart_ap, sDict0_ap, sSetL_ap, sLc2_ap, sStar_ap, le, e1, e2, lg, ht, ht0]
theorem bf_least_all {k : Nat} {a b c A B C : Int} {h : Ph} (f : Fm k a b c) (hk : k ≤ 250) (x : Rdc a b c A B C) : ∃ p q r s, f__law_bf_least [T3 a b c] h = .ok (.tup [T3 A B C, T4 p q r s]) h ∧ Rst k a b c A B C p q r s := by
  obtain ⟨e1, h1, q1, rfl, A', B', C', p, q, r, s, o1, o4, o5, rfl, y, l⟩ := for_brk (g := gNm 1) (f := l__law_bf_least_1)
    (fun m e h' => h' = h ∧ ∃ A B C p q r s o1 o4 o5, e = [some (T3 a b c), o1, some (T3 A B C), some (T4 p q r s), o4, o5] ∧ Rst k a b c A B C p q r s ∧ m = rnu A B C)
    (fun e h' => h' = h ∧ ∃ A B C p q r s o1 o4 o5, e = [some (T3 a b c), o1, some (T3 A B C), some (T4 p q r s), o4, o5] ∧ Rst k a b c A B C p q r s ∧ Lst A B C = true)
    (by
      rintro m z e h' ⟨rfl, A, B, C, p, q, r, s, o1, o4, o5, rfl, y, rfl⟩
      refine ⟨_, _, rfl, ?_⟩
      cases l : Lst A B C with
      | true =>
        refine .inl ⟨[some (T3 a b c), some z, some (T3 A B C), some (T4 p q r s), o4, o5], h', ?_, rfl, A, B, C, p, q, r, s, some z, o4, o5, rfl, y, l⟩
        have le := bf_least_ok (a := A) (b := B) (c := C) (h := h')
        rw [l] at le
        show l__law_bf_least_1 [some (T3 a b c), some z, some (T3 A B C), some (T4 p q r s), o4, o5] h' = _
        unfold l__law_bf_least_1
        simp (maxSteps := 4000000) (dsimp := false) (disch := first | assumption | decide | omega | walk_at "cm") only [runDef_ap, sVar_ap, sC_ap, sBin_ap, sNeg_ap, sAnd_ap, sOr_ap, sNot_ap, sIf_ap, sTst_ap, qAnd_ap, qOr_ap, qNot_ap, qYes_ap, sChain_ap, sChain3_ap, sNil_ap, sCons_ap, sTup_ap, sLst_ap, sLstM_ap, sCall_ap, g1_ap, g2_ap, sFn_ap, sAsg_ap, gNm_ap, gTp_ap, gConsS_ap, gNilS_ap, sPar_ap, sPar3_ap, sRet_ap, sRetN_ap, sNx_ap, sBrk_ap, sCnt_ap, sSeq_ap, sIte_ap, sDrop_ap, sFrz_ap, sAug_ap, iRange1_ap, iRange2_ap, iSeq_ap, sFor_ap, sLc_ap, R.toG_ok, ↓R.bind_bnd, bnd_ok, ↓R.bd_bdn, bdn_ok, ↓R.toF_tof, tof_ok, ↓F.seq_sqn, sqn_nx, sqn_ret, sqn_cnt, sqn_brk, ↓F.turn_trn, trn_nx, trn_ret, trn_cnt, trn_brk, F.end_nx, F.end_ret, ↓br_true, br_true, ↓br_false, br_false, Dbr, Dneg, Dtst, opt_some, dAdd_int, dIAdd_int, dSub_int, dLt_int, dLe_int, dGt_int, dGe_int, dEq_int, dNe_int, dEq_bl, dNe_bl, dMul_cm, dMod_pos, dDiv_pos, dAbs_int, dMax2_int, dMin2_int, dInt_int, dInt_bl, dIx_tup, dIx_lst, dIx_seq, dLen_tup, dLen_lst, dLen_seq, atI_0, atI_1, atI_2, atI_3, List.map_cons, List.map_nil, List.length_cons, List.length_nil, List.replicate_succ, List.replicate_zero, List.cons_append, List.nil_append, List.getElem?_cons_zero, List.getElem?_cons_succ, List.set_cons_zero, List.set_cons_succ, Nat.reduceAdd, Nat.reduceSub, Nat.zero_add, Nat.add_zero, Nat.sub_self, Nat.reduceMul, mostL_def, Nat.reduceLeDiff, Nat.reduceLT, ite_true, ite_false, if_true, if_false, ↓reduceIte, reduceIte, ↓br_ite, Bool.false_eq_true, reduceCtorEq, Bool.not_true, Bool.not_false, decide_true, decide_false, Int.cast_ofNat_Int, Int.reduceBEq, Int.reduceAdd, Int.reduceSub, Int.reduceMul, Int.reduceNeg, Int.reduceLT, Int.reduceLE, Int.reduceMod, Int.reduceDiv, sMeth1_ap, sSl_ap, sRev_ap, oNo_ap, oPart_ap, sDict0_ap, sSetL_ap, sLc2_ap, sStar_ap, le]
      | false =>
        obtain ⟨A', B', C', p', q', r', s', o4', o5', st, y, lt⟩ := bfl_step (d := some (T3 a b c)) (o1 := some z) (o4 := o4) (o5 := o5) (h := h') f hk y l
        exact .inr ⟨_, _, _, .inl st, lt, rfl, A', B', C', p', q', r', s', some z, o4', o5', rfl, y, rfl⟩)
    (rangeD 0 4000) (rnu a b c) [some (T3 a b c), none, some (T3 a b c), some (T4 1 0 0 1), none, none] h
    (by
      have h1 := rnu_le (A := a) (B := b) (C := c)
      have h2 := log_lt (f.sa.mono hk).lt
      rw [rangeD_len]
      omega)
    ⟨rfl, a, b, c, 1, 0, 0, 1, none, none, none, rfl, Rst.one f, rfl⟩
  obtain ⟨rfl, rfl, rfl⟩ := x.u A' B' C' p q r s y.det y.eA y.eB y.eC l
  refine ⟨p, q, r, s, ?_, y⟩
  have r4 := rng_ok (n := 4000) (h := h1) (by decide) (by decide)
  rw [show (4000 : Int).toNat = 4000 from rfl] at r4
  unfold f__law_bf_least
  simp (maxSteps := 4000000) (dsimp := false) (disch := first | assumption | decide | omega | walk_at "cm") only [runDef_ap, sVar_ap, sC_ap, sBin_ap, sNeg_ap, sAnd_ap, sOr_ap, sNot_ap, sIf_ap, sTst_ap, qAnd_ap, qOr_ap, qNot_ap, qYes_ap, sChain_ap, sChain3_ap, sNil_ap, sCons_ap, sTup_ap, sLst_ap, sLstM_ap, sCall_ap, g1_ap, g2_ap, sFn_ap, sAsg_ap, gNm_ap, gTp_ap, gConsS_ap, gNilS_ap, sPar_ap, sPar3_ap, sRet_ap, sRetN_ap, sNx_ap, sBrk_ap, sCnt_ap, sSeq_ap, sIte_ap, sDrop_ap, sFrz_ap, sAug_ap, iRange1_ap, iRange2_ap, iSeq_ap, sFor_ap, sLc_ap, R.toG_ok, ↓R.bind_bnd, bnd_ok, ↓R.bd_bdn, bdn_ok, ↓R.toF_tof, tof_ok, ↓F.seq_sqn, sqn_nx, sqn_ret, sqn_cnt, sqn_brk, ↓F.turn_trn, trn_nx, trn_ret, trn_cnt, trn_brk, F.end_nx, F.end_ret, ↓br_true, br_true, ↓br_false, br_false, Dbr, Dneg, Dtst, opt_some, dAdd_int, dIAdd_int, dSub_int, dLt_int, dLe_int, dGt_int, dGe_int, dEq_int, dNe_int, dEq_bl, dNe_bl, dMul_cm, dMod_pos, dDiv_pos, dAbs_int, dMax2_int, dMin2_int, dInt_int, dInt_bl, dIx_tup, dIx_lst, dIx_seq, dLen_tup, dLen_lst, dLen_seq, atI_0, atI_1, atI_2, atI_3, List.map_cons, List.map_nil, List.length_cons, List.length_nil, List.replicate_succ, List.replicate_zero, List.cons_append, List.nil_append, List.getElem?_cons_zero, List.getElem?_cons_succ, List.set_cons_zero, List.set_cons_succ, Nat.reduceAdd, Nat.reduceSub, Nat.zero_add, Nat.add_zero, Nat.sub_self, Nat.reduceMul, mostL_def, Nat.reduceLeDiff, Nat.reduceLT, ite_true, ite_false, if_true, if_false, ↓reduceIte, reduceIte, ↓br_ite, Bool.false_eq_true, reduceCtorEq, Bool.not_true, Bool.not_false, decide_true, decide_false, Int.cast_ofNat_Int, Int.reduceBEq, Int.reduceAdd, Int.reduceSub, Int.reduceMul, Int.reduceNeg, Int.reduceLT, Int.reduceLE, Int.reduceMod, Int.reduceDiv, sMeth1_ap, sSl_ap, sRev_ap, oNo_ap, oPart_ap, sDict0_ap, sSetL_ap, sLc2_ap, sStar_ap, r4, Int.reduceToNat, q1]
/-! ### a list that is made -/
theorem Dr.put {d m : Nat} {h h' : Ph} (a : Dr d h h') (hd : d < h.length) (hm : h.length ≤ m) (o : PO) : Dr d h (h'.set m o) := by
  refine ⟨?_, by rw [List.length_set]; exact a.len, fun k hk hl => ?_⟩
  · obtain ⟨l, x, t, e⟩ := a.dc
    exact ⟨l, x, t, by rw [List.getElem?_set_ne (by omega)]; exact e⟩
  · rw [List.getElem?_set_ne (by omega)]
    exact a.keep k hk hl
/-- the dice at d, a list of things that are P at m, behind h -/
structure Mk (d m : Nat) (P : D → Prop) (k : Nat) (h h' : Ph) : Prop where
  dr : Dr d h h'
  hd : d < h.length
  hm : h.length ≤ m
  ob : ∃ ys, h'[m]? = some (.lst ys) ∧ (∀ y ∈ ys, P y) ∧ ys.length ≤ k
theorem Mk.mono {d m k j : Nat} {P : D → Prop} {h h' : Ph} (x : Mk d m P k h h') (hk : k ≤ j) : Mk d m P j h h' := by
  obtain ⟨ys, e, p, l⟩ := x.ob
  exact ⟨x.dr, x.hd, x.hm, ys, e, p, by omega⟩
theorem Mk.dice {d m k : Nat} {P : D → Prop} {h h' h2 : Ph} (x : Mk d m P k h h') (y : Dr d h' h2) : Mk d m P k h h2 := by
  obtain ⟨ys, e, p, l⟩ := x.ob
  have hl := (List.getElem?_eq_some_iff.mp e).1
  exact ⟨x.dr.trans y, x.hd, x.hm, ys, by rw [y.keep m (by have := x.hd; have := x.hm; omega) hl]; exact e, p, l⟩
theorem Mk.app {d m k : Nat} {P : D → Prop} {h h' : Ph} (x : Mk d m P k h h') (hk : k < 1000000) {v : D} (hv : P v) : ∃ h2, dAppend (.ref m) v h' = .ok .non h2 ∧ Mk d m P (k + 1) h h2 := by
  obtain ⟨ys, e, p, l⟩ := x.ob
  have hl := (List.getElem?_eq_some_iff.mp e).1
  refine ⟨h'.set m (.lst (ys ++ [v])), ?_, x.dr.put x.hd x.hm _, x.hd, x.hm, ys ++ [v], List.getElem?_set_self hl, fun y hy => ?_, by rw [List.length_append, List.length_singleton]; omega⟩
  · unfold dAppend onLst
    simp only [e]
    rw [if_pos (by unfold mostL; omega)]
  · rcases List.mem_append.mp hy with q | q
    · exact p y q
    · rw [List.mem_singleton.mp q]; exact hv
theorem Mk.ls {d m k : Nat} {P : D → Prop} {h h' : Ph} (x : Mk d m P k h h') : ∃ ys, lsOf (.ref m) h' = some ys := by
  obtain ⟨ys, e, p, l⟩ := x.ob
  exact ⟨ys, by unfold lsOf; simp only [e]⟩
theorem Mk.frz {d m k : Nat} {P : D → Prop} {h h' : Ph} (x : Mk d m P k h h') : ∃ ys h2, frzD (.ref m) h' = (.lst ys, h2) ∧ (∀ y ∈ ys, P y) ∧ ys.length ≤ k ∧ Dr d h h2 := by
  obtain ⟨ys, e, p, l⟩ := x.ob
  exact ⟨ys, h'.set m .dead, by unfold frzD; simp only [e], p, l, x.dr.put x.hd x.hm _⟩
theorem Mk.new {d : Nat} {P : D → Prop} {h : Ph} (hd : Dc h d) {ys : List D} (p : ∀ y ∈ ys, P y) : Mk d h.length P ys.length h (h ++ [.lst ys]) := by
  obtain ⟨l, x, t, e⟩ := id hd
  exact ⟨(Dr.refl hd).push _, (List.getElem?_eq_some_iff.mp e).1, Nat.le_refl _, ys, by simp, p, Nat.le_refl _⟩
end Pd

/-! Pm: rims, columns beside -/
namespace Pd
open PySem L2 Evl
local macro_rules | `(tactic| walk_at "sm") => `(tactic| first | assumption | exact Sm.lit | exact Sm.mul (by walk_at "sm") (by walk_at "sm") | exact Sm.add (by walk_at "sm") (by walk_at "sm") | exact Sm.sub (by walk_at "sm") (by walk_at "sm") | exact Sm.neg (by walk_at "sm"))
local macro_rules | `(tactic| walk_at "cm") => `(tactic| ((with_reducible show CM _ _); first | assumption | exact CM.left (by decide) | exact CM.right (by decide) | exact CM.left (by omega) | exact CM.right (by omega) | exact CM.of (by walk_at "sm") (by walk_at "sm") (by decide)))
def l_least_top_1 : SS := sAug 3 dIAdd (sVar 1)
def f_least_top : Fn := runDef 4 (sSeq (sAsg (sBin dMod (sVar 2) (sVar 1)) (gNm 3)) (sSeq (sWhile FU (sTst (sBin dNe (sFn f_common_of (sCons (sVar 3) (sCons (sVar 0) (sNil)))) (sC (.int 1)))) (l_least_top_1)) (sRet (sVar 3))))
def f_rim_in : Fn := runDef 5 (sSeq (sAsg (sVar 1) (gTp 2 (gConsS (gNm 3) (gConsS (gNm 4) (gNilS))))) (sSeq (sAsg (sFn f_common_of (sCons (sVar 4) (sCons (sVar 0) (sNil)))) (gNm 2)) (sRet (sTup (sCons (sFn f_least_top (sCons (sVar 2) (sCons (sFn f_common_of (sCons (sVar 2) (sCons (sBin dDiv (sVar 0) (sVar 2)) (sNil)))) (sCons (sBin dMul (sVar 3) (sBin dDiv (sVar 4) (sVar 2))) (sNil))))) (sCons (sVar 2) (sNil)))))))
def f_rim_of : Fn := runDef 2 (sSeq (sDrop (sFn f_require_level (sCons (sVar 0) (sNil)))) (sSeq (sDrop (sFn f_require_fraction (sCons (sVar 1) (sNil)))) (sRet (sFn f_rim_in (sCons (sVar 0) (sCons (sVar 1) (sNil)))))))
def f_require_two : Fn := runDef 3 (sSeq (sDrop (sFn f_require_level (sCons (sVar 0) (sNil)))) (sSeq (sDrop (sFn f_require_fraction (sCons (sVar 1) (sNil)))) (sDrop (sFn f_require_fraction (sCons (sVar 2) (sNil))))))
def l_column_beside_1 : SS := sSeq (sAsg (sBin dDiv (sVar 2) (sVar 3)) (gNm 8)) (sSeq (sPar 2 3 (sCons (sVar 3) (sCons (sBin dSub (sVar 2) (sBin dMul (sVar 8) (sVar 3))) (sNil)))) (sSeq (sPar 4 5 (sCons (sVar 5) (sCons (sBin dSub (sVar 4) (sBin dMul (sVar 8) (sVar 5))) (sNil)))) (sPar 6 7 (sCons (sVar 7) (sCons (sBin dSub (sVar 6) (sBin dMul (sVar 8) (sVar 7))) (sNil))))))
def f_column_beside : Fn := runDef 9 (sSeq (sAsg (sTup (sCons (sVar 1) (sCons (sVar 0) (sCons (sC (.int 0)) (sCons (sC (.int 1)) (sNil)))))) (gTp 4 (gConsS (gNm 2) (gConsS (gNm 3) (gConsS (gNm 4) (gConsS (gNm 5) (gNilS))))))) (sSeq (sAsg (sTup (sCons (sC (.int 1)) (sCons (sC (.int 0)) (sNil)))) (gTp 2 (gConsS (gNm 6) (gConsS (gNm 7) (gNilS))))) (sSeq (sWhile FU (sTst (sBin dNe (sVar 3) (sC (.int 0)))) (l_column_beside_1)) (sRet (sTup (sCons (sBin dMul (sNeg (sVar 6)) (sVar 2)) (sCons (sBin dMul (sVar 4) (sVar 2)) (sNil))))))))
def f_matrix_to : Fn := runDef 2 (sSeq (sAsg (sFn f_column_beside (sCons (sBin dIx (sVar 0) (sC (.int 0))) (sCons (sBin dIx (sVar 0) (sC (.int 1))) (sNil)))) (gNm 1)) (sRet (sTup (sCons (sBin dIx (sVar 0) (sC (.int 0))) (sCons (sBin dIx (sVar 1) (sC (.int 0))) (sCons (sBin dIx (sVar 0) (sC (.int 1))) (sCons (sBin dIx (sVar 1) (sC (.int 1))) (sNil))))))))
def f_are_same_rim : Fn := runDef 3 (sSeq (sDrop (sFn f_require_two (sCons (sVar 0) (sCons (sVar 1) (sCons (sVar 2) (sNil)))))) (sRet (sBin dEq (sFn f_rim_in (sCons (sVar 0) (sCons (sVar 1) (sNil)))) (sFn f_rim_in (sCons (sVar 0) (sCons (sVar 2) (sNil)))))))
/-! ### the column beside a fraction -/
/-- the state of the loop: a, b; f, s; l, r -/
structure Cb1 (B T : Int) (M : Nat) (a b f s l r : Int) : Prop where
  ea : l * B + f * T = a
  eb : r * B + s * T = b
  g : Int.gcd a b = 1
  sa : a.natAbs < 2 ^ 30
  sb : b.natAbs < 2 ^ 30
  sf : f.natAbs ≤ M
  sl : l.natAbs ≤ M
  ss : s.natAbs ≤ M
  sr : r.natAbs ≤ M
/-- .. with a, b of one sign -/
structure Cb2 (B T : Int) (M : Nat) (a b f s l r : Int) : Prop extends Cb1 B T M a b f s l r where
  sg : (0 ≤ a ∧ 0 ≤ b) ∨ (a ≤ 0 ∧ b ≤ 0)
  p1 : s.natAbs * a.natAbs + f.natAbs * b.natAbs ≤ M
  p2 : r.natAbs * a.natAbs + l.natAbs * b.natAbs ≤ M
theorem fdiv_nat {a b : Int} (hb : b ≠ 0) (sg : (0 ≤ a ∧ 0 ≤ b) ∨ (a ≤ 0 ∧ b ≤ 0)) : a.fdiv b = ((a.natAbs / b.natAbs : Nat) : Int) ∧ (a - a.fdiv b * b).natAbs = a.natAbs % b.natAbs ∧ ((0 ≤ b ∧ 0 ≤ a - a.fdiv b * b) ∨ (b ≤ 0 ∧ a - a.fdiv b * b ≤ 0)) := by
  have em := Int.mul_fdiv_add_fmod a b
  rcases sg with ⟨h1, h2⟩ | ⟨h1, h2⟩
  · obtain ⟨q1, q2⟩ := un_div (s := 1) (.inl rfl) a.natAbs b.natAbs
    have ea : (1 : Int) * (a.natAbs : Int) = a := by omega
    have eb : (1 : Int) * (b.natAbs : Int) = b := by omega
    rw [ea, eb] at q1 q2
    have e : a - a.fdiv b * b = a.fmod b := by rw [Int.mul_comm]; omega
    rw [e]
    exact ⟨q1, by rw [q2]; omega, .inl ⟨h2, by rw [q2]; omega⟩⟩
  · obtain ⟨q1, q2⟩ := un_div (s := -1) (.inr rfl) a.natAbs b.natAbs
    have ea : (-1 : Int) * (a.natAbs : Int) = a := by omega
    have eb : (-1 : Int) * (b.natAbs : Int) = b := by omega
    rw [ea, eb] at q1 q2
    have e : a - a.fdiv b * b = a.fmod b := by rw [Int.mul_comm]; omega
    rw [e]
    exact ⟨q1, by rw [q2]; omega, .inr ⟨h2, by rw [q2]; omega⟩⟩
theorem gcd_fdiv {a b : Int} : Int.gcd b (a - a.fdiv b * b) = Int.gcd a b := by
  have e : a - a.fdiv b * b = a.fmod b := by have := Int.mul_fdiv_add_fmod a b; rw [Int.mul_comm]; omega
  rw [e]; exact fmod_gcd a b
theorem Cb2.next {B T : Int} {M : Nat} {a b f s l r : Int} (x : Cb2 B T M a b f s l r) (hb : b ≠ 0) : Cb2 B T M b (a - a.fdiv b * b) s (f - a.fdiv b * s) r (l - a.fdiv b * r) ∧ (a - a.fdiv b * b).natAbs < b.natAbs := by
  obtain ⟨q1, q2, q3⟩ := fdiv_nat hb x.sg
  have hlt : (a - a.fdiv b * b).natAbs < b.natAbs := by rw [q2]; exact Nat.mod_lt _ (by omega)
  have ha : 1 ≤ a.natAbs ∨ a.natAbs = 0 := by omega
  have bnd : ∀ u v : Int, u.natAbs * a.natAbs + v.natAbs * b.natAbs ≤ M → (v - a.fdiv b * u).natAbs * b.natAbs + u.natAbs * (a.natAbs % b.natAbs) ≤ M := by
    intro u v h
    have h1 : (v - a.fdiv b * u).natAbs ≤ v.natAbs + (a.natAbs / b.natAbs) * u.natAbs := by
      rw [q1]
      refine Nat.le_trans (Int.natAbs_sub_le _ _) ?_
      rw [Int.natAbs_mul, Int.natAbs_natCast]
      exact Nat.le_refl _
    have h2 := Nat.mul_le_mul_right b.natAbs h1
    have h3 := Nat.div_add_mod a.natAbs b.natAbs
    have h4 : (v.natAbs + a.natAbs / b.natAbs * u.natAbs) * b.natAbs + u.natAbs * (a.natAbs % b.natAbs) = v.natAbs * b.natAbs + u.natAbs * (b.natAbs * (a.natAbs / b.natAbs) + a.natAbs % b.natAbs) := by grind
    rw [h3] at h4
    omega
  have le1 : ∀ u v : Int, (v - a.fdiv b * u).natAbs * b.natAbs + u.natAbs * (a.natAbs % b.natAbs) ≤ M → (v - a.fdiv b * u).natAbs ≤ M := by
    intro u v h
    have : (v - a.fdiv b * u).natAbs * 1 ≤ (v - a.fdiv b * u).natAbs * b.natAbs := Nat.mul_le_mul_left _ (by omega)
    omega
  have b1 := bnd _ _ x.p1
  have b2 := bnd _ _ x.p2
  refine ⟨⟨⟨x.eb, ?_, ?_, x.sb, ?_, x.ss, x.sr, le1 _ _ b1, le1 _ _ b2⟩, q3, ?_, ?_⟩, hlt⟩
  · have h1 := x.ea
    have h2 := x.eb
    rw [← h1, ← h2]
    generalize (l * B + f * T).fdiv (r * B + s * T) = q
    grind
  · rw [gcd_fdiv]; exact x.g
  · have := x.sb; omega
  · rw [q2]; exact b1
  · rw [q2]; exact b2
theorem Cb2.start {B T : Int} (hg : Int.gcd B T = 1) (hB : 0 ≤ B) (hT : 0 ≤ T) (sB : Sm 30 B) (sT : Sm 30 T) : Cb2 B T (B.natAbs + 2 * T.natAbs + 1) B T 0 1 1 0 := by
  refine ⟨⟨by omega, by omega, hg, sB.lt, sT.lt, by omega, by omega, by omega, by omega⟩, .inl ⟨hB, hT⟩, ?_, ?_⟩
  · show 1 * B.natAbs + 0 * T.natAbs ≤ _; omega
  · show 0 * B.natAbs + 1 * T.natAbs ≤ _; omega
theorem Cb2.start2 {B T : Int} (hg : Int.gcd B T = 1) (hB : 0 ≤ B) (hT : T < 0) (sB : Sm 30 B) (sT : Sm 30 T) : Cb2 B T (B.natAbs + 2 * T.natAbs + 1) T (B - B.fdiv T * T) 1 (0 - B.fdiv T * 1) 0 (1 - B.fdiv T * 0) ∧ (B - B.fdiv T * T).natAbs < T.natAbs := by
  have e : B - B.fdiv T * T = B.fmod T := by have := Int.mul_fdiv_add_fmod B T; rw [Int.mul_comm]; omega
  have hlt := fmod_lt B T (by omega)
  have hs : B.fmod T ≤ 0 := by
    obtain ⟨s, hs, e1, e2⟩ := sgn_split (c := T) (by omega)
    have e3 := e2 B
    rcases hs with rfl | rfl <;> omega
  have hq : (B.fdiv T).natAbs * T.natAbs ≤ B.natAbs + T.natAbs := fdiv_bound B T (by omega)
  have h1 : (B.fdiv T).natAbs * 1 ≤ (B.fdiv T).natAbs * T.natAbs := Nat.mul_le_mul_left _ (by omega)
  have hqn : (0 - B.fdiv T * 1).natAbs = (B.fdiv T).natAbs := by omega
  refine ⟨⟨⟨by omega, ?_, by rw [gcd_fdiv]; exact hg, sT.lt, by rw [e]; have := sT.lt; omega, by omega, by omega, by rw [hqn]; omega, by omega⟩, .inr ⟨by omega, by rw [e]; exact hs⟩, ?_, ?_⟩, by rw [e]; exact hlt⟩
  · generalize B.fdiv T = q; grind
  · rw [hqn, e]; show _ + 1 * _ ≤ _; omega
  · have : (1 - B.fdiv T * 0).natAbs = 1 := by rw [Int.mul_zero]; rfl
    rw [this]; show 1 * _ + 0 * _ ≤ _; omega
theorem column_step {B T : Int} {M : Nat} {a b f s l r : Int} {o0 o1 o8 : Option D} {h : Ph} (x : Cb1 B T M a b f s l r) (hb : b ≠ 0) :
    l_column_beside_1 [o0, o1, some (.int a), some (.int b), some (.int f), some (.int s), some (.int l), some (.int r), o8] h = .nx [o0, o1, some (.int b), some (.int (a - a.fdiv b * b)), some (.int s), some (.int (f - a.fdiv b * s)), some (.int r), some (.int (l - a.fdiv b * r)), some (.int (a.fdiv b))] h := by
  have sq : (a.fdiv b).natAbs < 18446744073709551616 := by
    have h1 := fdiv_bound a b hb
    have h2 := x.sa
    have h3 := x.sb
    have h4 : (a.fdiv b).natAbs * 1 ≤ (a.fdiv b).natAbs * b.natAbs := Nat.mul_le_mul_left _ (by omega)
    omega
  have e1 := dDiv_f (i := a) (h := h) hb ⟨x.sb⟩
  have c1 : CM (a.fdiv b) b := CM.left sq
  have c2 : CM (a.fdiv b) s := CM.left sq
  have c3 : CM (a.fdiv b) r := CM.left sq
  unfold l_column_beside_1
  simp (maxSteps := 4000000) (dsimp := false) (disch := first | assumption | decide | omega | walk_at "cm") only [runDef_ap, sVar_ap, sC_ap, sBin_ap, sNeg_ap, sAnd_ap, sOr_ap, sNot_ap, sIf_ap, sTst_ap, qAnd_ap, qOr_ap, qNot_ap, qYes_ap, sChain_ap, sChain3_ap, sNil_ap, sCons_ap, sTup_ap, sLst_ap, sLstM_ap, sCall_ap, g1_ap, g2_ap, sFn_ap, sAsg_ap, gNm_ap, gTp_ap, gConsS_ap, gNilS_ap, sPar_ap, sPar3_ap, sRet_ap, sRetN_ap, sNx_ap, sBrk_ap, sCnt_ap, sSeq_ap, sIte_ap, sDrop_ap, sFrz_ap, sAug_ap, iRange1_ap, iRange2_ap, iSeq_ap, sFor_ap, sLc_ap, R.toG_ok, ↓R.bind_bnd, bnd_ok, ↓R.bd_bdn, bdn_ok, ↓R.toF_tof, tof_ok, ↓F.seq_sqn, sqn_nx, sqn_ret, sqn_cnt, sqn_brk, ↓F.turn_trn, trn_nx, trn_ret, trn_cnt, trn_brk, F.end_nx, F.end_ret, ↓br_true, br_true, ↓br_false, br_false, Dbr, Dneg, Dtst, opt_some, dAdd_int, dIAdd_int, dSub_int, dLt_int, dLe_int, dGt_int, dGe_int, dEq_int, dNe_int, dEq_bl, dNe_bl, dMul_cm, dMod_pos, dDiv_pos, dAbs_int, dMax2_int, dMin2_int, dInt_int, dInt_bl, dIx_tup, dIx_lst, dIx_seq, dLen_tup, dLen_lst, dLen_seq, atI_0, atI_1, atI_2, atI_3, List.map_cons, List.map_nil, List.length_cons, List.length_nil, List.replicate_succ, List.replicate_zero, List.cons_append, List.nil_append, List.getElem?_cons_zero, List.getElem?_cons_succ, List.set_cons_zero, List.set_cons_succ, Nat.reduceAdd, Nat.reduceSub, Nat.zero_add, Nat.add_zero, Nat.sub_self, Nat.reduceMul, mostL_def, Nat.reduceLeDiff, Nat.reduceLT, ite_true, ite_false, if_true, if_false, ↓reduceIte, reduceIte, ↓br_ite, Bool.false_eq_true, reduceCtorEq, Bool.not_true, Bool.not_false, decide_true, decide_false, Int.cast_ofNat_Int, Int.reduceBEq, Int.reduceAdd, Int.reduceSub, Int.reduceMul, Int.reduceNeg, Int.reduceLT, Int.reduceLE, Int.reduceMod, Int.reduceDiv, sMeth1_ap, sSl_ap, sRev_ap, oNo_ap, oPart_ap, sDict0_ap, sSetL_ap, sLc2_ap, sStar_ap, e1, c1, c2, c3]
theorem column_run {B T : Int} {M : Nat} {o0 o1 : Option D} {h : Ph} (N : Nat) (hN : 2 ^ 30 < N) {a b f s l r : Int} {o8 : Option D} (x : Cb2 B T M a b f s l r) :
    ∃ a' f' s' l' r' o8', sWhile N (sTst (sBin dNe (sVar 3) (sC (.int 0)))) l_column_beside_1 [o0, o1, some (.int a), some (.int b), some (.int f), some (.int s), some (.int l), some (.int r), o8] h = .nx [o0, o1, some (.int a'), some (.int 0), some (.int f'), some (.int s'), some (.int l'), some (.int r'), o8'] h ∧ Cb1 B T M a' 0 f' s' l' r' := by
  obtain ⟨e1, h1, q1, rfl, a', f', s', l', r', o8', rfl, y⟩ := while_run (c := sTst (sBin dNe (sVar 3) (sC (.int 0)))) (f := l_column_beside_1)
    (fun m e h' => h' = h ∧ ∃ a b f s l r o8, e = [o0, o1, some (.int a), some (.int b), some (.int f), some (.int s), some (.int l), some (.int r), o8] ∧ Cb2 B T M a b f s l r ∧ m = b.natAbs)
    (fun e h' => h' = h ∧ ∃ a f s l r o8, e = [o0, o1, some (.int a), some (.int 0), some (.int f), some (.int s), some (.int l), some (.int r), o8] ∧ Cb1 B T M a 0 f s l r)
    (by
      rintro m e h' ⟨rfl, a, b, f, s, l, r, o8, rfl, x, rfl⟩
      have hc : sTst (sBin dNe (sVar 3) (sC (.int 0))) [o0, o1, some (.int a), some (.int b), some (.int f), some (.int s), some (.int l), some (.int r), o8] h' = .ok (!(b == 0)) h' := by simp (maxSteps := 4000000) (dsimp := false) (disch := first | assumption | decide | omega | walk_at "cm") only [runDef_ap, sVar_ap, sC_ap, sBin_ap, sNeg_ap, sAnd_ap, sOr_ap, sNot_ap, sIf_ap, sTst_ap, qAnd_ap, qOr_ap, qNot_ap, qYes_ap, sChain_ap, sChain3_ap, sNil_ap, sCons_ap, sTup_ap, sLst_ap, sLstM_ap, sCall_ap, g1_ap, g2_ap, sFn_ap, sAsg_ap, gNm_ap, gTp_ap, gConsS_ap, gNilS_ap, sPar_ap, sPar3_ap, sRet_ap, sRetN_ap, sNx_ap, sBrk_ap, sCnt_ap, sSeq_ap, sIte_ap, sDrop_ap, sFrz_ap, sAug_ap, iRange1_ap, iRange2_ap, iSeq_ap, sFor_ap, sLc_ap, R.toG_ok, ↓R.bind_bnd, bnd_ok, ↓R.bd_bdn, bdn_ok, ↓R.toF_tof, tof_ok, ↓F.seq_sqn, sqn_nx, sqn_ret, sqn_cnt, sqn_brk, ↓F.turn_trn, trn_nx, trn_ret, trn_cnt, trn_brk, F.end_nx, F.end_ret, ↓br_true, br_true, ↓br_false, br_false, Dbr, Dneg, Dtst, opt_some, dAdd_int, dIAdd_int, dSub_int, dLt_int, dLe_int, dGt_int, dGe_int, dEq_int, dNe_int, dEq_bl, dNe_bl, dMul_cm, dMod_pos, dDiv_pos, dAbs_int, dMax2_int, dMin2_int, dInt_int, dInt_bl, dIx_tup, dIx_lst, dIx_seq, dLen_tup, dLen_lst, dLen_seq, atI_0, atI_1, atI_2, atI_3, List.map_cons, List.map_nil, List.length_cons, List.length_nil, List.replicate_succ, List.replicate_zero, List.cons_append, List.nil_append, List.getElem?_cons_zero, List.getElem?_cons_succ, List.set_cons_zero, List.set_cons_succ, Nat.reduceAdd, Nat.reduceSub, Nat.zero_add, Nat.add_zero, Nat.sub_self, Nat.reduceMul, mostL_def, Nat.reduceLeDiff, Nat.reduceLT, ite_true, ite_false, if_true, if_false, ↓reduceIte, reduceIte, ↓br_ite, Bool.false_eq_true, reduceCtorEq, Bool.not_true, Bool.not_false, decide_true, decide_false, Int.cast_ofNat_Int, Int.reduceBEq, Int.reduceAdd, Int.reduceSub, Int.reduceMul, Int.reduceNeg, Int.reduceLT, Int.reduceLE, Int.reduceMod, Int.reduceDiv, sMeth1_ap, sSl_ap, sRev_ap, oNo_ap, oPart_ap, sDict0_ap, sSetL_ap, sLc2_ap, sStar_ap]
      by_cases hb : b = 0
      · subst hb
        exact .inl ⟨h', hc, rfl, a, f, s, l, r, o8, rfl, x.toCb1⟩
      · obtain ⟨y, lt⟩ := x.next hb
        refine .inr ⟨h', _, h', _, by rw [hc, beq_false_of_ne hb]; rfl, .inl (column_step x.toCb1 hb), lt, rfl, _, _, _, _, _, _, _, rfl, y, rfl⟩)
    b.natAbs N [o0, o1, some (.int a), some (.int b), some (.int f), some (.int s), some (.int l), some (.int r), o8] h (by have := x.sb; omega) ⟨rfl, _, _, _, _, _, _, _, rfl, x, rfl⟩
  exact ⟨a', f', s', l', r', o8', q1, y⟩
/-- beside T over B stand X, Y with T Y - X B = 1 -/
theorem column_ok {B T : Int} {k : Nat} {h : Ph} (hg : Int.gcd B T = 1) (hB : 0 ≤ B) (hk : k ≤ 30) (sB : Sm k B) (sT : Sm k T) : ∃ X Y, f_column_beside [.int T, .int B] h = .ok (T2 X Y) h ∧ T * Y - X * B = 1 ∧ Sm (k + 2) X ∧ Sm (k + 2) Y := by
  have fin : ∀ {a f s l r : Int}, Cb1 B T (B.natAbs + 2 * T.natAbs + 1) a 0 f s l r → (a = 1 ∨ a = -1) ∧ T * (f * a) - (-l * a) * B = 1 ∧ Sm (k + 2) (-l * a) ∧ Sm (k + 2) (f * a) := by
    intro a f s l r x
    have ha : a.natAbs = 1 := by have := x.g; rw [Int.gcd_zero_right] at this; exact this
    have h1 : a = 1 ∨ a = -1 := by omega
    have e := x.ea
    have pk : (2 : Nat) ^ (k + 2) = 4 * 2 ^ k := by rw [Nat.pow_add]; omega
    have b1 := sB.lt
    have b2 := sT.lt
    have b3 := x.sf
    have b4 := x.sl
    refine ⟨h1, ?_, ⟨?_⟩, ⟨?_⟩⟩
    · rcases h1 with rfl | rfl <;> grind
    · rw [Int.natAbs_mul, Int.natAbs_neg, ha]; omega
    · rw [Int.natAbs_mul, ha]; omega
  have hF : 2 ^ 30 + 2 < FU := by unfold FU; decide
  by_cases hT : 0 ≤ T
  · obtain ⟨a, f, s, l, r, o8, q1, x⟩ := column_run (o0 := some (.int T)) (o1 := some (.int B)) (o8 := none) (h := h) FU (by omega) (Cb2.start hg hB hT (sB.mono hk) (sT.mono hk))
    obtain ⟨h1, h2, h3, h4⟩ := fin x
    refine ⟨-l * a, f * a, ?_, h2, h3, h4⟩
    have c1 : CM (-l) a := CM.right (by omega)
    have c2 : CM f a := CM.right (by omega)
    unfold f_column_beside
    simp (maxSteps := 4000000) (dsimp := false) (disch := first | assumption | decide | omega | walk_at "cm") only [runDef_ap, sVar_ap, sC_ap, sBin_ap, sNeg_ap, sAnd_ap, sOr_ap, sNot_ap, sIf_ap, sTst_ap, qAnd_ap, qOr_ap, qNot_ap, qYes_ap, sChain_ap, sChain3_ap, sNil_ap, sCons_ap, sTup_ap, sLst_ap, sLstM_ap, sCall_ap, g1_ap, g2_ap, sFn_ap, sAsg_ap, gNm_ap, gTp_ap, gConsS_ap, gNilS_ap, sPar_ap, sPar3_ap, sRet_ap, sRetN_ap, sNx_ap, sBrk_ap, sCnt_ap, sSeq_ap, sIte_ap, sDrop_ap, sFrz_ap, sAug_ap, iRange1_ap, iRange2_ap, iSeq_ap, sFor_ap, sLc_ap, R.toG_ok, ↓R.bind_bnd, bnd_ok, ↓R.bd_bdn, bdn_ok, ↓R.toF_tof, tof_ok, ↓F.seq_sqn, sqn_nx, sqn_ret, sqn_cnt, sqn_brk, ↓F.turn_trn, trn_nx, trn_ret, trn_cnt, trn_brk, F.end_nx, F.end_ret, ↓br_true, br_true, ↓br_false, br_false, Dbr, Dneg, Dtst, opt_some, dAdd_int, dIAdd_int, dSub_int, dLt_int, dLe_int, dGt_int, dGe_int, dEq_int, dNe_int, dEq_bl, dNe_bl, dMul_cm, dMod_pos, dDiv_pos, dAbs_int, dMax2_int, dMin2_int, dInt_int, dInt_bl, dIx_tup, dIx_lst, dIx_seq, dLen_tup, dLen_lst, dLen_seq, atI_0, atI_1, atI_2, atI_3, List.map_cons, List.map_nil, List.length_cons, List.length_nil, List.replicate_succ, List.replicate_zero, List.cons_append, List.nil_append, List.getElem?_cons_zero, List.getElem?_cons_succ, List.set_cons_zero, List.set_cons_succ, Nat.reduceAdd, Nat.reduceSub, Nat.zero_add, Nat.add_zero, Nat.sub_self, Nat.reduceMul, mostL_def, Nat.reduceLeDiff, Nat.reduceLT, ite_true, ite_false, if_true, if_false, ↓reduceIte, reduceIte, ↓br_ite, Bool.false_eq_true, reduceCtorEq, Bool.not_true, Bool.not_false, decide_true, decide_false, Int.cast_ofNat_Int, Int.reduceBEq, Int.reduceAdd, Int.reduceSub, Int.reduceMul, Int.reduceNeg, Int.reduceLT, Int.reduceLE, Int.reduceMod, Int.reduceDiv, sMeth1_ap, sSl_ap, sRev_ap, oNo_ap, oPart_ap, sDict0_ap, sSetL_ap, sLc2_ap, sStar_ap, q1, c1, c2]
  · obtain ⟨y, lt⟩ := Cb2.start2 hg hB (by omega) (sB.mono hk) (sT.mono hk)
    obtain ⟨N, hN⟩ : ∃ N, FU = N + 1 := ⟨FU - 1, by omega⟩
    obtain ⟨a, f, s, l, r, o8, q1, x⟩ := column_run (o0 := some (.int T)) (o1 := some (.int B)) (o8 := some (.int (B.fdiv T))) (h := h) N (by omega) y
    obtain ⟨h1, h2, h3, h4⟩ := fin x
    refine ⟨-l * a, f * a, ?_, h2, h3, h4⟩
    have c1 : CM (-l) a := CM.right (by omega)
    have c2 : CM f a := CM.right (by omega)
    have x0 : Cb1 B T (B.natAbs + 2 * T.natAbs + 1) B T 0 1 1 0 := ⟨by omega, by omega, hg, (sB.mono hk).lt, (sT.mono hk).lt, by omega, by omega, by omega, by omega⟩
    have hb : T ≠ 0 := by omega
    have st := column_step (o0 := some (.int T)) (o1 := some (.int B)) (o8 := none) (h := h) x0 hb
    have q0 : sWhile FU (sTst (sBin dNe (sVar 3) (sC (.int 0)))) l_column_beside_1 [some (.int T), some (.int B), some (.int B), some (.int T), some (.int 0), some (.int 1), some (.int 1), some (.int 0), none] h = .nx [some (.int T), some (.int B), some (.int a), some (.int 0), some (.int f), some (.int s), some (.int l), some (.int r), o8] h := by
      rw [hN]
      unfold sWhile
      have hc : sTst (sBin dNe (sVar 3) (sC (.int 0))) [some (.int T), some (.int B), some (.int B), some (.int T), some (.int 0), some (.int 1), some (.int 1), some (.int 0), none] h = .ok (!(T == 0)) h := by simp (maxSteps := 4000000) (dsimp := false) (disch := first | assumption | decide | omega | walk_at "cm") only [runDef_ap, sVar_ap, sC_ap, sBin_ap, sNeg_ap, sAnd_ap, sOr_ap, sNot_ap, sIf_ap, sTst_ap, qAnd_ap, qOr_ap, qNot_ap, qYes_ap, sChain_ap, sChain3_ap, sNil_ap, sCons_ap, sTup_ap, sLst_ap, sLstM_ap, sCall_ap, g1_ap, g2_ap, sFn_ap, sAsg_ap, gNm_ap, gTp_ap, gConsS_ap, gNilS_ap, sPar_ap, sPar3_ap, sRet_ap, sRetN_ap, sNx_ap, sBrk_ap, sCnt_ap, sSeq_ap, sIte_ap, sDrop_ap, sFrz_ap, sAug_ap, iRange1_ap, iRange2_ap, iSeq_ap, sFor_ap, sLc_ap, R.toG_ok, ↓R.bind_bnd, bnd_ok, ↓R.bd_bdn, bdn_ok, ↓R.toF_tof, tof_ok, ↓F.seq_sqn, sqn_nx, sqn_ret, sqn_cnt, sqn_brk, ↓F.turn_trn, trn_nx, trn_ret, trn_cnt, trn_brk, F.end_nx, F.end_ret, ↓br_true, br_true, ↓br_false, br_false, Dbr, Dneg, Dtst, opt_some, dAdd_int, dIAdd_int, dSub_int, dLt_int, dLe_int, dGt_int, dGe_int, dEq_int, dNe_int, dEq_bl, dNe_bl, dMul_cm, dMod_pos, dDiv_pos, dAbs_int, dMax2_int, dMin2_int, dInt_int, dInt_bl, dIx_tup, dIx_lst, dIx_seq, dLen_tup, dLen_lst, dLen_seq, atI_0, atI_1, atI_2, atI_3, List.map_cons, List.map_nil, List.length_cons, List.length_nil, List.replicate_succ, List.replicate_zero, List.cons_append, List.nil_append, List.getElem?_cons_zero, List.getElem?_cons_succ, List.set_cons_zero, List.set_cons_succ, Nat.reduceAdd, Nat.reduceSub, Nat.zero_add, Nat.add_zero, Nat.sub_self, Nat.reduceMul, mostL_def, Nat.reduceLeDiff, Nat.reduceLT, ite_true, ite_false, if_true, if_false, ↓reduceIte, reduceIte, ↓br_ite, Bool.false_eq_true, reduceCtorEq, Bool.not_true, Bool.not_false, decide_true, decide_false, Int.cast_ofNat_Int, Int.reduceBEq, Int.reduceAdd, Int.reduceSub, Int.reduceMul, Int.reduceNeg, Int.reduceLT, Int.reduceLE, Int.reduceMod, Int.reduceDiv, sMeth1_ap, sSl_ap, sRev_ap, oNo_ap, oPart_ap, sDict0_ap, sSetL_ap, sLc2_ap, sStar_ap]
      rw [hc, beq_false_of_ne hb]
      show (l_column_beside_1 _ h).turn _ = _
      rw [st]
      exact q1
    unfold f_column_beside
    simp (maxSteps := 4000000) (dsimp := false) (disch := first | assumption | decide | omega | walk_at "cm") only [runDef_ap, sVar_ap, sC_ap, sBin_ap, sNeg_ap, sAnd_ap, sOr_ap, sNot_ap, sIf_ap, sTst_ap, qAnd_ap, qOr_ap, qNot_ap, qYes_ap, sChain_ap, sChain3_ap, sNil_ap, sCons_ap, sTup_ap, sLst_ap, sLstM_ap, sCall_ap, g1_ap, g2_ap, sFn_ap, sAsg_ap, gNm_ap, gTp_ap, gConsS_ap, gNilS_ap, sPar_ap, sPar3_ap, sRet_ap, sRetN_ap, sNx_ap, sBrk_ap, sCnt_ap, sSeq_ap, sIte_ap, sDrop_ap, sFrz_ap, sAug_ap, iRange1_ap, iRange2_ap, iSeq_ap, sFor_ap, sLc_ap, R.toG_ok, ↓R.bind_bnd, bnd_ok, ↓R.bd_bdn, bdn_ok, ↓R.toF_tof, tof_ok, ↓F.seq_sqn, sqn_nx, sqn_ret, sqn_cnt, sqn_brk, ↓F.turn_trn, trn_nx, trn_ret, trn_cnt, trn_brk, F.end_nx, F.end_ret, ↓br_true, br_true, ↓br_false, br_false, Dbr, Dneg, Dtst, opt_some, dAdd_int, dIAdd_int, dSub_int, dLt_int, dLe_int, dGt_int, dGe_int, dEq_int, dNe_int, dEq_bl, dNe_bl, dMul_cm, dMod_pos, dDiv_pos, dAbs_int, dMax2_int, dMin2_int, dInt_int, dInt_bl, dIx_tup, dIx_lst, dIx_seq, dLen_tup, dLen_lst, dLen_seq, atI_0, atI_1, atI_2, atI_3, List.map_cons, List.map_nil, List.length_cons, List.length_nil, List.replicate_succ, List.replicate_zero, List.cons_append, List.nil_append, List.getElem?_cons_zero, List.getElem?_cons_succ, List.set_cons_zero, List.set_cons_succ, Nat.reduceAdd, Nat.reduceSub, Nat.zero_add, Nat.add_zero, Nat.sub_self, Nat.reduceMul, mostL_def, Nat.reduceLeDiff, Nat.reduceLT, ite_true, ite_false, if_true, if_false, ↓reduceIte, reduceIte, ↓br_ite, Bool.false_eq_true, reduceCtorEq, Bool.not_true, Bool.not_false, decide_true, decide_false, Int.cast_ofNat_Int, Int.reduceBEq, Int.reduceAdd, Int.reduceSub, Int.reduceMul, Int.reduceNeg, Int.reduceLT, Int.reduceLE, Int.reduceMod, Int.reduceDiv, sMeth1_ap, sSl_ap, sRev_ap, oNo_ap, oPart_ap, sDict0_ap, sSetL_ap, sLc2_ap, sStar_ap, q0, c1, c2]
theorem matrix_to_ok {t b : Int} {k : Nat} {h : Ph} (f : Fr t b) (hk : k ≤ 30) (st : Sm k t) (sb : Sm k b) : ∃ x y, f_matrix_to [T2 t b] h = .ok (T4 t x b y) h ∧ t * y - x * b = 1 ∧ Sm (k + 2) x ∧ Sm (k + 2) y := by
  obtain ⟨x, y, e, d, sx, sy⟩ := column_ok (h := h) (by rw [Int.gcd_comm]; exact f.co) f.pos hk sb st
  refine ⟨x, y, ?_, d, sx, sy⟩
  unfold f_matrix_to
  simp (maxSteps := 4000000) (dsimp := false) (disch := first | assumption | decide | omega | walk_at "cm") only [runDef_ap, sVar_ap, sC_ap, sBin_ap, sNeg_ap, sAnd_ap, sOr_ap, sNot_ap, sIf_ap, sTst_ap, qAnd_ap, qOr_ap, qNot_ap, qYes_ap, sChain_ap, sChain3_ap, sNil_ap, sCons_ap, sTup_ap, sLst_ap, sLstM_ap, sCall_ap, g1_ap, g2_ap, sFn_ap, sAsg_ap, gNm_ap, gTp_ap, gConsS_ap, gNilS_ap, sPar_ap, sPar3_ap, sRet_ap, sRetN_ap, sNx_ap, sBrk_ap, sCnt_ap, sSeq_ap, sIte_ap, sDrop_ap, sFrz_ap, sAug_ap, iRange1_ap, iRange2_ap, iSeq_ap, sFor_ap, sLc_ap, R.toG_ok, ↓R.bind_bnd, bnd_ok, ↓R.bd_bdn, bdn_ok, ↓R.toF_tof, tof_ok, ↓F.seq_sqn, sqn_nx, sqn_ret, sqn_cnt, sqn_brk, ↓F.turn_trn, trn_nx, trn_ret, trn_cnt, trn_brk, F.end_nx, F.end_ret, ↓br_true, br_true, ↓br_false, br_false, Dbr, Dneg, Dtst, opt_some, dAdd_int, dIAdd_int, dSub_int, dLt_int, dLe_int, dGt_int, dGe_int, dEq_int, dNe_int, dEq_bl, dNe_bl, dMul_cm, dMod_pos, dDiv_pos, dAbs_int, dMax2_int, dMin2_int, dInt_int, dInt_bl, dIx_tup, dIx_lst, dIx_seq, dLen_tup, dLen_lst, dLen_seq, atI_0, atI_1, atI_2, atI_3, List.map_cons, List.map_nil, List.length_cons, List.length_nil, List.replicate_succ, List.replicate_zero, List.cons_append, List.nil_append, List.getElem?_cons_zero, List.getElem?_cons_succ, List.set_cons_zero, List.set_cons_succ, Nat.reduceAdd, Nat.reduceSub, Nat.zero_add, Nat.add_zero, Nat.sub_self, Nat.reduceMul, mostL_def, Nat.reduceLeDiff, Nat.reduceLT, ite_true, ite_false, if_true, if_false, ↓reduceIte, reduceIte, ↓br_ite, Bool.false_eq_true, reduceCtorEq, Bool.not_true, Bool.not_false, decide_true, decide_false, Int.cast_ofNat_Int, Int.reduceBEq, Int.reduceAdd, Int.reduceSub, Int.reduceMul, Int.reduceNeg, Int.reduceLT, Int.reduceLE, Int.reduceMod, Int.reduceDiv, sMeth1_ap, sSl_ap, sRev_ap, oNo_ap, oPart_ap, sDict0_ap, sSetL_ap, sLc2_ap, sStar_ap, e]
end Pd

/-! Rz: rims, plain -/
namespace Pd
theorem dvR {a b c : Int} (h : a ∣ c) : a ∣ b * c := by obtain ⟨k, rfl⟩ := h; exact ⟨b * k, by grind⟩
theorem dvL {a b c : Int} (h : a ∣ b) : a ∣ b * c := by obtain ⟨k, rfl⟩ := h; exact ⟨k * c, by grind⟩
theorem bez_nat : ∀ n m : Nat, ∃ A B : Int, (Nat.gcd m n : Int) = m * A + n * B := by
  intro n
  induction n using Nat.strongRecOn with
  | _ n ih =>
    intro m
    by_cases h : n = 0
    · subst h; exact ⟨1, 0, by simp⟩
    · obtain ⟨A, B, e⟩ := ih (m % n) (Nat.mod_lt _ (by omega)) n
      refine ⟨B, A - (m / n : Nat) * B, ?_⟩
      have e1 : Nat.gcd m n = Nat.gcd n (m % n) := by rw [Nat.gcd_comm m n, Nat.gcd_rec n m, Nat.gcd_comm]
      rw [e1, e]
      have e2 : (m : Int) = n * (m / n : Nat) + (m % n : Nat) := by have := Nat.div_add_mod m n; omega
      generalize ((m / n : Nat) : Int) = q at *
      generalize ((m % n : Nat) : Int) = r at *
      rw [e2]; grind
theorem bez_int (m n : Int) : ∃ A B : Int, (Int.gcd m n : Int) = m * A + n * B := by
  obtain ⟨A, B, e⟩ := bez_nat n.natAbs m.natAbs
  have h1 : ∃ s : Int, (m.natAbs : Int) = m * s := by
    by_cases h : 0 ≤ m
    · exact ⟨1, by omega⟩
    · exact ⟨-1, by omega⟩
  have h2 : ∃ s : Int, (n.natAbs : Int) = n * s := by
    by_cases h : 0 ≤ n
    · exact ⟨1, by omega⟩
    · exact ⟨-1, by omega⟩
  obtain ⟨s, e1⟩ := h1
  obtain ⟨t, e2⟩ := h2
  exact ⟨s * A, t * B, by show ((Nat.gcd m.natAbs n.natAbs : Nat) : Int) = _; rw [e, e1, e2]; grind⟩
theorem gcd_nz {b L : Int} (hL : 1 ≤ L) : 0 < Int.gcd b L := Nat.pos_of_ne_zero (gcd_ne (.inr (by omega)))
/-- the part of a bottom, what is left of the bottom, the share -/
abbrev rP (L b : Int) : Int := (Int.gcd b L : Int)
abbrev rU (L b : Int) : Int := b / rP L b
abbrev rS (L b : Int) : Int := (Int.gcd (rP L b) (L / rP L b) : Int)
abbrev rR (L t b : Int) : Int := t * rU L b
theorem rP_pos {L b : Int} (hL : 1 ≤ L) : 0 < rP L b := by have := gcd_nz (b := b) hL; show (0 : Int) < (Int.gcd b L : Int); omega
theorem rP_dvd {L b : Int} : rP L b ∣ b ∧ rP L b ∣ L := ⟨Int.gcd_dvd_left _ _, Int.gcd_dvd_right _ _⟩
theorem rU_eq {L b : Int} (hL : 1 ≤ L) : rP L b * rU L b = b ∧ rP L b * (L / rP L b) = L := ⟨Int.mul_ediv_cancel' rP_dvd.1, Int.mul_ediv_cancel' rP_dvd.2⟩
theorem rU_cop {L b : Int} (hL : 1 ≤ L) : Int.gcd (rU L b) (L / rP L b) = 1 := Int.gcd_ediv_gcd_ediv_gcd (gcd_nz hL)
theorem rS_dvd {L b : Int} : rS L b ∣ rP L b ∧ rS L b ∣ L / rP L b := ⟨Int.gcd_dvd_left _ _, Int.gcd_dvd_right _ _⟩
theorem cop_of_dvd {a b c : Int} (h : Int.gcd a b = 1) (d : c ∣ b) : Int.gcd a c = 1 := by
  have h1 : (Int.gcd a c : Int) ∣ Int.gcd a b := Int.dvd_coe_gcd (Int.gcd_dvd_left _ _) (Int.dvd_trans (Int.gcd_dvd_right _ _) d)
  rw [h] at h1
  have := Int.natAbs_dvd_natAbs.mpr h1
  simpa using this
theorem cop_mul {a b c : Int} (h1 : Int.gcd a c = 1) (h2 : Int.gcd b c = 1) : Int.gcd (a * b) c = 1 := by
  have d1 : (Int.gcd (a * b) c : Int) ∣ a * b := Int.gcd_dvd_left _ _
  have d2 : (Int.gcd (a * b) c : Int) ∣ c := Int.gcd_dvd_right _ _
  have c1 : Int.gcd (Int.gcd (a * b) c : Int) a = 1 := by rw [Int.gcd_comm]; exact cop_of_dvd h1 d2
  have d3 := dvd_cop d1 c1
  have c2 : Int.gcd b (Int.gcd (a * b) c : Int) = 1 := cop_of_dvd h2 d2
  have d4 : (Int.gcd (a * b) c : Int) ∣ Int.gcd b (Int.gcd (a * b) c : Int) := Int.dvd_coe_gcd d3 (Int.dvd_refl _)
  rw [c2] at d4
  have := Int.natAbs_dvd_natAbs.mpr d4
  simpa using this
theorem rR_cop {L t b : Int} (hL : 1 ≤ L) (f : Int.gcd t b = 1) : Int.gcd (rR L t b) (rS L b) = 1 :=
  cop_mul (cop_of_dvd f (Int.dvd_trans rS_dvd.1 rP_dvd.1)) (cop_of_dvd (rU_cop hL) rS_dvd.2)
theorem cop_dvd_mul {a b c : Int} (h : Int.gcd a b = 1) (h1 : a ∣ c) (h2 : b ∣ c) : a * b ∣ c := by
  obtain ⟨k, rfl⟩ := h1
  have : b ∣ k := dvd_cop h2 (by rw [Int.gcd_comm]; exact h)
  obtain ⟨j, rfl⟩ := this
  exact ⟨j, by rw [Int.mul_assoc]⟩
/-- what shifts reach -/
theorem shift_iff {L m c : Int} (hL : 1 ≤ L) : (∃ k : Int, 0 ≤ k ∧ k < L ∧ L ∣ c - k * m) ↔ (Int.gcd m L : Int) ∣ c := by
  constructor
  · rintro ⟨k, _, _, h⟩
    have d1 : (Int.gcd m L : Int) ∣ c - k * m := Int.dvd_trans (Int.gcd_dvd_right _ _) h
    have d2 : (Int.gcd m L : Int) ∣ k * m := dvR (Int.gcd_dvd_left _ _)
    have := Int.dvd_add d1 d2
    rwa [Int.sub_add_cancel] at this
  · rintro ⟨t, rfl⟩
    obtain ⟨A, B, e⟩ := bez_int m L
    refine ⟨(A * t) % L, Int.emod_nonneg _ (by omega), Int.emod_lt_of_pos _ (by omega), ?_⟩
    have e2 := Int.mul_ediv_add_emod (A * t) L
    refine ⟨B * t + (A * t / L) * m, ?_⟩
    rw [e]
    have : A * t % L = A * t - L * (A * t / L) := by omega
    rw [this]
    generalize A * t / L = z
    grind
/-- fractions of one class -/
theorem class_iff {L p q p' q' y x y' x' : Int} (hL : 1 ≤ L) (d : p * y - x * q = 1) (d' : p' * y' - x' * q' = 1) :
    ((Int.gcd (q * q') L : Int) ∣ q' * y - y' * q) ↔ (rP L q = rP L q' ∧ rS L q ∣ rR L p q - rR L p' q') := by
  have c1 : Int.gcd y q = 1 := by
    have h1 : (Int.gcd y q : Int) ∣ p * y - x * q := Int.dvd_sub (dvR (Int.gcd_dvd_left _ _)) (dvR (Int.gcd_dvd_right _ _))
    rw [d] at h1
    have := Int.natAbs_dvd_natAbs.mpr h1
    simpa using this
  have c2 : Int.gcd y' q' = 1 := by
    have h1 : (Int.gcd y' q' : Int) ∣ p' * y' - x' * q' := Int.dvd_sub (dvR (Int.gcd_dvd_left _ _)) (dvR (Int.gcd_dvd_right _ _))
    rw [d'] at h1
    have := Int.natAbs_dvd_natAbs.mpr h1
    simpa using this
  have half : ∀ {q q' y y' : Int}, Int.gcd y q = 1 → (Int.gcd (q * q') L : Int) ∣ q' * y - y' * q → rP L q ∣ q' := by
    intro q q' y y' c h
    have h1 : rP L q ∣ (Int.gcd (q * q') L : Int) := Int.dvd_coe_gcd (dvL rP_dvd.1) rP_dvd.2
    have h2 := Int.dvd_trans h1 h
    have h3 : rP L q ∣ y' * q := dvR rP_dvd.1
    have h4 := Int.dvd_add h2 h3
    rw [Int.sub_add_cancel, Int.mul_comm] at h4
    exact dvd_cop h4 (by rw [Int.gcd_comm]; exact cop_of_dvd c rP_dvd.1)
  have same : rP L q = rP L q' → ((Int.gcd (q * q') L : Int) ∣ q' * y - y' * q ↔ rS L q ∣ rR L p q - rR L p' q') := by
    intro hP
    have hp := rP_pos (b := q) hL
    obtain ⟨e1, e2⟩ := rU_eq (b := q) hL
    obtain ⟨e3, e4⟩ := rU_eq (b := q') hL
    have k1 := rU_cop (b := q) hL
    have k2 := rU_cop (b := q') hL
    have s1 := rS_dvd (L := L) (b := q)
    have hrR : rR L p q = p * rU L q := rfl
    have hrR' : rR L p' q' = p' * rU L q' := rfl
    rw [← hP] at e3 e4 k2
    have hS : rS L q = (Int.gcd (rP L q) (L / rP L q) : Int) := rfl
    rw [hrR, hrR']
    generalize rU L q = u at *
    generalize rU L q' = u' at *
    generalize hS' : rS L q = S at *
    generalize rP L q = P at *
    generalize hM : L / P = M at *
    -- gcd(q q', L) = P S
    have eg : (Int.gcd (q * q') L : Int) = P * S := by
      have : Int.gcd (q * q') L = Int.gcd (P * (P * (u * u'))) (P * M) := by
        rw [e2, ← e1, ← e3]; congr 1; grind
      rw [this, Int.gcd_mul_left, hS]
      have e5 : Int.gcd (P * (u * u')) M = Int.gcd P M := by
        have a1 : (Int.gcd (P * (u * u')) M : Int) ∣ P := by
          have b1 : (Int.gcd (P * (u * u')) M : Int) ∣ (u * u') * P := by rw [Int.mul_comm]; exact Int.gcd_dvd_left _ _
          refine dvd_cop b1 ?_
          rw [Int.gcd_comm]
          exact cop_of_dvd (cop_mul k1 k2) (Int.gcd_dvd_right _ _)
        have a2 : (Int.gcd (P * (u * u')) M : Int) ∣ Int.gcd P M := Int.dvd_coe_gcd a1 (Int.gcd_dvd_right _ _)
        have a3 : (Int.gcd P M : Int) ∣ Int.gcd (P * (u * u')) M := Int.dvd_coe_gcd (dvL (Int.gcd_dvd_left _ _)) (Int.gcd_dvd_right _ _)
        have b1 := Int.natAbs_dvd_natAbs.mpr a2
        have b2 := Int.natAbs_dvd_natAbs.mpr a3
        simp only [Int.natAbs_natCast] at b1 b2
        exact Nat.dvd_antisymm b1 b2
      rw [e5]
      have : ((P.natAbs * Int.gcd P M : Nat) : Int) = P * (Int.gcd P M : Int) := by
        rw [Int.natCast_mul]; congr 1; omega
      exact this
    rw [eg]
    have e6 : q' * y - y' * q = P * (u' * y - y' * u) := by rw [← e1, ← e3]; grind
    rw [e6]
    have hdiv : P * S ∣ P * (u' * y - y' * u) ↔ S ∣ u' * y - y' * u := ⟨fun h => Int.dvd_of_mul_dvd_mul_left (by omega) h, fun h => Int.mul_dvd_mul_left _ h⟩
    rw [hdiv]
    have hSq : S ∣ q := by rw [← e1]; exact dvL s1.1
    have hSq' : S ∣ q' := by rw [← e3]; exact dvL s1.1
    -- modulo S: p y = 1, p' y' = 1
    obtain ⟨z, hz⟩ := hSq
    obtain ⟨z', hz'⟩ := hSq'
    have m1 : p * y = 1 + S * (x * z) := by rw [hz] at d; grind
    have m2 : p' * y' = 1 + S * (x' * z') := by rw [hz'] at d'; grind
    constructor
    · rintro ⟨w, hw⟩
      -- p p' (u' y - y' u) = p' u' - p u + S ..
      refine ⟨-(p * p' * w) + p' * u' * (x * z) - p * u * (x' * z'), ?_⟩
      have e : p * p' * (u' * y - y' * u) = p' * u' * (p * y) - p * u * (p' * y') := by grind
      rw [hw, m1, m2] at e
      grind
    · rintro ⟨w, hw⟩
      refine ⟨-(y * y' * w) - u' * y * (x' * z') + u * y' * (x * z), ?_⟩
      have e : y * y' * (p * u - p' * u') = u * y' * (p * y) - u' * y * (p' * y') := by grind
      rw [hw, m1, m2] at e
      grind
  constructor
  · intro h
    have h1 := half c1 h
    have h2 : rP L q' ∣ q := by
      refine half (y' := y) c2 ?_
      rw [Int.mul_comm q' q]
      have : q * y' - y * q' = -(q' * y - y' * q) := by grind
      rw [this]
      exact Int.dvd_neg.mpr h
    have a1 : rP L q ∣ rP L q' := Int.dvd_coe_gcd h1 rP_dvd.2
    have a2 : rP L q' ∣ rP L q := Int.dvd_coe_gcd h2 rP_dvd.2
    have hP : rP L q = rP L q' := by
      have b1 := Int.natAbs_dvd_natAbs.mpr a1
      have b2 := Int.natAbs_dvd_natAbs.mpr a2
      simp only [Int.natAbs_natCast] at b1 b2
      show ((Int.gcd q L : Nat) : Int) = (Int.gcd q' L : Nat)
      rw [Nat.dvd_antisymm b1 b2]
    exact ⟨hP, (same hP).mp h⟩
  · rintro ⟨hP, h⟩
    exact (same hP).mpr h
end Pd

/-! Pn: rims told -/
namespace Pd
open PySem L2 Evl
local macro_rules | `(tactic| walk_at "sm") => `(tactic| first | assumption | exact Sm.lit | exact Sm.mul (by walk_at "sm") (by walk_at "sm") | exact Sm.add (by walk_at "sm") (by walk_at "sm") | exact Sm.sub (by walk_at "sm") (by walk_at "sm") | exact Sm.neg (by walk_at "sm"))
local macro_rules | `(tactic| walk_at "cm") => `(tactic| ((with_reducible show CM _ _); first | assumption | exact CM.left (by decide) | exact CM.right (by decide) | exact CM.left (by omega) | exact CM.right (by omega) | exact CM.of (by walk_at "sm") (by walk_at "sm") (by decide)))
/-! ### the least top -/
/-- x is the least integer from 0 on without a common divisor with P that leaves the rest of r by S -/
structure Ltop (P S r x : Int) : Prop where
  x0 : 0 ≤ x
  dv : S ∣ x - r
  co : Int.gcd x P = 1
  le : ∀ y, 0 ≤ y → S ∣ y - r → Int.gcd y P = 1 → x ≤ y
  lt : x < P * S
def chkTop : Bool := (List.range 101).all fun p => (List.range (p + 1)).all fun s => s == 0 || (p % s != 0 || (List.range s).all fun r => Nat.gcd r s != 1 || (List.range p).any fun k => Nat.gcd (r + s * k) p == 1)
theorem chkTop_ok : chkTop = true := by decide +kernel
theorem top_some {p s r : Nat} (hp : p ≤ 100) (hs : 0 < s) (hd : s ∣ p) (hp0 : 0 < p) (hr : r < s) (hg : Nat.gcd r s = 1) : ∃ k, k < p ∧ Nat.gcd (r + s * k) p = 1 := by
  have h := chkTop_ok
  unfold chkTop at h
  have h1 := List.all_eq_true.mp h p (List.mem_range.mpr (by omega))
  have h2 := List.all_eq_true.mp h1 s (List.mem_range.mpr (by have := Nat.le_of_dvd hp0 hd; omega))
  have e1 : (s == 0) = false := by rw [beq_eq_false_iff_ne]; omega
  have e2 : (p % s != 0) = false := by rw [Nat.mod_eq_zero_of_dvd hd]; rfl
  rw [e1, e2, Bool.false_or, Bool.false_or] at h2
  have h3 := List.all_eq_true.mp h2 r (List.mem_range.mpr hr)
  have e3 : (Nat.gcd r s != 1) = false := by rw [hg]; rfl
  rw [e3, Bool.false_or] at h3
  obtain ⟨k, hk, e⟩ := List.any_eq_true.mp h3
  exact ⟨k, List.mem_range.mp hk, beq_iff_eq.mp e⟩
theorem gcd_emod {r S : Int} (hS : 0 < S) : Int.gcd (r % S) S = Int.gcd r S := by
  have e := Int.mul_ediv_add_emod r S
  have d1 : (Int.gcd (r % S) S : Int) ∣ Int.gcd r S := Int.dvd_coe_gcd (by
    have e3 : (Int.gcd (r % S) S : Int) ∣ S * (r / S) + r % S := Int.dvd_add (dvL (Int.gcd_dvd_right _ _)) (Int.gcd_dvd_left _ _)
    rwa [e] at e3) (Int.gcd_dvd_right _ _)
  have d2 : (Int.gcd r S : Int) ∣ Int.gcd (r % S) S := Int.dvd_coe_gcd (by
    have : r % S = r - S * (r / S) := by omega
    rw [this]
    exact Int.dvd_sub (Int.gcd_dvd_left _ _) (dvL (Int.gcd_dvd_right _ _))) (Int.gcd_dvd_right _ _)
  have b1 := Int.natAbs_dvd_natAbs.mpr d1
  have b2 := Int.natAbs_dvd_natAbs.mpr d2
  simp only [Int.natAbs_natCast] at b1 b2
  exact Nat.dvd_antisymm b1 b2
/-- the numbers that leave the rest are r % S + S * i -/
theorem rest_form {S r y : Int} (hS : 0 < S) (hy : 0 ≤ y) (hd : S ∣ y - r) : ∃ i : Nat, y = r % S + S * i := by
  have e : y % S = r % S := Int.emod_emod_of_dvd_sub hd
  have e2 := Int.mul_ediv_add_emod y S
  have h0 : 0 ≤ y / S := Int.ediv_nonneg hy (by omega)
  obtain ⟨i, hi⟩ := Int.eq_ofNat_of_zero_le h0
  exact ⟨i, by rw [← e, ← hi]; omega⟩
where
  Int.emod_emod_of_dvd_sub {S y r : Int} (hd : S ∣ y - r) : y % S = r % S := by
    obtain ⟨k, hk⟩ := hd
    have : y = r + S * k := by omega
    rw [this, Int.add_mul_emod_self_left]
theorem least_top_ok {P S r : Int} {h : Ph} (hP : 0 < P) (hP2 : P ≤ 100) (hS : 0 < S) (hd : S ∣ P) (hg : Int.gcd r S = 1) : ∃ x, f_least_top [.int P, .int S, .int r] h = .ok (.int x) h ∧ Ltop P S r x := by
  have hr0 := Int.emod_nonneg r (by omega : S ≠ 0)
  have hr1 := Int.emod_lt_of_pos r hS
  have hg' : Int.gcd (r % S) S = 1 := by rw [gcd_emod hS]; exact hg
  have hSP := Int.le_of_dvd hP hd
  obtain ⟨K, hK, hKg⟩ : ∃ K : Nat, (K : Int) < P ∧ Int.gcd (r % S + S * K) P = 1 := by
    obtain ⟨k, h1, h2⟩ := top_some (p := P.natAbs) (s := S.natAbs) (r := (r % S).natAbs) (by omega) (by omega) (Int.natAbs_dvd_natAbs.mpr hd) (by omega) (by omega) hg'
    refine ⟨k, by omega, ?_⟩
    show Nat.gcd (r % S + S * k).natAbs P.natAbs = 1
    have : (r % S + S * k).natAbs = (r % S).natAbs + S.natAbs * k := by
      have : (((r % S).natAbs + S.natAbs * k : Nat) : Int) = r % S + S * k := by
        rw [Int.natCast_add, Int.natCast_mul]
        have a1 : ((r % S).natAbs : Int) = r % S := by omega
        have a2 : (S.natAbs : Int) = S := by omega
        rw [a1, a2]
      omega
    rw [this]
    exact h2
  have sz : ∀ j : Nat, j ≤ K → 0 ≤ r % S + S * j ∧ r % S + S * j < P * S := by
    intro j hj
    have h1 : S * (j : Int) ≤ S * (P - 1) := Int.mul_le_mul_of_nonneg_left (by omega) (by omega)
    have h2 : 0 ≤ S * (j : Int) := Int.mul_nonneg (by omega) (by omega)
    have h3 : S * (P - 1) = P * S - S := by grind
    omega
  have hPS : P * S ≤ 10000 := by
    have : P * S ≤ 100 * 100 := Int.mul_le_mul hP2 (by omega) (by omega) (by omega)
    omega
  have cond : ∀ (x : Int) (h' : Ph), 0 ≤ x → sTst (sBin dNe (sFn f_common_of (sCons (sVar 3) (sCons (sVar 0) (sNil)))) (sC (.int 1))) [some (.int P), some (.int S), some (.int r), some (.int x)] h' = .ok (!((Int.gcd x P : Int) == 1)) h' := by
    intro x h' _
    have e := common_ok (a := x) (b := P) (h := h') (Sm.of_lt 600 (n := 101) (by omega) (by omega) (by decide +kernel))
    simp (maxSteps := 4000000) (dsimp := false) (disch := first | assumption | decide | omega | walk_at "cm") only [runDef_ap, sVar_ap, sC_ap, sBin_ap, sNeg_ap, sAnd_ap, sOr_ap, sNot_ap, sIf_ap, sTst_ap, qAnd_ap, qOr_ap, qNot_ap, qYes_ap, sChain_ap, sChain3_ap, sNil_ap, sCons_ap, sTup_ap, sLst_ap, sLstM_ap, sCall_ap, g1_ap, g2_ap, sFn_ap, sAsg_ap, gNm_ap, gTp_ap, gConsS_ap, gNilS_ap, sPar_ap, sPar3_ap, sRet_ap, sRetN_ap, sNx_ap, sBrk_ap, sCnt_ap, sSeq_ap, sIte_ap, sDrop_ap, sFrz_ap, sAug_ap, iRange1_ap, iRange2_ap, iSeq_ap, sFor_ap, sLc_ap, R.toG_ok, ↓R.bind_bnd, bnd_ok, ↓R.bd_bdn, bdn_ok, ↓R.toF_tof, tof_ok, ↓F.seq_sqn, sqn_nx, sqn_ret, sqn_cnt, sqn_brk, ↓F.turn_trn, trn_nx, trn_ret, trn_cnt, trn_brk, F.end_nx, F.end_ret, ↓br_true, br_true, ↓br_false, br_false, Dbr, Dneg, Dtst, opt_some, dAdd_int, dIAdd_int, dSub_int, dLt_int, dLe_int, dGt_int, dGe_int, dEq_int, dNe_int, dEq_bl, dNe_bl, dMul_cm, dMod_pos, dDiv_pos, dAbs_int, dMax2_int, dMin2_int, dInt_int, dInt_bl, dIx_tup, dIx_lst, dIx_seq, dLen_tup, dLen_lst, dLen_seq, atI_0, atI_1, atI_2, atI_3, List.map_cons, List.map_nil, List.length_cons, List.length_nil, List.replicate_succ, List.replicate_zero, List.cons_append, List.nil_append, List.getElem?_cons_zero, List.getElem?_cons_succ, List.set_cons_zero, List.set_cons_succ, Nat.reduceAdd, Nat.reduceSub, Nat.zero_add, Nat.add_zero, Nat.sub_self, Nat.reduceMul, mostL_def, Nat.reduceLeDiff, Nat.reduceLT, ite_true, ite_false, if_true, if_false, ↓reduceIte, reduceIte, ↓br_ite, Bool.false_eq_true, reduceCtorEq, Bool.not_true, Bool.not_false, decide_true, decide_false, Int.cast_ofNat_Int, Int.reduceBEq, Int.reduceAdd, Int.reduceSub, Int.reduceMul, Int.reduceNeg, Int.reduceLT, Int.reduceLE, Int.reduceMod, Int.reduceDiv, sMeth1_ap, sSl_ap, sRev_ap, oNo_ap, oPart_ap, sDict0_ap, sSetL_ap, sLc2_ap, sStar_ap, e]
  obtain ⟨e1, h1, q1, rfl, j, rfl, hj, hjm⟩ := while_run (c := sTst (sBin dNe (sFn f_common_of (sCons (sVar 3) (sCons (sVar 0) (sNil)))) (sC (.int 1)))) (f := l_least_top_1)
    (fun m e h' => h' = h ∧ ∃ j : Nat, e = [some (.int P), some (.int S), some (.int r), some (.int (r % S + S * j))] ∧ j ≤ K ∧ m = K - j ∧ ∀ i : Nat, i < j → Int.gcd (r % S + S * i) P ≠ 1)
    (fun e h' => h' = h ∧ ∃ j : Nat, e = [some (.int P), some (.int S), some (.int r), some (.int (r % S + S * j))] ∧ (j ≤ K ∧ Int.gcd (r % S + S * j) P = 1) ∧ ∀ i : Nat, i < j → Int.gcd (r % S + S * i) P ≠ 1)
    (by
      rintro m e h' ⟨rfl, j, rfl, hj, rfl, hi⟩
      have z := sz j hj
      by_cases hg2 : Int.gcd (r % S + S * j) P = 1
      · refine .inl ⟨h', ?_, rfl, j, rfl, ⟨hj, hg2⟩, hi⟩
        rw [cond _ _ z.1, hg2]; rfl
      · have hne : j ≠ K := fun e => hg2 (by rw [e]; exact hKg)
        refine .inr ⟨h', _, h', K - (j + 1), ?_, .inl (?_ : _ = F.nx [some (.int P), some (.int S), some (.int r), some (.int (r % S + S * (j + 1 : Nat)))] h'), by omega, rfl, j + 1, rfl, by omega, rfl, fun i hi2 => ?_⟩
        · rw [cond _ _ z.1]
          have : ((Int.gcd (r % S + S * j) P : Int) == 1) = false := by rw [beq_eq_false_iff_ne]; omega
          rw [this]; rfl
        · have e : r % S + S * j + S = r % S + S * (j + 1 : Nat) := by rw [Int.natCast_add]; grind
          unfold l_least_top_1
          simp (maxSteps := 4000000) (dsimp := false) (disch := first | assumption | decide | omega | walk_at "cm") only [runDef_ap, sVar_ap, sC_ap, sBin_ap, sNeg_ap, sAnd_ap, sOr_ap, sNot_ap, sIf_ap, sTst_ap, qAnd_ap, qOr_ap, qNot_ap, qYes_ap, sChain_ap, sChain3_ap, sNil_ap, sCons_ap, sTup_ap, sLst_ap, sLstM_ap, sCall_ap, g1_ap, g2_ap, sFn_ap, sAsg_ap, gNm_ap, gTp_ap, gConsS_ap, gNilS_ap, sPar_ap, sPar3_ap, sRet_ap, sRetN_ap, sNx_ap, sBrk_ap, sCnt_ap, sSeq_ap, sIte_ap, sDrop_ap, sFrz_ap, sAug_ap, iRange1_ap, iRange2_ap, iSeq_ap, sFor_ap, sLc_ap, R.toG_ok, ↓R.bind_bnd, bnd_ok, ↓R.bd_bdn, bdn_ok, ↓R.toF_tof, tof_ok, ↓F.seq_sqn, sqn_nx, sqn_ret, sqn_cnt, sqn_brk, ↓F.turn_trn, trn_nx, trn_ret, trn_cnt, trn_brk, F.end_nx, F.end_ret, ↓br_true, br_true, ↓br_false, br_false, Dbr, Dneg, Dtst, opt_some, dAdd_int, dIAdd_int, dSub_int, dLt_int, dLe_int, dGt_int, dGe_int, dEq_int, dNe_int, dEq_bl, dNe_bl, dMul_cm, dMod_pos, dDiv_pos, dAbs_int, dMax2_int, dMin2_int, dInt_int, dInt_bl, dIx_tup, dIx_lst, dIx_seq, dLen_tup, dLen_lst, dLen_seq, atI_0, atI_1, atI_2, atI_3, List.map_cons, List.map_nil, List.length_cons, List.length_nil, List.replicate_succ, List.replicate_zero, List.cons_append, List.nil_append, List.getElem?_cons_zero, List.getElem?_cons_succ, List.set_cons_zero, List.set_cons_succ, Nat.reduceAdd, Nat.reduceSub, Nat.zero_add, Nat.add_zero, Nat.sub_self, Nat.reduceMul, mostL_def, Nat.reduceLeDiff, Nat.reduceLT, ite_true, ite_false, if_true, if_false, ↓reduceIte, reduceIte, ↓br_ite, Bool.false_eq_true, reduceCtorEq, Bool.not_true, Bool.not_false, decide_true, decide_false, Int.cast_ofNat_Int, Int.reduceBEq, Int.reduceAdd, Int.reduceSub, Int.reduceMul, Int.reduceNeg, Int.reduceLT, Int.reduceLE, Int.reduceMod, Int.reduceDiv, sMeth1_ap, sSl_ap, sRev_ap, oNo_ap, oPart_ap, sDict0_ap, sSetL_ap, sLc2_ap, sStar_ap, e]
        · by_cases h2 : i < j
          · exact hi i h2
          · have : i = j := by omega
            rw [this]; exact hg2)
    K FU [some (.int P), some (.int S), some (.int r), some (.int (r % S))] h (Nat.lt_trans (by omega : K < 100) (by unfold FU; decide : 100 < FU)) ⟨rfl, 0, by simp, by omega, by omega, fun i hi => absurd hi (by omega)⟩
  refine ⟨r % S + S * j, ?_, (sz j hj.1).1, ?_, hj.2, fun y hy hdv hg2 => ?_, (sz j hj.1).2⟩
  · unfold f_least_top
    simp (maxSteps := 4000000) (dsimp := false) (disch := first | assumption | decide | omega | walk_at "cm") only [runDef_ap, sVar_ap, sC_ap, sBin_ap, sNeg_ap, sAnd_ap, sOr_ap, sNot_ap, sIf_ap, sTst_ap, qAnd_ap, qOr_ap, qNot_ap, qYes_ap, sChain_ap, sChain3_ap, sNil_ap, sCons_ap, sTup_ap, sLst_ap, sLstM_ap, sCall_ap, g1_ap, g2_ap, sFn_ap, sAsg_ap, gNm_ap, gTp_ap, gConsS_ap, gNilS_ap, sPar_ap, sPar3_ap, sRet_ap, sRetN_ap, sNx_ap, sBrk_ap, sCnt_ap, sSeq_ap, sIte_ap, sDrop_ap, sFrz_ap, sAug_ap, iRange1_ap, iRange2_ap, iSeq_ap, sFor_ap, sLc_ap, R.toG_ok, ↓R.bind_bnd, bnd_ok, ↓R.bd_bdn, bdn_ok, ↓R.toF_tof, tof_ok, ↓F.seq_sqn, sqn_nx, sqn_ret, sqn_cnt, sqn_brk, ↓F.turn_trn, trn_nx, trn_ret, trn_cnt, trn_brk, F.end_nx, F.end_ret, ↓br_true, br_true, ↓br_false, br_false, Dbr, Dneg, Dtst, opt_some, dAdd_int, dIAdd_int, dSub_int, dLt_int, dLe_int, dGt_int, dGe_int, dEq_int, dNe_int, dEq_bl, dNe_bl, dMul_cm, dMod_pos, dDiv_pos, dAbs_int, dMax2_int, dMin2_int, dInt_int, dInt_bl, dIx_tup, dIx_lst, dIx_seq, dLen_tup, dLen_lst, dLen_seq, atI_0, atI_1, atI_2, atI_3, List.map_cons, List.map_nil, List.length_cons, List.length_nil, List.replicate_succ, List.replicate_zero, List.cons_append, List.nil_append, List.getElem?_cons_zero, List.getElem?_cons_succ, List.set_cons_zero, List.set_cons_succ, Nat.reduceAdd, Nat.reduceSub, Nat.zero_add, Nat.add_zero, Nat.sub_self, Nat.reduceMul, mostL_def, Nat.reduceLeDiff, Nat.reduceLT, ite_true, ite_false, if_true, if_false, ↓reduceIte, reduceIte, ↓br_ite, Bool.false_eq_true, reduceCtorEq, Bool.not_true, Bool.not_false, decide_true, decide_false, Int.cast_ofNat_Int, Int.reduceBEq, Int.reduceAdd, Int.reduceSub, Int.reduceMul, Int.reduceNeg, Int.reduceLT, Int.reduceLE, Int.reduceMod, Int.reduceDiv, sMeth1_ap, sSl_ap, sRev_ap, oNo_ap, oPart_ap, sDict0_ap, sSetL_ap, sLc2_ap, sStar_ap, q1]
  · have := Int.mul_ediv_add_emod r S
    exact ⟨j - r / S, by rw [Int.mul_sub]; omega⟩
  · obtain ⟨i, rfl⟩ := rest_form hS hy hdv
    by_cases h2 : i < j
    · exact absurd hg2 (hjm i h2)
    · have : S * (j : Int) ≤ S * (i : Int) := Int.mul_le_mul_of_nonneg_left (by omega) (by omega)
      omega
theorem Ltop.uniq {P S r x y : Int} (a : Ltop P S r x) (b : Ltop P S r y) : x = y := by
  have h1 := a.le y b.x0 b.dv b.co
  have h2 := b.le x a.x0 a.dv a.co
  omega
theorem Ltop.congr {P S r r' x : Int} (a : Ltop P S r x) (h : S ∣ r - r') : Ltop P S r' x := by
  refine ⟨a.x0, ?_, a.co, fun y h1 h2 h3 => a.le y h1 ?_ h3, a.lt⟩
  · have := Int.dvd_add a.dv h; rwa [show x - r + (r - r') = x - r' by omega] at this
  · have := Int.dvd_sub h2 h; rwa [show y - r' - (r - r') = y - r by omega] at this
/-- the rim of a fraction -/
def RimOf (L t b x : Int) : Prop := Ltop (rP L b) (rS L b) (rR L t b) x
theorem rim_in_ok {L t b : Int} {k : Nat} {h : Ph} (hL : 1 ≤ L) (hL2 : L ≤ 100) (f : Fr t b) (hk : k ≤ 500) (st : Sm k t) (sb : Sm k b) : ∃ x, f_rim_in [.int L, T2 t b] h = .ok (T2 x (rP L b)) h ∧ RimOf L t b x := by
  have hp := rP_pos (b := b) hL
  have hp2 : rP L b ≤ L := Int.le_of_dvd (by omega) rP_dvd.2
  have hs : 0 < rS L b := rP_pos (L := L / rP L b) (b := rP L b) (by
    obtain ⟨_, e⟩ := rU_eq (b := b) hL
    by_cases h : 1 ≤ L / rP L b
    · exact h
    · have : rP L b * (L / rP L b) ≤ 0 := Int.mul_nonpos_of_nonneg_of_nonpos (by omega) (by omega)
      omega)
  have sL : Sm 600 L := Sm.of_lt 600 (n := 101) (by omega) (by omega) (by decide +kernel)
  have e1 := common_ok (a := b) (b := L) (h := h) sL
  have hq : L / rP L b ≤ L ∧ 0 ≤ L / rP L b := ⟨Int.ediv_le_self _ (by omega), Int.ediv_nonneg (by omega) (by omega)⟩
  have e2 := common_ok (a := rP L b) (b := L / rP L b) (h := h) (Sm.of_lt 600 (n := 101) (by omega) (by omega) (by decide +kernel))
  obtain ⟨x, e3, lt⟩ := least_top_ok (P := rP L b) (S := rS L b) (r := rR L t b) (h := h) hp (by omega) hs rS_dvd.1 (rR_cop hL f.co)
  refine ⟨x, ?_, lt⟩
  have lg : (rP L b).natAbs.log2 < 9000 := Nat.lt_of_le_of_lt (log_lt (k := 7) (by omega)) (by decide)
  have su : Sm 500 (rU L b) := ⟨by
    have h1 := Int.natAbs_ediv_le_natAbs b (rP L b)
    have h2 := (sb.mono hk).lt
    exact Nat.lt_of_le_of_lt h1 h2⟩
  have c1 : CM t (rU L b) := CM.of st su (by omega)
  have e1' : f_common_of [.int b, .int L] h = .ok (.int (rP L b)) h := e1
  have d1 : dDiv (.int L) (.int (rP L b)) h = .ok (.int (L / rP L b)) h := dDiv_pos hp lg
  have d2 : dDiv (.int b) (.int (rP L b)) h = .ok (.int (rU L b)) h := dDiv_pos hp lg
  have e2' : f_common_of [.int (rP L b), .int (L / rP L b)] h = .ok (.int (rS L b)) h := e2
  have e3' : f_least_top [.int (rP L b), .int (rS L b), .int (t * rU L b)] h = .ok (.int x) h := e3
  unfold f_rim_in
  simp (maxSteps := 4000000) (dsimp := false) (disch := first | assumption | decide | omega | walk_at "cm") only [runDef_ap, sVar_ap, sC_ap, sBin_ap, sNeg_ap, sAnd_ap, sOr_ap, sNot_ap, sIf_ap, sTst_ap, qAnd_ap, qOr_ap, qNot_ap, qYes_ap, sChain_ap, sChain3_ap, sNil_ap, sCons_ap, sTup_ap, sLst_ap, sLstM_ap, sCall_ap, g1_ap, g2_ap, sFn_ap, sAsg_ap, gNm_ap, gTp_ap, gConsS_ap, gNilS_ap, sPar_ap, sPar3_ap, sRet_ap, sRetN_ap, sNx_ap, sBrk_ap, sCnt_ap, sSeq_ap, sIte_ap, sDrop_ap, sFrz_ap, sAug_ap, iRange1_ap, iRange2_ap, iSeq_ap, sFor_ap, sLc_ap, R.toG_ok, ↓R.bind_bnd, bnd_ok, ↓R.bd_bdn, bdn_ok, ↓R.toF_tof, tof_ok, ↓F.seq_sqn, sqn_nx, sqn_ret, sqn_cnt, sqn_brk, ↓F.turn_trn, trn_nx, trn_ret, trn_cnt, trn_brk, F.end_nx, F.end_ret, ↓br_true, br_true, ↓br_false, br_false, Dbr, Dneg, Dtst, opt_some, dAdd_int, dIAdd_int, dSub_int, dLt_int, dLe_int, dGt_int, dGe_int, dEq_int, dNe_int, dEq_bl, dNe_bl, dMul_cm, dMod_pos, dDiv_pos, dAbs_int, dMax2_int, dMin2_int, dInt_int, dInt_bl, dIx_tup, dIx_lst, dIx_seq, dLen_tup, dLen_lst, dLen_seq, atI_0, atI_1, atI_2, atI_3, List.map_cons, List.map_nil, List.length_cons, List.length_nil, List.replicate_succ, List.replicate_zero, List.cons_append, List.nil_append, List.getElem?_cons_zero, List.getElem?_cons_succ, List.set_cons_zero, List.set_cons_succ, Nat.reduceAdd, Nat.reduceSub, Nat.zero_add, Nat.add_zero, Nat.sub_self, Nat.reduceMul, mostL_def, Nat.reduceLeDiff, Nat.reduceLT, ite_true, ite_false, if_true, if_false, ↓reduceIte, reduceIte, ↓br_ite, Bool.false_eq_true, reduceCtorEq, Bool.not_true, Bool.not_false, decide_true, decide_false, Int.cast_ofNat_Int, Int.reduceBEq, Int.reduceAdd, Int.reduceSub, Int.reduceMul, Int.reduceNeg, Int.reduceLT, Int.reduceLE, Int.reduceMod, Int.reduceDiv, sMeth1_ap, sSl_ap, sRev_ap, oNo_ap, oPart_ap, sDict0_ap, sSetL_ap, sLc2_ap, sStar_ap, e1', d1, d2, e2', e3', c1]
/-- one class -/
def Cls (L t b t' b' : Int) : Prop := rP L b = rP L b' ∧ rS L b ∣ rR L t b - rR L t' b'
theorem rim_same {L t b t' b' x x' : Int} (r : RimOf L t b x) (r' : RimOf L t' b' x') : (x = x' ∧ rP L b = rP L b') ↔ Cls L t b t' b' := by
  constructor
  · rintro ⟨rfl, e⟩
    refine ⟨e, ?_⟩
    have h1 := r.dv
    have h2 := r'.dv
    have eS : rS L b' = rS L b := by show (Int.gcd (rP L b') (L / rP L b') : Int) = (Int.gcd (rP L b) (L / rP L b) : Int); rw [e]
    rw [eS] at h2
    have := Int.dvd_sub h2 h1
    rwa [show x - rR L t' b' - (x - rR L t b) = rR L t b - rR L t' b' by omega] at this
  · rintro ⟨e, h⟩
    have eS : rS L b' = rS L b := by show (Int.gcd (rP L b') (L / rP L b') : Int) = (Int.gcd (rP L b) (L / rP L b) : Int); rw [e]
    have r2 := r.congr h
    unfold RimOf at r'
    rw [eS, ← e] at r'
    exact ⟨r2.uniq r', e⟩
theorem require_two_ok {L t b t' b' : Int} {h : Ph} (hL : 1 ≤ L) (hL2 : L ≤ 100) (f : Fs t b) (f' : Fs t' b') : f_require_two [.int L, T2 t b, T2 t' b'] h = .ok .non h := by
  have e1 := require_level_ok (h := h) hL hL2
  have e2 := require_fraction_ok (h := h) f
  have e3 := require_fraction_ok (h := h) f'
  unfold f_require_two; simp (maxSteps := 4000000) (dsimp := false) (disch := first | assumption | decide | omega | walk_at "cm") only [runDef_ap, sVar_ap, sC_ap, sBin_ap, sNeg_ap, sAnd_ap, sOr_ap, sNot_ap, sIf_ap, sTst_ap, qAnd_ap, qOr_ap, qNot_ap, qYes_ap, sChain_ap, sChain3_ap, sNil_ap, sCons_ap, sTup_ap, sLst_ap, sLstM_ap, sCall_ap, g1_ap, g2_ap, sFn_ap, sAsg_ap, gNm_ap, gTp_ap, gConsS_ap, gNilS_ap, sPar_ap, sPar3_ap, sRet_ap, sRetN_ap, sNx_ap, sBrk_ap, sCnt_ap, sSeq_ap, sIte_ap, sDrop_ap, sFrz_ap, sAug_ap, iRange1_ap, iRange2_ap, iSeq_ap, sFor_ap, sLc_ap, R.toG_ok, ↓R.bind_bnd, bnd_ok, ↓R.bd_bdn, bdn_ok, ↓R.toF_tof, tof_ok, ↓F.seq_sqn, sqn_nx, sqn_ret, sqn_cnt, sqn_brk, ↓F.turn_trn, trn_nx, trn_ret, trn_cnt, trn_brk, F.end_nx, F.end_ret, ↓br_true, br_true, ↓br_false, br_false, Dbr, Dneg, Dtst, opt_some, dAdd_int, dIAdd_int, dSub_int, dLt_int, dLe_int, dGt_int, dGe_int, dEq_int, dNe_int, dEq_bl, dNe_bl, dMul_cm, dMod_pos, dDiv_pos, dAbs_int, dMax2_int, dMin2_int, dInt_int, dInt_bl, dIx_tup, dIx_lst, dIx_seq, dLen_tup, dLen_lst, dLen_seq, atI_0, atI_1, atI_2, atI_3, List.map_cons, List.map_nil, List.length_cons, List.length_nil, List.replicate_succ, List.replicate_zero, List.cons_append, List.nil_append, List.getElem?_cons_zero, List.getElem?_cons_succ, List.set_cons_zero, List.set_cons_succ, Nat.reduceAdd, Nat.reduceSub, Nat.zero_add, Nat.add_zero, Nat.sub_self, Nat.reduceMul, mostL_def, Nat.reduceLeDiff, Nat.reduceLT, ite_true, ite_false, if_true, if_false, ↓reduceIte, reduceIte, ↓br_ite, Bool.false_eq_true, reduceCtorEq, Bool.not_true, Bool.not_false, decide_true, decide_false, Int.cast_ofNat_Int, Int.reduceBEq, Int.reduceAdd, Int.reduceSub, Int.reduceMul, Int.reduceNeg, Int.reduceLT, Int.reduceLE, Int.reduceMod, Int.reduceDiv, sMeth1_ap, sSl_ap, sRev_ap, oNo_ap, oPart_ap, sDict0_ap, sSetL_ap, sLc2_ap, sStar_ap, e1, e2, e3]
end Pd

/-! Po: small fractions, small matrices drawn -/
namespace Pd
open PySem L2 Evl
local macro_rules | `(tactic| walk_at "sm") => `(tactic| first | assumption | exact Sm.lit | exact Sm.mul (by walk_at "sm") (by walk_at "sm") | exact Sm.add (by walk_at "sm") (by walk_at "sm") | exact Sm.sub (by walk_at "sm") (by walk_at "sm") | exact Sm.neg (by walk_at "sm"))
local macro_rules | `(tactic| walk_at "cm") => `(tactic| ((with_reducible show CM _ _); first | assumption | exact CM.left (by decide) | exact CM.right (by decide) | exact CM.left (by omega) | exact CM.right (by omega) | exact CM.of (by walk_at "sm") (by walk_at "sm") (by decide)))
theorem fraction_drawn_k {n j : Nat} {h : Ph} {T : Int} (hd : Dc h n) (h1 : 0 < T) (h2 : T ≤ 100000) (hj : T < (2 ^ j : Nat)) (hj1 : 1 ≤ j) (hj2 : j ≤ 600) : ∃ t b h', f__law_fraction_drawn [.ref n, .int T] h = .ok (T2 t b) h' ∧ Fr t b ∧ Sm j t ∧ Sm j b ∧ Dr n h h' := by
  have lg : ∀ {X : Int}, 0 < X → X < 4294967296 → X.natAbs.log2 < 9000 := fun h1 h2 => Nat.lt_of_le_of_lt (log_lt (k := 32) (by omega)) (by decide)
  obtain ⟨u, h3, e1, u0, u1, d1⟩ := roll_ok (T := 8) hd (by decide) (by decide)
  by_cases hu : u = 0
  · subst hu
    refine ⟨1, 0, h3, ?_, ⟨by decide, by decide, fun _ => rfl⟩, Sm.mono (j := 1) ⟨by decide⟩ hj1, Sm.mono (j := 1) ⟨by decide⟩ hj1, d1⟩
    unfold f__law_fraction_drawn
    simp (maxSteps := 4000000) (dsimp := false) (disch := first | assumption | decide | omega | walk_at "cm") only [runDef_ap, sVar_ap, sC_ap, sBin_ap, sNeg_ap, sAnd_ap, sOr_ap, sNot_ap, sIf_ap, sTst_ap, qAnd_ap, qOr_ap, qNot_ap, qYes_ap, sChain_ap, sChain3_ap, sNil_ap, sCons_ap, sTup_ap, sLst_ap, sLstM_ap, sCall_ap, g1_ap, g2_ap, sFn_ap, sAsg_ap, gNm_ap, gTp_ap, gConsS_ap, gNilS_ap, sPar_ap, sPar3_ap, sRet_ap, sRetN_ap, sNx_ap, sBrk_ap, sCnt_ap, sSeq_ap, sIte_ap, sDrop_ap, sFrz_ap, sAug_ap, iRange1_ap, iRange2_ap, iSeq_ap, sFor_ap, sLc_ap, R.toG_ok, ↓R.bind_bnd, bnd_ok, ↓R.bd_bdn, bdn_ok, ↓R.toF_tof, tof_ok, ↓F.seq_sqn, sqn_nx, sqn_ret, sqn_cnt, sqn_brk, ↓F.turn_trn, trn_nx, trn_ret, trn_cnt, trn_brk, F.end_nx, F.end_ret, ↓br_true, br_true, ↓br_false, br_false, Dbr, Dneg, Dtst, opt_some, dAdd_int, dIAdd_int, dSub_int, dLt_int, dLe_int, dGt_int, dGe_int, dEq_int, dNe_int, dEq_bl, dNe_bl, dMul_cm, dMod_pos, dDiv_pos, dAbs_int, dMax2_int, dMin2_int, dInt_int, dInt_bl, dIx_tup, dIx_lst, dIx_seq, dLen_tup, dLen_lst, dLen_seq, atI_0, atI_1, atI_2, atI_3, List.map_cons, List.map_nil, List.length_cons, List.length_nil, List.replicate_succ, List.replicate_zero, List.cons_append, List.nil_append, List.getElem?_cons_zero, List.getElem?_cons_succ, List.set_cons_zero, List.set_cons_succ, Nat.reduceAdd, Nat.reduceSub, Nat.zero_add, Nat.add_zero, Nat.sub_self, Nat.reduceMul, mostL_def, Nat.reduceLeDiff, Nat.reduceLT, ite_true, ite_false, if_true, if_false, ↓reduceIte, reduceIte, ↓br_ite, Bool.false_eq_true, reduceCtorEq, Bool.not_true, Bool.not_false, decide_true, decide_false, Int.cast_ofNat_Int, Int.reduceBEq, Int.reduceAdd, Int.reduceSub, Int.reduceMul, Int.reduceNeg, Int.reduceLT, Int.reduceLE, Int.reduceMod, Int.reduceDiv, sMeth1_ap, sSl_ap, sRev_ap, oNo_ap, oPart_ap, sDict0_ap, sSetL_ap, sLc2_ap, sStar_ap, e1, beq_self_eq_true]
  · obtain ⟨v, h4, e2, v0, v1, d2⟩ := roll_ok (T := 2 * T + 1) d1.dc (by omega) (lg (by omega) (by omega))
    obtain ⟨w, h5, e3, w0, w1, d3⟩ := roll_ok (T := T) d2.dc (by omega) (lg (by omega) (by omega))
    have sx : Sm j (v - T) := ⟨by omega⟩
    have sy : Sm j (1 + w) := ⟨by omega⟩
    have hn : v - T ≠ 0 ∨ 1 + w ≠ 0 := .inr (by omega)
    obtain ⟨f, ex, ey⟩ := lw_ok hn
    have e4 := law_lowest_ok (h := h5) (sx.mono (by omega : j ≤ 600)) (sy.mono (by omega : j ≤ 600)) hn
    have hu' : (u == 0) = false := beq_false_of_ne hu
    have hg := gcd_ne hn
    have key : ∀ {z k : Int}, Sm j z → z = lwS (v - T) (1 + w) * Int.gcd (v - T) (1 + w) * k → Sm j k := fun {z k} sz e => by
      have := sz.lt
      rw [e, Int.natAbs_mul, Int.natAbs_mul, Int.natAbs_natCast, show (lwS (v - T) (1 + w)).natAbs = 1 by unfold lwS; split <;> rfl, Nat.one_mul] at this
      exact ⟨Nat.lt_of_le_of_lt (Nat.le_mul_of_pos_left _ (by omega)) this⟩
    refine ⟨_, _, h5, ?_, f, key sx ex, key sy ey, (d1.trans d2).trans d3⟩
    unfold f__law_fraction_drawn
    simp (maxSteps := 4000000) (dsimp := false) (disch := first | assumption | decide | omega | walk_at "cm") only [runDef_ap, sVar_ap, sC_ap, sBin_ap, sNeg_ap, sAnd_ap, sOr_ap, sNot_ap, sIf_ap, sTst_ap, qAnd_ap, qOr_ap, qNot_ap, qYes_ap, sChain_ap, sChain3_ap, sNil_ap, sCons_ap, sTup_ap, sLst_ap, sLstM_ap, sCall_ap, g1_ap, g2_ap, sFn_ap, sAsg_ap, gNm_ap, gTp_ap, gConsS_ap, gNilS_ap, sPar_ap, sPar3_ap, sRet_ap, sRetN_ap, sNx_ap, sBrk_ap, sCnt_ap, sSeq_ap, sIte_ap, sDrop_ap, sFrz_ap, sAug_ap, iRange1_ap, iRange2_ap, iSeq_ap, sFor_ap, sLc_ap, R.toG_ok, ↓R.bind_bnd, bnd_ok, ↓R.bd_bdn, bdn_ok, ↓R.toF_tof, tof_ok, ↓F.seq_sqn, sqn_nx, sqn_ret, sqn_cnt, sqn_brk, ↓F.turn_trn, trn_nx, trn_ret, trn_cnt, trn_brk, F.end_nx, F.end_ret, ↓br_true, br_true, ↓br_false, br_false, Dbr, Dneg, Dtst, opt_some, dAdd_int, dIAdd_int, dSub_int, dLt_int, dLe_int, dGt_int, dGe_int, dEq_int, dNe_int, dEq_bl, dNe_bl, dMul_cm, dMod_pos, dDiv_pos, dAbs_int, dMax2_int, dMin2_int, dInt_int, dInt_bl, dIx_tup, dIx_lst, dIx_seq, dLen_tup, dLen_lst, dLen_seq, atI_0, atI_1, atI_2, atI_3, List.map_cons, List.map_nil, List.length_cons, List.length_nil, List.replicate_succ, List.replicate_zero, List.cons_append, List.nil_append, List.getElem?_cons_zero, List.getElem?_cons_succ, List.set_cons_zero, List.set_cons_succ, Nat.reduceAdd, Nat.reduceSub, Nat.zero_add, Nat.add_zero, Nat.sub_self, Nat.reduceMul, mostL_def, Nat.reduceLeDiff, Nat.reduceLT, ite_true, ite_false, if_true, if_false, ↓reduceIte, reduceIte, ↓br_ite, Bool.false_eq_true, reduceCtorEq, Bool.not_true, Bool.not_false, decide_true, decide_false, Int.cast_ofNat_Int, Int.reduceBEq, Int.reduceAdd, Int.reduceSub, Int.reduceMul, Int.reduceNeg, Int.reduceLT, Int.reduceLE, Int.reduceMod, Int.reduceDiv, sMeth1_ap, sSl_ap, sRev_ap, oNo_ap, oPart_ap, sDict0_ap, sSetL_ap, sLc2_ap, sStar_ap, e1, e2, e3, e4, hu']
theorem matrix_drawn14 {n : Nat} {h : Ph} {L T : Int} (hd : Dc h n) (hL : 1 ≤ L) (hL2 : L ≤ 100) (hT : 1 ≤ T) (hT2 : T ≤ 5) : ∃ p q r s h', f__law_matrix_drawn [.ref n, .int L, .int T] h = .ok (T4 p q r s) h' ∧ Mx 14 p q r s ∧ L ∣ r ∧ Dr n h h' := by
  have lg : ∀ {X : Int}, 0 < X → X < 4294967296 → X.natAbs.log2 < 9000 := fun h1 h2 => Nat.lt_of_le_of_lt (log_lt (k := 32) (by omega)) (by decide)
  obtain ⟨v, h1, e1, v0, v1, d1⟩ := roll_ok (T := 2 * T + 1) hd (by omega) (lg (by omega) (by omega))
  have sL : Sm 7 L := Sm.of_lt 7 (n := 101) (by omega) (by omega) (by decide)
  have sT : Sm 3 T := Sm.of_lt 3 (n := 6) (by omega) (by omega) (by decide)
  have sv : Sm 3 (v - T) := Sm.of_lt 3 (n := 6) (by omega) (by omega) (by decide)
  have sc : Sm 10 (L * (v - T)) := sL.mul sv
  generalize hcc : L * (v - T) = c at sc
  have hLc : L ∣ c := ⟨v - T, hcc.symm⟩
  let ns := rangeZ (-4 * T - 1) (4 * T + 2 - (-4 * T - 1)).toNat
  have hns : ns.length ≤ 10000 := by show (rangeZ _ _).length ≤ _; rw [rangeZ_len]; omega
  have hmem : ∀ x ∈ ns, -30 < x ∧ x < 30 := fun x hx => by have := rangeZ_mem.mp hx; omega
  have hc : c__law_matrix_drawn_1 [some (.ref n), some (.int L), some (.int T), some (.int c), none, none, none, none, none] h1 = .ok (.lst ((ns.filter fun x => (Int.gcd x c : Int) == 1).map D.int)) h1 := by
    unfold c__law_matrix_drawn_1
    refine lc_filter (h := h1) (h1 := h1) (ns := ns) ?_ (Nat.le_trans hns (show 10000 ≤ mostL by decide)) (show 8 < 9 by decide) fun x hx => ?_
    · refine range2_ok (m := -4 * T - 1) (n := 4 * T + 2) ?_ (Sm.of_lt 61 (n := 1000000) (by omega) (by omega) (by decide)) (Sm.of_lt 61 (n := 1000000) (by omega) (by omega) (by decide))
      simp (maxSteps := 4000000) (dsimp := false) (disch := first | assumption | decide | omega | walk_at "cm") only [runDef_ap, sVar_ap, sC_ap, sBin_ap, sNeg_ap, sAnd_ap, sOr_ap, sNot_ap, sIf_ap, sTst_ap, qAnd_ap, qOr_ap, qNot_ap, qYes_ap, sChain_ap, sChain3_ap, sNil_ap, sCons_ap, sTup_ap, sLst_ap, sLstM_ap, sCall_ap, g1_ap, g2_ap, sFn_ap, sAsg_ap, gNm_ap, gTp_ap, gConsS_ap, gNilS_ap, sPar_ap, sPar3_ap, sRet_ap, sRetN_ap, sNx_ap, sBrk_ap, sCnt_ap, sSeq_ap, sIte_ap, sDrop_ap, sFrz_ap, sAug_ap, iRange1_ap, iRange2_ap, iSeq_ap, sFor_ap, sLc_ap, R.toG_ok, ↓R.bind_bnd, bnd_ok, ↓R.bd_bdn, bdn_ok, ↓R.toF_tof, tof_ok, ↓F.seq_sqn, sqn_nx, sqn_ret, sqn_cnt, sqn_brk, ↓F.turn_trn, trn_nx, trn_ret, trn_cnt, trn_brk, F.end_nx, F.end_ret, ↓br_true, br_true, ↓br_false, br_false, Dbr, Dneg, Dtst, opt_some, dAdd_int, dIAdd_int, dSub_int, dLt_int, dLe_int, dGt_int, dGe_int, dEq_int, dNe_int, dEq_bl, dNe_bl, dMul_cm, dMod_pos, dDiv_pos, dAbs_int, dMax2_int, dMin2_int, dInt_int, dInt_bl, dIx_tup, dIx_lst, dIx_seq, dLen_tup, dLen_lst, dLen_seq, atI_0, atI_1, atI_2, atI_3, List.map_cons, List.map_nil, List.length_cons, List.length_nil, List.replicate_succ, List.replicate_zero, List.cons_append, List.nil_append, List.getElem?_cons_zero, List.getElem?_cons_succ, List.set_cons_zero, List.set_cons_succ, Nat.reduceAdd, Nat.reduceSub, Nat.zero_add, Nat.add_zero, Nat.sub_self, Nat.reduceMul, mostL_def, Nat.reduceLeDiff, Nat.reduceLT, ite_true, ite_false, if_true, if_false, ↓reduceIte, reduceIte, ↓br_ite, Bool.false_eq_true, reduceCtorEq, Bool.not_true, Bool.not_false, decide_true, decide_false, Int.cast_ofNat_Int, Int.reduceBEq, Int.reduceAdd, Int.reduceSub, Int.reduceMul, Int.reduceNeg, Int.reduceLT, Int.reduceLE, Int.reduceMod, Int.reduceDiv, sMeth1_ap, sSl_ap, sRev_ap, oNo_ap, oPart_ap, sDict0_ap, sSetL_ap, sLc2_ap, sStar_ap]
    · have e := gcdL_ok x c h1 (fu_lt (sc.mono (by decide)))
      simp (maxSteps := 4000000) (dsimp := false) (disch := first | assumption | decide | omega | walk_at "cm") only [runDef_ap, sVar_ap, sC_ap, sBin_ap, sNeg_ap, sAnd_ap, sOr_ap, sNot_ap, sIf_ap, sTst_ap, qAnd_ap, qOr_ap, qNot_ap, qYes_ap, sChain_ap, sChain3_ap, sNil_ap, sCons_ap, sTup_ap, sLst_ap, sLstM_ap, sCall_ap, g1_ap, g2_ap, sFn_ap, sAsg_ap, gNm_ap, gTp_ap, gConsS_ap, gNilS_ap, sPar_ap, sPar3_ap, sRet_ap, sRetN_ap, sNx_ap, sBrk_ap, sCnt_ap, sSeq_ap, sIte_ap, sDrop_ap, sFrz_ap, sAug_ap, iRange1_ap, iRange2_ap, iSeq_ap, sFor_ap, sLc_ap, R.toG_ok, ↓R.bind_bnd, bnd_ok, ↓R.bd_bdn, bdn_ok, ↓R.toF_tof, tof_ok, ↓F.seq_sqn, sqn_nx, sqn_ret, sqn_cnt, sqn_brk, ↓F.turn_trn, trn_nx, trn_ret, trn_cnt, trn_brk, F.end_nx, F.end_ret, ↓br_true, br_true, ↓br_false, br_false, Dbr, Dneg, Dtst, opt_some, dAdd_int, dIAdd_int, dSub_int, dLt_int, dLe_int, dGt_int, dGe_int, dEq_int, dNe_int, dEq_bl, dNe_bl, dMul_cm, dMod_pos, dDiv_pos, dAbs_int, dMax2_int, dMin2_int, dInt_int, dInt_bl, dIx_tup, dIx_lst, dIx_seq, dLen_tup, dLen_lst, dLen_seq, atI_0, atI_1, atI_2, atI_3, List.map_cons, List.map_nil, List.length_cons, List.length_nil, List.replicate_succ, List.replicate_zero, List.cons_append, List.nil_append, List.getElem?_cons_zero, List.getElem?_cons_succ, List.set_cons_zero, List.set_cons_succ, Nat.reduceAdd, Nat.reduceSub, Nat.zero_add, Nat.add_zero, Nat.sub_self, Nat.reduceMul, mostL_def, Nat.reduceLeDiff, Nat.reduceLT, ite_true, ite_false, if_true, if_false, ↓reduceIte, reduceIte, ↓br_ite, Bool.false_eq_true, reduceCtorEq, Bool.not_true, Bool.not_false, decide_true, decide_false, Int.cast_ofNat_Int, Int.reduceBEq, Int.reduceAdd, Int.reduceSub, Int.reduceMul, Int.reduceNeg, Int.reduceLT, Int.reduceLE, Int.reduceMod, Int.reduceDiv, sMeth1_ap, sSl_ap, sRev_ap, oNo_ap, oPart_ap, sDict0_ap, sSetL_ap, sLc2_ap, sStar_ap, wipe_cons, wipe_nil, e]
  have hm1 : (1 : Int) ∈ ns.filter fun x => (Int.gcd x c : Int) == 1 := List.mem_filter.mpr ⟨rangeZ_mem.mpr (by omega), by rw [Int.one_gcd]; rfl⟩
  obtain ⟨d, h2, e2, m2, d2⟩ := pick_int (ns := ns.filter fun x => (Int.gcd x c : Int) == 1) d1.dc (List.ne_nil_of_mem hm1) (Nat.lt_of_le_of_lt (List.length_filter_le _ _) (by omega))
  obtain ⟨m3, m4⟩ := List.mem_filter.mp m2
  have hb := hmem d m3
  have hg : Int.gcd d c = 1 := by have := eq_of_beq m4; omega
  have sd : Sm 5 d := Sm.of_lt 5 (n := 30) (by omega) (by omega) (by decide)
  obtain ⟨x, y, e3, hxy, sx, sy⟩ := bezout_ok (h := h2) (k := 10) (by decide) hg (sd.mono (by decide)) sc
  obtain ⟨m, h3, e4, w0, w1, d3⟩ := roll_ok (T := 7) d2.dc (by decide) (by decide)
  have sm : Sm 3 (m - 3) := Sm.of_lt 3 (n := 5) (by omega) (by omega) (by decide)
  refine ⟨x + (m - 3) * c, (m - 3) * d - y, c, d, h3, ?_, ⟨?_, ?_, sc.mono (by decide), sd.mono (by decide), ?_⟩, hLc, (d1.trans d2).trans d3⟩
  · unfold f__law_matrix_drawn
    simp (maxSteps := 4000000) (dsimp := false) (disch := first | assumption | decide | omega | walk_at "cm") only [runDef_ap, sVar_ap, sC_ap, sBin_ap, sNeg_ap, sAnd_ap, sOr_ap, sNot_ap, sIf_ap, sTst_ap, qAnd_ap, qOr_ap, qNot_ap, qYes_ap, sChain_ap, sChain3_ap, sNil_ap, sCons_ap, sTup_ap, sLst_ap, sLstM_ap, sCall_ap, g1_ap, g2_ap, sFn_ap, sAsg_ap, gNm_ap, gTp_ap, gConsS_ap, gNilS_ap, sPar_ap, sPar3_ap, sRet_ap, sRetN_ap, sNx_ap, sBrk_ap, sCnt_ap, sSeq_ap, sIte_ap, sDrop_ap, sFrz_ap, sAug_ap, iRange1_ap, iRange2_ap, iSeq_ap, sFor_ap, sLc_ap, R.toG_ok, ↓R.bind_bnd, bnd_ok, ↓R.bd_bdn, bdn_ok, ↓R.toF_tof, tof_ok, ↓F.seq_sqn, sqn_nx, sqn_ret, sqn_cnt, sqn_brk, ↓F.turn_trn, trn_nx, trn_ret, trn_cnt, trn_brk, F.end_nx, F.end_ret, ↓br_true, br_true, ↓br_false, br_false, Dbr, Dneg, Dtst, opt_some, dAdd_int, dIAdd_int, dSub_int, dLt_int, dLe_int, dGt_int, dGe_int, dEq_int, dNe_int, dEq_bl, dNe_bl, dMul_cm, dMod_pos, dDiv_pos, dAbs_int, dMax2_int, dMin2_int, dInt_int, dInt_bl, dIx_tup, dIx_lst, dIx_seq, dLen_tup, dLen_lst, dLen_seq, atI_0, atI_1, atI_2, atI_3, List.map_cons, List.map_nil, List.length_cons, List.length_nil, List.replicate_succ, List.replicate_zero, List.cons_append, List.nil_append, List.getElem?_cons_zero, List.getElem?_cons_succ, List.set_cons_zero, List.set_cons_succ, Nat.reduceAdd, Nat.reduceSub, Nat.zero_add, Nat.add_zero, Nat.sub_self, Nat.reduceMul, mostL_def, Nat.reduceLeDiff, Nat.reduceLT, ite_true, ite_false, if_true, if_false, ↓reduceIte, reduceIte, ↓br_ite, Bool.false_eq_true, reduceCtorEq, Bool.not_true, Bool.not_false, decide_true, decide_false, Int.cast_ofNat_Int, Int.reduceBEq, Int.reduceAdd, Int.reduceSub, Int.reduceMul, Int.reduceNeg, Int.reduceLT, Int.reduceLE, Int.reduceMod, Int.reduceDiv, sMeth1_ap, sSl_ap, sRev_ap, oNo_ap, oPart_ap, sDict0_ap, sSetL_ap, sLc2_ap, sStar_ap, e1, hcc, hc, e2, e3, e4, gTp_ap, gConsS_ap, gNilS_ap]
  · exact ((sx.mono (by decide : 10 + 2 ≤ 13)).add1 ((sm.mul sc).mono (by decide))).mono (by decide)
  · exact (((sm.mul sd).mono (by decide : _ ≤ 13)).sub1 (sy.mono (by decide))).mono (by decide)
  · grind
end Pd

namespace L14
open PySem L2 Evl Pd
def l__law_rim_told_1 : SS := sIte (qAnd (sTst (sBin dEq (sFn f__law_gcd (sCons (sVar 5) (sCons (sVar 3) (sNil)))) (sC (.int 1)))) (sTst (sBin dEq (sBin dMod (sBin dSub (sVar 5) (sBin dMul (sVar 1) (sBin dDiv (sVar 2) (sVar 3)))) (sVar 4)) (sC (.int 0))))) (sRet (sTup (sCons (sVar 5) (sCons (sVar 3) (sNil))))) (sNx)
def m__law_rim_told : Fn := runDef 6 (sSeq (sAsg (sFn f__law_gcd (sCons (sVar 2) (sCons (sVar 0) (sNil)))) (gNm 3)) (sSeq (sAsg (sFn f__law_gcd (sCons (sVar 3) (sCons (sBin dDiv (sVar 0) (sVar 3)) (sNil)))) (gNm 4)) (sSeq (sFor (iRange1 (sCons (sBin dAdd (sBin dMul (sVar 3) (sVar 4)) (sC (.int 1))) (sNil))) (gNm 5) (l__law_rim_told_1)) (sRet (sTup (sCons (sC (.int 1)) (sCons (sVar 0) (sNil))))))))
def l_rim_paper_1 : SS := sSeq (sAsg (sFn f_product_in (sCons (sFn f_product_in (sCons (sVar 5) (sCons (sTup (sCons (sC (.int 1)) (sCons (sVar 3) (sCons (sC (.int 0)) (sCons (sC (.int 1)) (sNil)))))) (sNil)))) (sCons (sVar 4) (sNil)))) (gNm 6)) (sIte (sTst (sBin dEq (sBin dMod (sBin dIx (sVar 6) (sC (.int 2))) (sVar 0)) (sC (.int 0)))) (sRet (sVar 6)) (sNx))
def m_rim_paper : Fn := runDef 7 (sSeq (sDrop (sFn f_require_two (sCons (sVar 0) (sCons (sVar 1) (sCons (sVar 2) (sNil)))))) (sSeq (sPar 4 5 (sCons (sFn f_back_in (sCons (sFn f_matrix_to (sCons (sVar 1) (sNil))) (sNil))) (sCons (sFn f_matrix_to (sCons (sVar 2) (sNil))) (sNil)))) (sSeq (sFor (iRange1 (sCons (sVar 0) (sNil))) (gNm 3) (l_rim_paper_1)) (sRet (sC .non)))))
def m__law_is_paper : Fn := runDef 4 (sRet (sAnd (sFn f__law_is_group (sCons (sVar 0) (sCons (sVar 3) (sNil)))) (sBin dEq (sFn f__law_matrix_led (sCons (sVar 3) (sCons (sVar 1) (sNil)))) (sVar 2))))
def m__law_near : Fn := runDef 10 (sSeq (sAsg (sVar 3) (gTp 4 (gConsS (gNm 6) (gConsS (gNm 7) (gConsS (gNm 8) (gConsS (gNm 9) (gNilS))))))) (sSeq (sAsg (sLst (sCons (sVar 3) (sCons (sTup (sCons (sNeg (sVar 6)) (sCons (sNeg (sVar 7)) (sCons (sNeg (sVar 8)) (sCons (sNeg (sVar 9)) (sNil)))))) (sCons (sTup (sCons (sVar 6) (sCons (sVar 7) (sCons (sVar 8) (sNil))))) (sCons (sCall (g1 dList) (sCons (sVar 3) (sNil))) (sCons (sC .non) (sCons (sTup (sCons (sVar 6) (sCons (sVar 7) (sCons (sVar 8) (sCons (sBin dAdd (sVar 9) (sC (.int 1))) (sNil)))))) (sCons (sTup (sCons (sVar 6) (sCons (sVar 7) (sCons (sBin dAdd (sVar 8) (sVar 1)) (sCons (sVar 9) (sNil)))))) (sCons (sTup (sCons (sVar 9) (sCons (sNeg (sVar 7)) (sCons (sNeg (sVar 8)) (sCons (sVar 6) (sNil)))))) (sNil)))))))))) (gNm 4)) (sSeq (sAsg (sFn f__law_matrix_times (sCons (sVar 3) (sCons (sFn f__law_matrix_drawn (sCons (sVar 0) (sCons (sVar 1) (sCons (sC (.int 2)) (sNil))))) (sNil)))) (gNm 5)) (sRet (sBin dAdd (sVar 4) (sLst (sCons (sVar 5) (sCons (sTup (sCons (sVar 6) (sCons (sVar 7) (sCons (sVar 8) (sCons (sC .non) (sNil)))))) (sCons (sTup (sCons (sVar 6) (sCons (sVar 7) (sCons (sVar 8) (sCons (sCall (g1 dStr) (sCons (sVar 9) (sNil))) (sNil)))))) (sCons (sBin dAdd (sVar 3) (sTup (sCons (sC (.int 0)) (sNil)))) (sCons (sDict0) (sCons (sFn f__law_matrix_drawn (sCons (sVar 0) (sCons (sVar 1) (sCons (sC (.int 1)) (sNil))))) (sNil)))))))))))))
def m__law_head : Fn := runDef 3 (sSeq (sAsg (sFn f__law_bezout (sCons (sBin dIx (sVar 0) (sC (.int 0))) (sCons (sBin dIx (sVar 0) (sC (.int 1))) (sNil)))) (gTp 2 (gConsS (gNm 1) (gConsS (gNm 2) (gNilS))))) (sRet (sTup (sCons (sBin dIx (sVar 0) (sC (.int 0))) (sCons (sNeg (sVar 2)) (sCons (sBin dIx (sVar 0) (sC (.int 1))) (sCons (sVar 1) (sNil))))))))
def m__law_between : Fn := runDef 7 (sSeq (sAsg (sFn m__law_head (sCons (sVar 0) (sNil))) (gTp 4 (gConsS (gNm 3) (gConsS (gNm 4) (gConsS (gNm 5) (gConsS (gNm 6) (gNilS))))))) (sRet (sFn f__law_matrix_times (sCons (sFn f__law_matrix_times (sCons (sFn m__law_head (sCons (sVar 1) (sNil))) (sCons (sTup (sCons (sC (.int 1)) (sCons (sVar 2) (sCons (sC (.int 0)) (sCons (sC (.int 1)) (sNil)))))) (sNil)))) (sCons (sTup (sCons (sVar 6) (sCons (sNeg (sVar 4)) (sCons (sNeg (sVar 5)) (sCons (sVar 3) (sNil)))))) (sNil))))))
def m_is_rim_paper : Fn := runDef 4 (sSeq (sDrop (sFn f_require_two (sCons (sVar 0) (sCons (sVar 1) (sCons (sVar 2) (sNil)))))) (sSeq (sIte (qOr (qNot (sTst (sFn f_is_matrix (sCons (sVar 3) (sNil))))) (qOr (sTst (sBin dNe (sFn f_determinant_in (sCons (sVar 3) (sNil))) (sC (.int 1)))) (sTst (sBin dNe (sBin dMod (sBin dIx (sVar 3) (sC (.int 2))) (sVar 0)) (sC (.int 0)))))) (sRet (sC (.bl false))) (sNx)) (sRet (sBin dEq (sFn f_fraction_led (sCons (sVar 3) (sCons (sVar 1) (sNil)))) (sVar 2)))))
def c__law_pair_right_1 : SE := sLc (iSeq (sTup (sCons (sC (.int 0)) (sCons (sC (.int 1)) (sCons (sC (.int (-1))) (sCons (sFn f__law_roll (sCons (sVar 0) (sCons (sC (.int 60)) (sNil)))) (sNil))))))) (gNm 8) (qYes) (sFn m__law_between (sCons (sVar 2) (sCons (sVar 3) (sCons (sVar 8) (sNil))))) [8]
def l__law_pair_right_2 : SS := sIte (sTst (sBin dNe (sCall (g1 dRepr) (sCons (sFn m_is_rim_paper (sCons (sVar 1) (sCons (sVar 2) (sCons (sVar 3) (sCons (sVar 7) (sNil)))))) (sNil))) (sCall (g1 dRepr) (sCons (sFn m__law_is_paper (sCons (sVar 1) (sCons (sVar 2) (sCons (sVar 3) (sCons (sVar 7) (sNil)))))) (sNil))))) (sRet (sC (.bl false))) (sNx)
def m__law_pair_right : Fn := runDef 9 (sSeq (sAsg (sBin dEq (sFn m__law_rim_told (sCons (sVar 1) (sCons (sBin dIx (sVar 2) (sC (.int 0))) (sCons (sBin dIx (sVar 2) (sC (.int 1))) (sNil))))) (sFn m__law_rim_told (sCons (sVar 1) (sCons (sBin dIx (sVar 3) (sC (.int 0))) (sCons (sBin dIx (sVar 3) (sC (.int 1))) (sNil)))))) (gNm 4)) (sSeq (sAsg (sFn m_rim_paper (sCons (sVar 1) (sCons (sVar 2) (sCons (sVar 3) (sNil))))) (gNm 5)) (sSeq (sIte (qOr (sTst (sBin dNe (sBin dIsNot (sVar 5) (sC .non)) (sVar 4))) (sTst (sBin dNe (sFn f_are_same_rim (sCons (sVar 1) (sCons (sVar 2) (sCons (sVar 3) (sNil))))) (sVar 4)))) (sRet (sC (.bl false))) (sNx)) (sSeq (sIte (qAnd (sTst (sBin dIsNot (sVar 5) (sC .non))) (qNot (sTst (sFn m__law_is_paper (sCons (sVar 1) (sCons (sVar 2) (sCons (sVar 3) (sCons (sVar 5) (sNil))))))))) (sRet (sC (.bl false))) (sNx)) (sSeq (sAsg (sFn m__law_near (sCons (sVar 0) (sCons (sVar 1) (sCons (sVar 2) (sCons (sIf (sTst (sBin dIsNot (sVar 5) (sC .non))) (sVar 5) (sFn f__law_matrix_drawn (sCons (sVar 0) (sCons (sVar 1) (sCons (sC (.int 3)) (sNil)))))) (sNil)))))) (gNm 6)) (sSeq (sAsg (sBin dAdd (sVar 6) (c__law_pair_right_1)) (gNm 6)) (sSeq (sFor (iSeq (sVar 6)) (gNm 7) (l__law_pair_right_2)) (sRet (sC (.bl true))))))))))
def m__law_right : Fn := runDef 7 (sSeq (sAsg (sFn f__law_level_drawn (sCons (sVar 0) (sCons (sC (.int 60)) (sNil)))) (gNm 1)) (sSeq (sPar 5 6 (sCons (sFn f__law_fraction_drawn (sCons (sVar 0) (sCons (sC (.int 40)) (sNil)))) (sCons (sFn f__law_matrix_drawn (sCons (sVar 0) (sCons (sVar 1) (sCons (sC (.int 4)) (sNil))))) (sNil)))) (sSeq (sAsg (sFn f__law_matrix_led (sCons (sVar 6) (sCons (sVar 5) (sNil)))) (gNm 2)) (sSeq (sIte (qOr (sTst (sBin dNe (sFn f_led_fraction (sCons (sVar 6) (sCons (sVar 5) (sNil)))) (sVar 2))) (sTst (sBin dNe (sFn f_rim_of (sCons (sVar 1) (sCons (sVar 2) (sNil)))) (sFn f_rim_of (sCons (sVar 1) (sCons (sVar 5) (sNil))))))) (sRet (sC (.bl false))) (sNx)) (sSeq (sIte (qOr (qNot (sTst (sFn m_is_rim_paper (sCons (sVar 1) (sCons (sVar 5) (sCons (sVar 2) (sCons (sVar 6) (sNil)))))))) (qNot (sTst (sFn m__law_pair_right (sCons (sVar 0) (sCons (sVar 1) (sCons (sVar 5) (sCons (sVar 2) (sNil))))))))) (sRet (sC (.bl false))) (sNx)) (sSeq (sAsg (sTup (sCons (sBin dAdd (sC (.int 2)) (sFn f__law_roll (sCons (sVar 0) (sCons (sC (.int 9)) (sNil))))) (sCons (sBin dSub (sFn f__law_roll (sCons (sVar 0) (sCons (sC (.int 9)) (sNil)))) (sC (.int 4))) (sCons (sBin dSub (sFn f__law_roll (sCons (sVar 0) (sCons (sC (.int 9)) (sNil)))) (sC (.int 4))) (sCons (sC (.int 0)) (sNil)))))) (gNm 3)) (sSeq (sIte (qAnd (sTst (sBin dNe (sBin dMul (sBin dIx (sVar 3) (sC (.int 1))) (sBin dIx (sVar 3) (sC (.int 2)))) (sC (.int 0)))) (sTst (sBin dNe (sFn f_led_fraction (sCons (sVar 3) (sCons (sVar 5) (sNil)))) (sFn f__law_matrix_led (sCons (sVar 3) (sCons (sVar 5) (sNil))))))) (sRet (sC (.bl false))) (sNx)) (sSeq (sAsg (sFn f__law_fraction_drawn (sCons (sVar 0) (sCons (sC (.int 12)) (sNil)))) (gNm 4)) (sRet (sAnd (sFn m__law_pair_right (sCons (sVar 0) (sCons (sVar 1) (sCons (sVar 5) (sCons (sVar 4) (sNil)))))) (sFn m__law_pair_right (sCons (sVar 0) (sCons (sVar 1) (sCons (sVar 4) (sCons (sVar 5) (sNil))))))))))))))))
def l_law_1 : SS := sSeq (sAsg (sFn f__law_dice (sCons (sVar 0) (sCons (sVar 1) (sNil)))) (gNm 3)) (sIte (qOr (qNot (sTst (sFn m__law_right (sCons (sVar 3) (sNil))))) (qNot (sTst (sFn m__law_right (sCons (sVar 3) (sNil)))))) (sRet (sC (.bl false))) (sNx))
def m_law : Fn := runDef 4 (sSeq (sFor (iRange1 (sCons (sCall (g2 dMax2) (sCons (sC (.int 1)) (sCons (sCall (g2 dMin2) (sCons (sC (.int 3)) (sCons (sCall (g1 dLen) (sCons (sVar 0) (sNil))) (sNil)))) (sNil)))) (sNil))) (gNm 1) (l_law_1)) (sSeq (sIte (qOr (qNot (sTst (sFn f_are_same_rim (sCons (sC (.int 9)) (sCons (sTup (sCons (sC (.int 1)) (sCons (sC (.int 6)) (sNil)))) (sCons (sTup (sCons (sC (.int 2)) (sCons (sC (.int 3)) (sNil)))) (sNil))))))) (qNot (sTst (sFn m_is_rim_paper (sCons (sC (.int 9)) (sCons (sTup (sCons (sC (.int 1)) (sCons (sC (.int 6)) (sNil)))) (sCons (sTup (sCons (sC (.int 2)) (sCons (sC (.int 3)) (sNil)))) (sCons (sTup (sCons (sC (.int 8)) (sCons (sC (.int (-1))) (sCons (sC (.int 9)) (sCons (sC (.int (-1))) (sNil)))))) (sNil))))))))) (sRet (sC (.bl false))) (sNx)) (sSeq (sAsg (sLst (sCons (sFn f_led_fraction (sCons (sTup (sCons (sC (.int 8)) (sCons (sC (.int (-1))) (sCons (sC (.int 9)) (sCons (sC (.int (-1))) (sNil)))))) (sCons (sTup (sCons (sC (.int 1)) (sCons (sC (.int 6)) (sNil)))) (sNil)))) (sCons (sFn f_led_fraction (sCons (sTup (sCons (sC (.int 2)) (sCons (sC (.int 0)) (sCons (sC (.int 0)) (sCons (sC (.int 1)) (sNil)))))) (sCons (sTup (sCons (sC (.int 1)) (sCons (sC (.int 4)) (sNil)))) (sNil)))) (sCons (sFn f_led_fraction (sCons (sTup (sCons (sC (.int 0)) (sCons (sC (.int (-1))) (sCons (sC (.int 11)) (sCons (sC (.int 0)) (sNil)))))) (sCons (sTup (sCons (sC (.int 0)) (sCons (sC (.int 1)) (sNil)))) (sNil)))) (sNil))))) (gNm 2)) (sRet (sAnd (sBin dEq (sVar 2) (sLst (sCons (sTup (sCons (sC (.int 2)) (sCons (sC (.int 3)) (sNil)))) (sCons (sTup (sCons (sC (.int 1)) (sCons (sC (.int 2)) (sNil)))) (sCons (sTup (sCons (sC (.int 1)) (sCons (sC (.int 0)) (sNil)))) (sNil)))))) (sBin dIs (sFn m_rim_paper (sCons (sC (.int 9)) (sCons (sTup (sCons (sC (.int 1)) (sCons (sC (.int 3)) (sNil)))) (sCons (sTup (sCons (sC (.int 2)) (sCons (sC (.int 3)) (sNil)))) (sNil))))) (sC .non)))))))
/-- what is left to be shown: the law's meaning is True -/
def Left : Prop := ∀ ns : List Int, ns.length ≤ 63 → ∃ h, m_law [.seq (ns.map D.int)] [] = .ok (.bl true) h
end L14

/-! K14b: classes by matrices -/
namespace L14
open PySem L2 Evl Pd
local macro_rules | `(tactic| walk_at "sm") => `(tactic| first | assumption | exact Sm.lit | exact Sm.mul (by walk_at "sm") (by walk_at "sm") | exact Sm.add (by walk_at "sm") (by walk_at "sm") | exact Sm.sub (by walk_at "sm") (by walk_at "sm") | exact Sm.neg (by walk_at "sm"))
local macro_rules | `(tactic| walk_at "cm") => `(tactic| ((with_reducible show CM _ _); first | assumption | exact CM.left (by decide) | exact CM.right (by decide) | exact CM.left (by omega) | exact CM.right (by omega) | exact CM.of (by walk_at "sm") (by walk_at "sm") (by decide)))
/-- a for that returns at one item -/
theorem for_ret {g : SG} {f : SS} {d : D} (P : Pe → Ph → Prop) (Q : Ph → Prop) {y : D} {ys : List D} (Hy : ∀ e h, P e h → ∃ e1 h1 h2, g y e h = .ok e1 h1 ∧ f e1 h1 = .ret d h2 ∧ Q h2) : ∀ (xs : List D), (∀ x ∈ xs, ∀ e h, P e h → ∃ e1 h1 e2 h2, g x e h = .ok e1 h1 ∧ f e1 h1 = .nx e2 h2 ∧ P e2 h2) → ∀ e h, P e h → ∃ h2, forGo g f (xs ++ y :: ys) e h = .ret d h2 ∧ Q h2 := by
  intro xs
  induction xs with
  | nil =>
    intro _ e h p
    obtain ⟨e1, h1, h2, a, b, q⟩ := Hy e h p
    refine ⟨h2, ?_, q⟩
    show forGo g f (y :: ys) e h = _
    unfold forGo
    rw [a]
    show (f e1 h1).turn _ = _
    rw [b]
    rfl
  | cons x r ih =>
    intro H e h p
    obtain ⟨e1, h1, e2, h2, a, b, p2⟩ := H x List.mem_cons_self e h p
    obtain ⟨h3, c, q⟩ := ih (fun z hz => H z (List.mem_cons_of_mem _ hz)) e2 h2 p2
    refine ⟨h3, ?_, q⟩
    show forGo g f (x :: (r ++ y :: ys)) e h = _
    unfold forGo
    rw [a]
    show (f e1 h1).turn _ = _
    rw [b]
    exact c
theorem range_split {n j : Nat} (hj : j < n) : rangeD 0 n = rangeD 0 j ++ .int j :: rangeD (j + 1) (n - j - 1) := by
  unfold rangeD
  have e : n = j + (1 + (n - j - 1)) := by omega
  have e2 : List.range n = List.range j ++ j :: (List.range (n - j - 1)).map (fun k => j + 1 + k) := by
    conv => lhs; rw [e]
    rw [List.range_add]
    congr 1
    rw [show 1 + (n - j - 1) = (n - j - 1) + 1 by omega, List.range_succ_eq_map, List.map_cons, List.map_map]
    congr 1
    apply List.map_congr_left
    intro k _
    show j + (k + 1) = j + 1 + k
    omega
  rw [e2, List.map_append, List.map_cons, List.map_map]
  congr 1
  congr 1
  · rw [Int.zero_add]
  · apply List.map_congr_left
    intro k _
    show D.int (0 + ((j + 1 + k : Nat) : Int)) = D.int (j + 1 + (k : Nat))
    congr 1
    omega
section
variable {L t b : Int} {h : Ph}
theorem rS_pos (hL : 1 ≤ L) : 0 < rS L b := rP_pos (L := L / rP L b) (b := rP L b) (by
  have hp := rP_pos (b := b) hL
  obtain ⟨_, e⟩ := rU_eq (b := b) hL
  by_cases h : 1 ≤ L / rP L b
  · exact h
  · have : rP L b * (L / rP L b) ≤ 0 := Int.mul_nonpos_of_nonneg_of_nonpos (by omega) (by omega)
    omega)
theorem rim_told_ok {x : Int} {k : Nat} (hL : 1 ≤ L) (hL2 : L ≤ 100) (hk : k ≤ 200) (st : Sm k t) (sb : Sm k b) (r : RimOf L t b x) : m__law_rim_told [.int L, .int t, .int b] h = .ok (T2 x (rP L b)) h := by
  have hp := rP_pos (b := b) hL
  have hp2 : rP L b ≤ L := Int.le_of_dvd (by omega) rP_dvd.2
  have hs := rS_pos (b := b) hL
  have hs2 : rS L b ≤ rP L b := Int.le_of_dvd hp rS_dvd.1
  have e1 : f__law_gcd [.int b, .int L] h = .ok (.int (rP L b)) h := gcdL_ok b L h (fu_lt (Sm.of_lt 600 (n := 101) (by omega) (by omega) (by decide +kernel)))
  have hq : L / rP L b ≤ L ∧ 0 ≤ L / rP L b := ⟨Int.ediv_le_self _ (by omega), Int.ediv_nonneg (by omega) (by omega)⟩
  have e2 : f__law_gcd [.int (rP L b), .int (L / rP L b)] h = .ok (.int (rS L b)) h := gcdL_ok _ _ h (fu_lt (Sm.of_lt 600 (n := 101) (by omega) (by omega) (by decide +kernel)))
  have lg : (rP L b).natAbs.log2 < 9000 := Nat.lt_of_le_of_lt (log_lt (k := 7) (by omega)) (by decide)
  have d1 : dDiv (.int L) (.int (rP L b)) h = .ok (.int (L / rP L b)) h := dDiv_pos hp lg
  have d2 : ∀ h, dDiv (.int b) (.int (rP L b)) h = .ok (.int (rU L b)) h := fun h => dDiv_pos hp lg
  have hPS : rP L b * rS L b ≤ 10000 := by
    have : rP L b * rS L b ≤ 100 * 100 := Int.mul_le_mul (by omega) (by omega) (by omega) (by omega)
    omega
  have hPS0 : 0 < rP L b * rS L b := Int.mul_pos hp hs
  have su : Sm 200 (rU L b) := ⟨Nat.lt_of_le_of_lt (Int.natAbs_ediv_le_natAbs b (rP L b)) (sb.mono hk).lt⟩
  have c1 : CM t (rU L b) := CM.of st su (by omega)
  have c2 : CM (rP L b) (rS L b) := CM.left (by omega)
  have hx := r.lt
  have hx0 := r.x0
  obtain ⟨j, hj⟩ := Int.eq_ofNat_of_zero_le hx0
  subst hj
  have body : ∀ (y : Int) (h' : Ph), l__law_rim_told_1 [some (.int L), some (.int t), some (.int b), some (.int (rP L b)), some (.int (rS L b)), some (.int y)] h' = if Int.gcd y (rP L b) = 1 ∧ rS L b ∣ y - rR L t b then .ret (T2 y (rP L b)) h' else .nx [some (.int L), some (.int t), some (.int b), some (.int (rP L b)), some (.int (rS L b)), some (.int y)] h' := by
    intro y h'
    have g1 : f__law_gcd [.int y, .int (rP L b)] h' = .ok (.int (Int.gcd y (rP L b))) h' := gcdL_ok _ _ h' (fu_lt (Sm.of_lt 600 (n := 101) (by omega) (by omega) (by decide +kernel)))
    have g2 := d2 h'
    have hR : t * rU L b = rR L t b := rfl
    by_cases q1 : Int.gcd y (rP L b) = 1
    · have q1' : ((Int.gcd y (rP L b) : Int) == 1) = true := by rw [q1]; rfl
      by_cases q2 : rS L b ∣ y - rR L t b
      · have q2' : ((y - rR L t b) % rS L b == 0) = true := by rw [Int.emod_eq_zero_of_dvd q2]; rfl
        rw [if_pos ⟨q1, q2⟩]
        unfold l__law_rim_told_1
        simp (maxSteps := 4000000) (dsimp := false) (disch := first | assumption | decide | omega | walk_at "cm") only [runDef_ap, sVar_ap, sC_ap, sBin_ap, sNeg_ap, sAnd_ap, sOr_ap, sNot_ap, sIf_ap, sTst_ap, qAnd_ap, qOr_ap, qNot_ap, qYes_ap, sChain_ap, sChain3_ap, sNil_ap, sCons_ap, sTup_ap, sLst_ap, sLstM_ap, sCall_ap, g1_ap, g2_ap, sFn_ap, sAsg_ap, gNm_ap, gTp_ap, gConsS_ap, gNilS_ap, sPar_ap, sPar3_ap, sRet_ap, sRetN_ap, sNx_ap, sBrk_ap, sCnt_ap, sSeq_ap, sIte_ap, sDrop_ap, sFrz_ap, sAug_ap, iRange1_ap, iRange2_ap, iSeq_ap, sFor_ap, sLc_ap, R.toG_ok, ↓R.bind_bnd, bnd_ok, ↓R.bd_bdn, bdn_ok, ↓R.toF_tof, tof_ok, ↓F.seq_sqn, sqn_nx, sqn_ret, sqn_cnt, sqn_brk, ↓F.turn_trn, trn_nx, trn_ret, trn_cnt, trn_brk, F.end_nx, F.end_ret, ↓br_true, br_true, ↓br_false, br_false, Dbr, Dneg, Dtst, opt_some, dAdd_int, dIAdd_int, dSub_int, dLt_int, dLe_int, dGt_int, dGe_int, dEq_int, dNe_int, dEq_bl, dNe_bl, dMul_cm, dMod_pos, dDiv_pos, dAbs_int, dMax2_int, dMin2_int, dInt_int, dInt_bl, dIx_tup, dIx_lst, dIx_seq, dLen_tup, dLen_lst, dLen_seq, atI_0, atI_1, atI_2, atI_3, List.map_cons, List.map_nil, List.length_cons, List.length_nil, List.replicate_succ, List.replicate_zero, List.cons_append, List.nil_append, List.getElem?_cons_zero, List.getElem?_cons_succ, List.set_cons_zero, List.set_cons_succ, Nat.reduceAdd, Nat.reduceSub, Nat.zero_add, Nat.add_zero, Nat.sub_self, Nat.reduceMul, mostL_def, Nat.reduceLeDiff, Nat.reduceLT, ite_true, ite_false, if_true, if_false, ↓reduceIte, reduceIte, ↓br_ite, Bool.false_eq_true, reduceCtorEq, Bool.not_true, Bool.not_false, decide_true, decide_false, Int.cast_ofNat_Int, Int.reduceBEq, Int.reduceAdd, Int.reduceSub, Int.reduceMul, Int.reduceNeg, Int.reduceLT, Int.reduceLE, Int.reduceMod, Int.reduceDiv, sMeth1_ap, sSl_ap, sRev_ap, oNo_ap, oPart_ap, sDict0_ap, sSetL_ap, sLc2_ap, sStar_ap, g1, g2, q1', q2', c1, hR]
      · have q2' : ((y - rR L t b) % rS L b == 0) = false := by
          rw [beq_eq_false_iff_ne]
          exact fun z => q2 (Int.dvd_of_emod_eq_zero z)
        rw [if_neg (fun z => q2 z.2)]
        unfold l__law_rim_told_1
        simp (maxSteps := 4000000) (dsimp := false) (disch := first | assumption | decide | omega | walk_at "cm") only [runDef_ap, sVar_ap, sC_ap, sBin_ap, sNeg_ap, sAnd_ap, sOr_ap, sNot_ap, sIf_ap, sTst_ap, qAnd_ap, qOr_ap, qNot_ap, qYes_ap, sChain_ap, sChain3_ap, sNil_ap, sCons_ap, sTup_ap, sLst_ap, sLstM_ap, sCall_ap, g1_ap, g2_ap, sFn_ap, sAsg_ap, gNm_ap, gTp_ap, gConsS_ap, gNilS_ap, sPar_ap, sPar3_ap, sRet_ap, sRetN_ap, sNx_ap, sBrk_ap, sCnt_ap, sSeq_ap, sIte_ap, sDrop_ap, sFrz_ap, sAug_ap, iRange1_ap, iRange2_ap, iSeq_ap, sFor_ap, sLc_ap, R.toG_ok, ↓R.bind_bnd, bnd_ok, ↓R.bd_bdn, bdn_ok, ↓R.toF_tof, tof_ok, ↓F.seq_sqn, sqn_nx, sqn_ret, sqn_cnt, sqn_brk, ↓F.turn_trn, trn_nx, trn_ret, trn_cnt, trn_brk, F.end_nx, F.end_ret, ↓br_true, br_true, ↓br_false, br_false, Dbr, Dneg, Dtst, opt_some, dAdd_int, dIAdd_int, dSub_int, dLt_int, dLe_int, dGt_int, dGe_int, dEq_int, dNe_int, dEq_bl, dNe_bl, dMul_cm, dMod_pos, dDiv_pos, dAbs_int, dMax2_int, dMin2_int, dInt_int, dInt_bl, dIx_tup, dIx_lst, dIx_seq, dLen_tup, dLen_lst, dLen_seq, atI_0, atI_1, atI_2, atI_3, List.map_cons, List.map_nil, List.length_cons, List.length_nil, List.replicate_succ, List.replicate_zero, List.cons_append, List.nil_append, List.getElem?_cons_zero, List.getElem?_cons_succ, List.set_cons_zero, List.set_cons_succ, Nat.reduceAdd, Nat.reduceSub, Nat.zero_add, Nat.add_zero, Nat.sub_self, Nat.reduceMul, mostL_def, Nat.reduceLeDiff, Nat.reduceLT, ite_true, ite_false, if_true, if_false, ↓reduceIte, reduceIte, ↓br_ite, Bool.false_eq_true, reduceCtorEq, Bool.not_true, Bool.not_false, decide_true, decide_false, Int.cast_ofNat_Int, Int.reduceBEq, Int.reduceAdd, Int.reduceSub, Int.reduceMul, Int.reduceNeg, Int.reduceLT, Int.reduceLE, Int.reduceMod, Int.reduceDiv, sMeth1_ap, sSl_ap, sRev_ap, oNo_ap, oPart_ap, sDict0_ap, sSetL_ap, sLc2_ap, sStar_ap, g1, g2, q1', q2', c1, hR]
    · have q1' : ((Int.gcd y (rP L b) : Int) == 1) = false := by rw [beq_eq_false_iff_ne]; omega
      rw [if_neg (fun z => q1 z.1)]
      unfold l__law_rim_told_1
      simp (maxSteps := 4000000) (dsimp := false) (disch := first | assumption | decide | omega | walk_at "cm") only [runDef_ap, sVar_ap, sC_ap, sBin_ap, sNeg_ap, sAnd_ap, sOr_ap, sNot_ap, sIf_ap, sTst_ap, qAnd_ap, qOr_ap, qNot_ap, qYes_ap, sChain_ap, sChain3_ap, sNil_ap, sCons_ap, sTup_ap, sLst_ap, sLstM_ap, sCall_ap, g1_ap, g2_ap, sFn_ap, sAsg_ap, gNm_ap, gTp_ap, gConsS_ap, gNilS_ap, sPar_ap, sPar3_ap, sRet_ap, sRetN_ap, sNx_ap, sBrk_ap, sCnt_ap, sSeq_ap, sIte_ap, sDrop_ap, sFrz_ap, sAug_ap, iRange1_ap, iRange2_ap, iSeq_ap, sFor_ap, sLc_ap, R.toG_ok, ↓R.bind_bnd, bnd_ok, ↓R.bd_bdn, bdn_ok, ↓R.toF_tof, tof_ok, ↓F.seq_sqn, sqn_nx, sqn_ret, sqn_cnt, sqn_brk, ↓F.turn_trn, trn_nx, trn_ret, trn_cnt, trn_brk, F.end_nx, F.end_ret, ↓br_true, br_true, ↓br_false, br_false, Dbr, Dneg, Dtst, opt_some, dAdd_int, dIAdd_int, dSub_int, dLt_int, dLe_int, dGt_int, dGe_int, dEq_int, dNe_int, dEq_bl, dNe_bl, dMul_cm, dMod_pos, dDiv_pos, dAbs_int, dMax2_int, dMin2_int, dInt_int, dInt_bl, dIx_tup, dIx_lst, dIx_seq, dLen_tup, dLen_lst, dLen_seq, atI_0, atI_1, atI_2, atI_3, List.map_cons, List.map_nil, List.length_cons, List.length_nil, List.replicate_succ, List.replicate_zero, List.cons_append, List.nil_append, List.getElem?_cons_zero, List.getElem?_cons_succ, List.set_cons_zero, List.set_cons_succ, Nat.reduceAdd, Nat.reduceSub, Nat.zero_add, Nat.add_zero, Nat.sub_self, Nat.reduceMul, mostL_def, Nat.reduceLeDiff, Nat.reduceLT, ite_true, ite_false, if_true, if_false, ↓reduceIte, reduceIte, ↓br_ite, Bool.false_eq_true, reduceCtorEq, Bool.not_true, Bool.not_false, decide_true, decide_false, Int.cast_ofNat_Int, Int.reduceBEq, Int.reduceAdd, Int.reduceSub, Int.reduceMul, Int.reduceNeg, Int.reduceLT, Int.reduceLE, Int.reduceMod, Int.reduceDiv, sMeth1_ap, sSl_ap, sRev_ap, oNo_ap, oPart_ap, sDict0_ap, sSetL_ap, sLc2_ap, sStar_ap, g1, q1']
  obtain ⟨h2, q1, rfl⟩ := for_ret (g := gNm 5) (f := l__law_rim_told_1) (d := T2 j (rP L b)) (fun e h' => h' = h ∧ ∃ o5, e = [some (.int L), some (.int t), some (.int b), some (.int (rP L b)), some (.int (rS L b)), o5]) (fun h' => h' = h)
    (y := .int j) (ys := rangeD (j + 1) ((rP L b * rS L b + 1).toNat - j - 1))
    (fun e h' ⟨hh, o5, he⟩ => by
      subst hh
      subst he
      exact ⟨_, _, h', rfl, by rw [show (List.set _ _ _) = [some (.int L), some (.int t), some (.int b), some (.int (rP L b)), some (.int (rS L b)), some (.int j)] from rfl, body]; rw [if_pos ⟨r.co, r.dv⟩], rfl⟩)
    (rangeD 0 j) (fun y hy e h' ⟨hh, o5, he⟩ => by
      subst hh
      subst he
      obtain ⟨i, hi, rfl⟩ := rangeD_mem hy
      refine ⟨_, _, _, h', rfl, ?_, rfl, some (.int (0 + i)), rfl⟩
      · rw [show (List.set _ _ _) = [some (.int L), some (.int t), some (.int b), some (.int (rP L b)), some (.int (rS L b)), some (.int (0 + i))] from rfl, body, if_neg]
        rintro ⟨z1, z2⟩
        have := r.le (0 + i) (by omega) z2 z1
        omega)
    [some (.int L), some (.int t), some (.int b), some (.int (rP L b)), some (.int (rS L b)), none] h ⟨rfl, none, rfl⟩
  rw [← range_split (by omega)] at q1
  have rg := rng_ok (n := rP L b * rS L b + 1) (h := h2) (by omega) (by omega)
  have e2' : Int.gcd (rP L b) (L / rP L b) = Int.gcd (rP L b) (L / rP L b) := rfl
  unfold m__law_rim_told
  simp (maxSteps := 4000000) (dsimp := false) (disch := first | assumption | decide | omega | walk_at "cm") only [runDef_ap, sVar_ap, sC_ap, sBin_ap, sNeg_ap, sAnd_ap, sOr_ap, sNot_ap, sIf_ap, sTst_ap, qAnd_ap, qOr_ap, qNot_ap, qYes_ap, sChain_ap, sChain3_ap, sNil_ap, sCons_ap, sTup_ap, sLst_ap, sLstM_ap, sCall_ap, g1_ap, g2_ap, sFn_ap, sAsg_ap, gNm_ap, gTp_ap, gConsS_ap, gNilS_ap, sPar_ap, sPar3_ap, sRet_ap, sRetN_ap, sNx_ap, sBrk_ap, sCnt_ap, sSeq_ap, sIte_ap, sDrop_ap, sFrz_ap, sAug_ap, iRange1_ap, iRange2_ap, iSeq_ap, sFor_ap, sLc_ap, R.toG_ok, ↓R.bind_bnd, bnd_ok, ↓R.bd_bdn, bdn_ok, ↓R.toF_tof, tof_ok, ↓F.seq_sqn, sqn_nx, sqn_ret, sqn_cnt, sqn_brk, ↓F.turn_trn, trn_nx, trn_ret, trn_cnt, trn_brk, F.end_nx, F.end_ret, ↓br_true, br_true, ↓br_false, br_false, Dbr, Dneg, Dtst, opt_some, dAdd_int, dIAdd_int, dSub_int, dLt_int, dLe_int, dGt_int, dGe_int, dEq_int, dNe_int, dEq_bl, dNe_bl, dMul_cm, dMod_pos, dDiv_pos, dAbs_int, dMax2_int, dMin2_int, dInt_int, dInt_bl, dIx_tup, dIx_lst, dIx_seq, dLen_tup, dLen_lst, dLen_seq, atI_0, atI_1, atI_2, atI_3, List.map_cons, List.map_nil, List.length_cons, List.length_nil, List.replicate_succ, List.replicate_zero, List.cons_append, List.nil_append, List.getElem?_cons_zero, List.getElem?_cons_succ, List.set_cons_zero, List.set_cons_succ, Nat.reduceAdd, Nat.reduceSub, Nat.zero_add, Nat.add_zero, Nat.sub_self, Nat.reduceMul, mostL_def, Nat.reduceLeDiff, Nat.reduceLT, ite_true, ite_false, if_true, if_false, ↓reduceIte, reduceIte, ↓br_ite, Bool.false_eq_true, reduceCtorEq, Bool.not_true, Bool.not_false, decide_true, decide_false, Int.cast_ofNat_Int, Int.reduceBEq, Int.reduceAdd, Int.reduceSub, Int.reduceMul, Int.reduceNeg, Int.reduceLT, Int.reduceLE, Int.reduceMod, Int.reduceDiv, sMeth1_ap, sSl_ap, sRev_ap, oNo_ap, oPart_ap, sDict0_ap, sSetL_ap, sLc2_ap, sStar_ap, e1, d1, e2, c2, rg, q1]
/-! ### judged -/
/-- what both say of four ints -/
def sayT (L p q p' q' a b c d : Int) : Bool := ((a * d - b * c == 1) && (c % L == 0)) && ((lwT (mA a b p q) (mA c d p q) == p') && ((lwB (mA a b p q) (mA c d p q) == q') && true))
theorem dEq_T2 {a b p q : Int} {h : Ph} : dEq (T2 a b) (T2 p q) h = .ok (.bl (a == p && (b == q && true))) h := rfl
theorem is_rim_paper_ok {p q p' q' a b c d : Int} (hL : 1 ≤ L) (hL2 : L ≤ 100) (f : Fs p q) (f' : Fs p' q') (hn : p ≠ 0 ∨ q ≠ 0) (sa : Sm 200 a) (sb : Sm 200 b) (sc : Sm 200 c) (sd : Sm 200 d) : m_is_rim_paper [.int L, T2 p q, T2 p' q', T4 a b c d] h = .ok (.bl (sayT L p q p' q' a b c d)) h := by
  have l6 : ∀ {x : Int}, Sm 200 x → Sm 600 x := fun s => s.mono (by decide)
  have e0 := require_two_ok (h := h) hL hL2 f f'
  have e1 := is_matrix_ok (a := a) (b := b) (c := c) (d := d) (h := h)
  have e2 := det_ok (h := h) (l6 sa) (l6 sb) (l6 sc) (l6 sd)
  have hp : 0 < L := by omega
  obtain ⟨sp, sq⟩ := f.sm
  unfold sayT
  by_cases hd : a * d - b * c = 1
  · have hd' : (a * d - b * c == 1) = true := beq_iff_eq.mpr hd
    have e3 := fraction_led_ok (h := h) sa sb sc sd (sp.mono (by decide)) (sq.mono (by decide)) (led_ne (by omega) hn)
    by_cases hc : (c % L == 0) = true
    · unfold m_is_rim_paper; simp (maxSteps := 4000000) (dsimp := false) (disch := first | assumption | decide | omega | walk_at "cm") only [runDef_ap, sVar_ap, sC_ap, sBin_ap, sNeg_ap, sAnd_ap, sOr_ap, sNot_ap, sIf_ap, sTst_ap, qAnd_ap, qOr_ap, qNot_ap, qYes_ap, sChain_ap, sChain3_ap, sNil_ap, sCons_ap, sTup_ap, sLst_ap, sLstM_ap, sCall_ap, g1_ap, g2_ap, sFn_ap, sAsg_ap, gNm_ap, gTp_ap, gConsS_ap, gNilS_ap, sPar_ap, sPar3_ap, sRet_ap, sRetN_ap, sNx_ap, sBrk_ap, sCnt_ap, sSeq_ap, sIte_ap, sDrop_ap, sFrz_ap, sAug_ap, iRange1_ap, iRange2_ap, iSeq_ap, sFor_ap, sLc_ap, R.toG_ok, ↓R.bind_bnd, bnd_ok, ↓R.bd_bdn, bdn_ok, ↓R.toF_tof, tof_ok, ↓F.seq_sqn, sqn_nx, sqn_ret, sqn_cnt, sqn_brk, ↓F.turn_trn, trn_nx, trn_ret, trn_cnt, trn_brk, F.end_nx, F.end_ret, ↓br_true, br_true, ↓br_false, br_false, Dbr, Dneg, Dtst, opt_some, dAdd_int, dIAdd_int, dSub_int, dLt_int, dLe_int, dGt_int, dGe_int, dEq_int, dNe_int, dEq_bl, dNe_bl, dMul_cm, dMod_pos, dDiv_pos, dAbs_int, dMax2_int, dMin2_int, dInt_int, dInt_bl, dIx_tup, dIx_lst, dIx_seq, dLen_tup, dLen_lst, dLen_seq, atI_0, atI_1, atI_2, atI_3, List.map_cons, List.map_nil, List.length_cons, List.length_nil, List.replicate_succ, List.replicate_zero, List.cons_append, List.nil_append, List.getElem?_cons_zero, List.getElem?_cons_succ, List.set_cons_zero, List.set_cons_succ, Nat.reduceAdd, Nat.reduceSub, Nat.zero_add, Nat.add_zero, Nat.sub_self, Nat.reduceMul, mostL_def, Nat.reduceLeDiff, Nat.reduceLT, ite_true, ite_false, if_true, if_false, ↓reduceIte, reduceIte, ↓br_ite, Bool.false_eq_true, reduceCtorEq, Bool.not_true, Bool.not_false, decide_true, decide_false, Int.cast_ofNat_Int, Int.reduceBEq, Int.reduceAdd, Int.reduceSub, Int.reduceMul, Int.reduceNeg, Int.reduceLT, Int.reduceLE, Int.reduceMod, Int.reduceDiv, sMeth1_ap, sSl_ap, sRev_ap, oNo_ap, oPart_ap, sDict0_ap, sSetL_ap, sLc2_ap, sStar_ap, e0, e1, e2, e3, hd', hc, dEq_T2, Bool.true_and]
    · have hc' : (c % L == 0) = false := by simpa using hc
      unfold m_is_rim_paper; simp (maxSteps := 4000000) (dsimp := false) (disch := first | assumption | decide | omega | walk_at "cm") only [runDef_ap, sVar_ap, sC_ap, sBin_ap, sNeg_ap, sAnd_ap, sOr_ap, sNot_ap, sIf_ap, sTst_ap, qAnd_ap, qOr_ap, qNot_ap, qYes_ap, sChain_ap, sChain3_ap, sNil_ap, sCons_ap, sTup_ap, sLst_ap, sLstM_ap, sCall_ap, g1_ap, g2_ap, sFn_ap, sAsg_ap, gNm_ap, gTp_ap, gConsS_ap, gNilS_ap, sPar_ap, sPar3_ap, sRet_ap, sRetN_ap, sNx_ap, sBrk_ap, sCnt_ap, sSeq_ap, sIte_ap, sDrop_ap, sFrz_ap, sAug_ap, iRange1_ap, iRange2_ap, iSeq_ap, sFor_ap, sLc_ap, R.toG_ok, ↓R.bind_bnd, bnd_ok, ↓R.bd_bdn, bdn_ok, ↓R.toF_tof, tof_ok, ↓F.seq_sqn, sqn_nx, sqn_ret, sqn_cnt, sqn_brk, ↓F.turn_trn, trn_nx, trn_ret, trn_cnt, trn_brk, F.end_nx, F.end_ret, ↓br_true, br_true, ↓br_false, br_false, Dbr, Dneg, Dtst, opt_some, dAdd_int, dIAdd_int, dSub_int, dLt_int, dLe_int, dGt_int, dGe_int, dEq_int, dNe_int, dEq_bl, dNe_bl, dMul_cm, dMod_pos, dDiv_pos, dAbs_int, dMax2_int, dMin2_int, dInt_int, dInt_bl, dIx_tup, dIx_lst, dIx_seq, dLen_tup, dLen_lst, dLen_seq, atI_0, atI_1, atI_2, atI_3, List.map_cons, List.map_nil, List.length_cons, List.length_nil, List.replicate_succ, List.replicate_zero, List.cons_append, List.nil_append, List.getElem?_cons_zero, List.getElem?_cons_succ, List.set_cons_zero, List.set_cons_succ, Nat.reduceAdd, Nat.reduceSub, Nat.zero_add, Nat.add_zero, Nat.sub_self, Nat.reduceMul, mostL_def, Nat.reduceLeDiff, Nat.reduceLT, ite_true, ite_false, if_true, if_false, ↓reduceIte, reduceIte, ↓br_ite, Bool.false_eq_true, reduceCtorEq, Bool.not_true, Bool.not_false, decide_true, decide_false, Int.cast_ofNat_Int, Int.reduceBEq, Int.reduceAdd, Int.reduceSub, Int.reduceMul, Int.reduceNeg, Int.reduceLT, Int.reduceLE, Int.reduceMod, Int.reduceDiv, sMeth1_ap, sSl_ap, sRev_ap, oNo_ap, oPart_ap, sDict0_ap, sSetL_ap, sLc2_ap, sStar_ap, e0, e1, e2, hd', hc', Bool.and_false, Bool.false_and]
  · have hd' : (a * d - b * c == 1) = false := beq_eq_false_iff_ne.mpr hd
    unfold m_is_rim_paper; simp (maxSteps := 4000000) (dsimp := false) (disch := first | assumption | decide | omega | walk_at "cm") only [runDef_ap, sVar_ap, sC_ap, sBin_ap, sNeg_ap, sAnd_ap, sOr_ap, sNot_ap, sIf_ap, sTst_ap, qAnd_ap, qOr_ap, qNot_ap, qYes_ap, sChain_ap, sChain3_ap, sNil_ap, sCons_ap, sTup_ap, sLst_ap, sLstM_ap, sCall_ap, g1_ap, g2_ap, sFn_ap, sAsg_ap, gNm_ap, gTp_ap, gConsS_ap, gNilS_ap, sPar_ap, sPar3_ap, sRet_ap, sRetN_ap, sNx_ap, sBrk_ap, sCnt_ap, sSeq_ap, sIte_ap, sDrop_ap, sFrz_ap, sAug_ap, iRange1_ap, iRange2_ap, iSeq_ap, sFor_ap, sLc_ap, R.toG_ok, ↓R.bind_bnd, bnd_ok, ↓R.bd_bdn, bdn_ok, ↓R.toF_tof, tof_ok, ↓F.seq_sqn, sqn_nx, sqn_ret, sqn_cnt, sqn_brk, ↓F.turn_trn, trn_nx, trn_ret, trn_cnt, trn_brk, F.end_nx, F.end_ret, ↓br_true, br_true, ↓br_false, br_false, Dbr, Dneg, Dtst, opt_some, dAdd_int, dIAdd_int, dSub_int, dLt_int, dLe_int, dGt_int, dGe_int, dEq_int, dNe_int, dEq_bl, dNe_bl, dMul_cm, dMod_pos, dDiv_pos, dAbs_int, dMax2_int, dMin2_int, dInt_int, dInt_bl, dIx_tup, dIx_lst, dIx_seq, dLen_tup, dLen_lst, dLen_seq, atI_0, atI_1, atI_2, atI_3, List.map_cons, List.map_nil, List.length_cons, List.length_nil, List.replicate_succ, List.replicate_zero, List.cons_append, List.nil_append, List.getElem?_cons_zero, List.getElem?_cons_succ, List.set_cons_zero, List.set_cons_succ, Nat.reduceAdd, Nat.reduceSub, Nat.zero_add, Nat.add_zero, Nat.sub_self, Nat.reduceMul, mostL_def, Nat.reduceLeDiff, Nat.reduceLT, ite_true, ite_false, if_true, if_false, ↓reduceIte, reduceIte, ↓br_ite, Bool.false_eq_true, reduceCtorEq, Bool.not_true, Bool.not_false, decide_true, decide_false, Int.cast_ofNat_Int, Int.reduceBEq, Int.reduceAdd, Int.reduceSub, Int.reduceMul, Int.reduceNeg, Int.reduceLT, Int.reduceLE, Int.reduceMod, Int.reduceDiv, sMeth1_ap, sSl_ap, sRev_ap, oNo_ap, oPart_ap, sDict0_ap, sSetL_ap, sLc2_ap, sStar_ap, e0, e1, e2, hd', Bool.false_and]
theorem is_paper_ok {p q p' q' a b c d : Int} (hL : 1 ≤ L) (f : Fs p q) (hn : p ≠ 0 ∨ q ≠ 0) (sa : Sm 200 a) (sb : Sm 200 b) (sc : Sm 200 c) (sd : Sm 200 d) : m__law_is_paper [.int L, T2 p q, T2 p' q', T4 a b c d] h = .ok (.bl (sayT L p q p' q' a b c d)) h := by
  have l6 : ∀ {x : Int}, Sm 200 x → Sm 600 x := fun s => s.mono (by decide)
  have e1 := group_ok (h := h) hL (l6 sa) (l6 sb) (l6 sc) (l6 sd)
  obtain ⟨sp, sq⟩ := f.sm
  unfold sayT
  cases hb : ((a * d - b * c == 1) && (c % L == 0)) with
  | true =>
    have hd : a * d - b * c = 1 := by
      have := (Bool.and_eq_true_iff.mp hb).1
      exact beq_iff_eq.mp this
    have e3 := law_led_ok (h := h) sa sb sc sd (sp.mono (by decide)) (sq.mono (by decide)) (led_ne (by omega) hn)
    rw [hb] at e1
    unfold m__law_is_paper; simp (maxSteps := 4000000) (dsimp := false) (disch := first | assumption | decide | omega | walk_at "cm") only [runDef_ap, sVar_ap, sC_ap, sBin_ap, sNeg_ap, sAnd_ap, sOr_ap, sNot_ap, sIf_ap, sTst_ap, qAnd_ap, qOr_ap, qNot_ap, qYes_ap, sChain_ap, sChain3_ap, sNil_ap, sCons_ap, sTup_ap, sLst_ap, sLstM_ap, sCall_ap, g1_ap, g2_ap, sFn_ap, sAsg_ap, gNm_ap, gTp_ap, gConsS_ap, gNilS_ap, sPar_ap, sPar3_ap, sRet_ap, sRetN_ap, sNx_ap, sBrk_ap, sCnt_ap, sSeq_ap, sIte_ap, sDrop_ap, sFrz_ap, sAug_ap, iRange1_ap, iRange2_ap, iSeq_ap, sFor_ap, sLc_ap, R.toG_ok, ↓R.bind_bnd, bnd_ok, ↓R.bd_bdn, bdn_ok, ↓R.toF_tof, tof_ok, ↓F.seq_sqn, sqn_nx, sqn_ret, sqn_cnt, sqn_brk, ↓F.turn_trn, trn_nx, trn_ret, trn_cnt, trn_brk, F.end_nx, F.end_ret, ↓br_true, br_true, ↓br_false, br_false, Dbr, Dneg, Dtst, opt_some, dAdd_int, dIAdd_int, dSub_int, dLt_int, dLe_int, dGt_int, dGe_int, dEq_int, dNe_int, dEq_bl, dNe_bl, dMul_cm, dMod_pos, dDiv_pos, dAbs_int, dMax2_int, dMin2_int, dInt_int, dInt_bl, dIx_tup, dIx_lst, dIx_seq, dLen_tup, dLen_lst, dLen_seq, atI_0, atI_1, atI_2, atI_3, List.map_cons, List.map_nil, List.length_cons, List.length_nil, List.replicate_succ, List.replicate_zero, List.cons_append, List.nil_append, List.getElem?_cons_zero, List.getElem?_cons_succ, List.set_cons_zero, List.set_cons_succ, Nat.reduceAdd, Nat.reduceSub, Nat.zero_add, Nat.add_zero, Nat.sub_self, Nat.reduceMul, mostL_def, Nat.reduceLeDiff, Nat.reduceLT, ite_true, ite_false, if_true, if_false, ↓reduceIte, reduceIte, ↓br_ite, Bool.false_eq_true, reduceCtorEq, Bool.not_true, Bool.not_false, decide_true, decide_false, Int.cast_ofNat_Int, Int.reduceBEq, Int.reduceAdd, Int.reduceSub, Int.reduceMul, Int.reduceNeg, Int.reduceLT, Int.reduceLE, Int.reduceMod, Int.reduceDiv, sMeth1_ap, sSl_ap, sRev_ap, oNo_ap, oPart_ap, sDict0_ap, sSetL_ap, sLc2_ap, sStar_ap, e1, e3, dEq_T2, Bool.true_and]
  | false =>
    rw [hb] at e1
    unfold m__law_is_paper; simp (maxSteps := 4000000) (dsimp := false) (disch := first | assumption | decide | omega | walk_at "cm") only [runDef_ap, sVar_ap, sC_ap, sBin_ap, sNeg_ap, sAnd_ap, sOr_ap, sNot_ap, sIf_ap, sTst_ap, qAnd_ap, qOr_ap, qNot_ap, qYes_ap, sChain_ap, sChain3_ap, sNil_ap, sCons_ap, sTup_ap, sLst_ap, sLstM_ap, sCall_ap, g1_ap, g2_ap, sFn_ap, sAsg_ap, gNm_ap, gTp_ap, gConsS_ap, gNilS_ap, sPar_ap, sPar3_ap, sRet_ap, sRetN_ap, sNx_ap, sBrk_ap, sCnt_ap, sSeq_ap, sIte_ap, sDrop_ap, sFrz_ap, sAug_ap, iRange1_ap, iRange2_ap, iSeq_ap, sFor_ap, sLc_ap, R.toG_ok, ↓R.bind_bnd, bnd_ok, ↓R.bd_bdn, bdn_ok, ↓R.toF_tof, tof_ok, ↓F.seq_sqn, sqn_nx, sqn_ret, sqn_cnt, sqn_brk, ↓F.turn_trn, trn_nx, trn_ret, trn_cnt, trn_brk, F.end_nx, F.end_ret, ↓br_true, br_true, ↓br_false, br_false, Dbr, Dneg, Dtst, opt_some, dAdd_int, dIAdd_int, dSub_int, dLt_int, dLe_int, dGt_int, dGe_int, dEq_int, dNe_int, dEq_bl, dNe_bl, dMul_cm, dMod_pos, dDiv_pos, dAbs_int, dMax2_int, dMin2_int, dInt_int, dInt_bl, dIx_tup, dIx_lst, dIx_seq, dLen_tup, dLen_lst, dLen_seq, atI_0, atI_1, atI_2, atI_3, List.map_cons, List.map_nil, List.length_cons, List.length_nil, List.replicate_succ, List.replicate_zero, List.cons_append, List.nil_append, List.getElem?_cons_zero, List.getElem?_cons_succ, List.set_cons_zero, List.set_cons_succ, Nat.reduceAdd, Nat.reduceSub, Nat.zero_add, Nat.add_zero, Nat.sub_self, Nat.reduceMul, mostL_def, Nat.reduceLeDiff, Nat.reduceLT, ite_true, ite_false, if_true, if_false, ↓reduceIte, reduceIte, ↓br_ite, Bool.false_eq_true, reduceCtorEq, Bool.not_true, Bool.not_false, decide_true, decide_false, Int.cast_ofNat_Int, Int.reduceBEq, Int.reduceAdd, Int.reduceSub, Int.reduceMul, Int.reduceNeg, Int.reduceLT, Int.reduceLE, Int.reduceMod, Int.reduceDiv, sMeth1_ap, sSl_ap, sRev_ap, oNo_ap, oPart_ap, sDict0_ap, sSetL_ap, sLc2_ap, sStar_ap, e1, Bool.false_and]
def Agree (L p q p' q' : Int) (v : D) (h : Ph) : Prop := ∃ t, m_is_rim_paper [.int L, T2 p q, T2 p' q', v] h = .ok (.bl t) h ∧ m__law_is_paper [.int L, T2 p q, T2 p' q', v] h = .ok (.bl t) h
theorem agree_no {p q p' q' : Int} {v : D} (hL : 1 ≤ L) (hL2 : L ≤ 100) (f : Fs p q) (f' : Fs p' q') (n : NoM v h) : Agree L p q p' q' v h := by
  have e0 := require_two_ok (h := h) hL hL2 f f'
  refine ⟨false, ?_, ?_⟩
  · have := n.1
    unfold m_is_rim_paper; simp (maxSteps := 4000000) (dsimp := false) (disch := first | assumption | decide | omega | walk_at "cm") only [runDef_ap, sVar_ap, sC_ap, sBin_ap, sNeg_ap, sAnd_ap, sOr_ap, sNot_ap, sIf_ap, sTst_ap, qAnd_ap, qOr_ap, qNot_ap, qYes_ap, sChain_ap, sChain3_ap, sNil_ap, sCons_ap, sTup_ap, sLst_ap, sLstM_ap, sCall_ap, g1_ap, g2_ap, sFn_ap, sAsg_ap, gNm_ap, gTp_ap, gConsS_ap, gNilS_ap, sPar_ap, sPar3_ap, sRet_ap, sRetN_ap, sNx_ap, sBrk_ap, sCnt_ap, sSeq_ap, sIte_ap, sDrop_ap, sFrz_ap, sAug_ap, iRange1_ap, iRange2_ap, iSeq_ap, sFor_ap, sLc_ap, R.toG_ok, ↓R.bind_bnd, bnd_ok, ↓R.bd_bdn, bdn_ok, ↓R.toF_tof, tof_ok, ↓F.seq_sqn, sqn_nx, sqn_ret, sqn_cnt, sqn_brk, ↓F.turn_trn, trn_nx, trn_ret, trn_cnt, trn_brk, F.end_nx, F.end_ret, ↓br_true, br_true, ↓br_false, br_false, Dbr, Dneg, Dtst, opt_some, dAdd_int, dIAdd_int, dSub_int, dLt_int, dLe_int, dGt_int, dGe_int, dEq_int, dNe_int, dEq_bl, dNe_bl, dMul_cm, dMod_pos, dDiv_pos, dAbs_int, dMax2_int, dMin2_int, dInt_int, dInt_bl, dIx_tup, dIx_lst, dIx_seq, dLen_tup, dLen_lst, dLen_seq, atI_0, atI_1, atI_2, atI_3, List.map_cons, List.map_nil, List.length_cons, List.length_nil, List.replicate_succ, List.replicate_zero, List.cons_append, List.nil_append, List.getElem?_cons_zero, List.getElem?_cons_succ, List.set_cons_zero, List.set_cons_succ, Nat.reduceAdd, Nat.reduceSub, Nat.zero_add, Nat.add_zero, Nat.sub_self, Nat.reduceMul, mostL_def, Nat.reduceLeDiff, Nat.reduceLT, ite_true, ite_false, if_true, if_false, ↓reduceIte, reduceIte, ↓br_ite, Bool.false_eq_true, reduceCtorEq, Bool.not_true, Bool.not_false, decide_true, decide_false, Int.cast_ofNat_Int, Int.reduceBEq, Int.reduceAdd, Int.reduceSub, Int.reduceMul, Int.reduceNeg, Int.reduceLT, Int.reduceLE, Int.reduceMod, Int.reduceDiv, sMeth1_ap, sSl_ap, sRev_ap, oNo_ap, oPart_ap, sDict0_ap, sSetL_ap, sLc2_ap, sStar_ap, e0, this]
  · have := n.2 L
    unfold m__law_is_paper; simp (maxSteps := 4000000) (dsimp := false) (disch := first | assumption | decide | omega | walk_at "cm") only [runDef_ap, sVar_ap, sC_ap, sBin_ap, sNeg_ap, sAnd_ap, sOr_ap, sNot_ap, sIf_ap, sTst_ap, qAnd_ap, qOr_ap, qNot_ap, qYes_ap, sChain_ap, sChain3_ap, sNil_ap, sCons_ap, sTup_ap, sLst_ap, sLstM_ap, sCall_ap, g1_ap, g2_ap, sFn_ap, sAsg_ap, gNm_ap, gTp_ap, gConsS_ap, gNilS_ap, sPar_ap, sPar3_ap, sRet_ap, sRetN_ap, sNx_ap, sBrk_ap, sCnt_ap, sSeq_ap, sIte_ap, sDrop_ap, sFrz_ap, sAug_ap, iRange1_ap, iRange2_ap, iSeq_ap, sFor_ap, sLc_ap, R.toG_ok, ↓R.bind_bnd, bnd_ok, ↓R.bd_bdn, bdn_ok, ↓R.toF_tof, tof_ok, ↓F.seq_sqn, sqn_nx, sqn_ret, sqn_cnt, sqn_brk, ↓F.turn_trn, trn_nx, trn_ret, trn_cnt, trn_brk, F.end_nx, F.end_ret, ↓br_true, br_true, ↓br_false, br_false, Dbr, Dneg, Dtst, opt_some, dAdd_int, dIAdd_int, dSub_int, dLt_int, dLe_int, dGt_int, dGe_int, dEq_int, dNe_int, dEq_bl, dNe_bl, dMul_cm, dMod_pos, dDiv_pos, dAbs_int, dMax2_int, dMin2_int, dInt_int, dInt_bl, dIx_tup, dIx_lst, dIx_seq, dLen_tup, dLen_lst, dLen_seq, atI_0, atI_1, atI_2, atI_3, List.map_cons, List.map_nil, List.length_cons, List.length_nil, List.replicate_succ, List.replicate_zero, List.cons_append, List.nil_append, List.getElem?_cons_zero, List.getElem?_cons_succ, List.set_cons_zero, List.set_cons_succ, Nat.reduceAdd, Nat.reduceSub, Nat.zero_add, Nat.add_zero, Nat.sub_self, Nat.reduceMul, mostL_def, Nat.reduceLeDiff, Nat.reduceLT, ite_true, ite_false, if_true, if_false, ↓reduceIte, reduceIte, ↓br_ite, Bool.false_eq_true, reduceCtorEq, Bool.not_true, Bool.not_false, decide_true, decide_false, Int.cast_ofNat_Int, Int.reduceBEq, Int.reduceAdd, Int.reduceSub, Int.reduceMul, Int.reduceNeg, Int.reduceLT, Int.reduceLE, Int.reduceMod, Int.reduceDiv, sMeth1_ap, sSl_ap, sRev_ap, oNo_ap, oPart_ap, sDict0_ap, sSetL_ap, sLc2_ap, sStar_ap, this]
end
end L14

/-! K14c: papers, what is near -/
namespace L14
open PySem L2 Evl Pd
local macro_rules | `(tactic| walk_at "sm") => `(tactic| first | assumption | exact Sm.lit | exact Sm.mul (by walk_at "sm") (by walk_at "sm") | exact Sm.add (by walk_at "sm") (by walk_at "sm") | exact Sm.sub (by walk_at "sm") (by walk_at "sm") | exact Sm.neg (by walk_at "sm"))
local macro_rules | `(tactic| walk_at "cm") => `(tactic| ((with_reducible show CM _ _); first | assumption | exact CM.left (by decide) | exact CM.right (by decide) | exact CM.left (by omega) | exact CM.right (by omega) | exact CM.of (by walk_at "sm") (by walk_at "sm") (by decide)))
theorem least_nat {P : Nat → Prop} : ∀ n, P n → ∃ m, m ≤ n ∧ P m ∧ ∀ i, i < m → ¬ P i := by
  intro n
  induction n using Nat.strongRecOn with
  | _ n ih =>
    intro h
    by_cases e : ∃ i, i < n ∧ P i
    · obtain ⟨i, hi, p⟩ := e
      obtain ⟨m, h1, h2, h3⟩ := ih i hi p
      exact ⟨m, by omega, h2, h3⟩
    · exact ⟨n, Nat.le_refl _, h, fun i hi p => e ⟨i, hi, p⟩⟩
section
variable {L : Int} {h : Ph}
theorem Sm.lin {i j k l m : Nat} {a b c d : Int} (sa : Sm i a) (sb : Sm j b) (sc : Sm k c) (sd : Sm l d) (h1 : i + j ≤ m) (h2 : k + l ≤ m) : Sm (m + 1) (a * b + c * d) := ((sa.mul sb).mono h1).add1 ((sc.mul sd).mono h2)
/-- a matrix made of two heads and a shift -/
theorem made_mx {p x q y p' x' q' y' s : Int} (d : p * y - x * q = 1) (d' : p' * y' - x' * q' = 1) (sp : Sm 28 p) (sx : Sm 30 x) (sq : Sm 28 q) (sy : Sm 30 y) (sp' : Sm 28 p') (sx' : Sm 30 x') (sq' : Sm 28 q') (sy' : Sm 30 y') (ss : Sm 7 s) :
    Mx 72 ((p' * 1 + x' * 0) * y + (p' * s + x' * 1) * -q) ((p' * 1 + x' * 0) * -x + (p' * s + x' * 1) * p) ((q' * 1 + y' * 0) * y + (q' * s + y' * 1) * -q) ((q' * 1 + y' * 0) * -x + (q' * s + y' * 1) * p) := by
  have s0 : Sm 0 0 := ⟨by decide⟩
  have s1 : Sm 1 1 := ⟨by decide⟩
  have i1 := Sm.lin (m := 36) sp' s1 sx' s0 (by decide) (by decide)
  have i2 := Sm.lin (m := 36) sp' ss sx' s1 (by decide) (by decide)
  have i3 := Sm.lin (m := 36) sq' s1 sy' s0 (by decide) (by decide)
  have i4 := Sm.lin (m := 36) sq' ss sy' s1 (by decide) (by decide)
  refine ⟨?_, ?_, ?_, ?_, ?_⟩
  · exact Sm.lin (m := 71) i1 sy i2 sq.neg (by decide) (by decide)
  · exact Sm.lin (m := 71) i1 sx.neg i2 sp (by decide) (by decide)
  · exact Sm.lin (m := 71) i3 sy i4 sq.neg (by decide) (by decide)
  · exact Sm.lin (m := 71) i3 sx.neg i4 sp (by decide) (by decide)
  · have e : ((p' * 1 + x' * 0) * y + (p' * s + x' * 1) * -q) * ((q' * 1 + y' * 0) * -x + (q' * s + y' * 1) * p) - ((p' * 1 + x' * 0) * -x + (p' * s + x' * 1) * p) * ((q' * 1 + y' * 0) * y + (q' * s + y' * 1) * -q) = (p * y - x * q) * (p' * y' - x' * q') := by grind
    rw [e, d, d']; decide
theorem rim_paper_ok {p q p' q' : Int} (hL : 1 ≤ L) (hL2 : L ≤ 100) (f : Fs p q) (f' : Fs p' q') (r : Fr p q) (r' : Fr p' q') (sp : Sm 28 p) (sq : Sm 28 q) (sp' : Sm 28 p') (sq' : Sm 28 q') :
    (¬ Cls L p q p' q' ∧ m_rim_paper [.int L, T2 p q, T2 p' q'] h = .ok .non h) ∨ (Cls L p q p' q' ∧ ∃ a b c d, m_rim_paper [.int L, T2 p q, T2 p' q'] h = .ok (T4 a b c d) h ∧ Mx 72 a b c d ∧ L ∣ c ∧ mA a b p q = p' ∧ mA c d p q = q') := by
  have e0 := require_two_ok (h := h) hL hL2 f f'
  obtain ⟨x, y, e1, d, sx, sy⟩ := matrix_to_ok (h := h) r (by decide : 28 ≤ 30) sp sq
  obtain ⟨x', y', e2, d', sx', sy'⟩ := matrix_to_ok (h := h) r' (by decide : 28 ≤ 30) sp' sq'
  have e3 := back_in_ok (a := p) (b := x) (c := q) (d := y) (h := h)
  have rg := rng_ok (n := L) (h := h) (by omega) (by omega)
  have key : ∀ s : Int, (q' * 1 + y' * 0) * y + (q' * s + y' * 1) * -q = (q' * y - y' * q) - s * (q * q') := fun s => by grind
  have body : ∀ (i : Nat) (o6 : Option D), (i : Int) < L → l_rim_paper_1 [some (.int L), some (T2 p q), some (T2 p' q'), some (.int (0 + i)), some (T4 y (-x) (-q) p), some (T4 p' x' q' y'), o6] h = if L ∣ (q' * y - y' * q) - (0 + i) * (q * q') then .ret (T4 ((p' * 1 + x' * 0) * y + (p' * (0 + i) + x' * 1) * -q) ((p' * 1 + x' * 0) * -x + (p' * (0 + i) + x' * 1) * p) ((q' * 1 + y' * 0) * y + (q' * (0 + i) + y' * 1) * -q) ((q' * 1 + y' * 0) * -x + (q' * (0 + i) + y' * 1) * p)) h
      else .nx [some (.int L), some (T2 p q), some (T2 p' q'), some (.int (0 + i)), some (T4 y (-x) (-q) p), some (T4 p' x' q' y'), some (T4 ((p' * 1 + x' * 0) * y + (p' * (0 + i) + x' * 1) * -q) ((p' * 1 + x' * 0) * -x + (p' * (0 + i) + x' * 1) * p) ((q' * 1 + y' * 0) * y + (q' * (0 + i) + y' * 1) * -q) ((q' * 1 + y' * 0) * -x + (q' * (0 + i) + y' * 1) * p))] h := by
    intro i o6 hi
    generalize hs : (0 + (i : Int)) = s
    have ss : Sm 7 s := Sm.of_lt 7 (n := 101) (by omega) (by omega) (by decide)
    have m1 := product_in_ok (h := h) (a := p') (b := x') (c := q') (d := y') (p := 1) (q := s) (r := 0) (s := 1) (sp'.mono (by decide)) (sx'.mono (by decide)) (sq'.mono (by decide)) (sy'.mono (by decide)) ⟨by decide +kernel⟩ (ss.mono (by decide)) ⟨by decide +kernel⟩ ⟨by decide +kernel⟩
    have s0 : Sm 0 0 := ⟨by decide⟩
    have s1 : Sm 1 1 := ⟨by decide⟩
    have m2 := product_in_ok (h := h) (a := p' * 1 + x' * 0) (b := p' * s + x' * 1) (c := q' * 1 + y' * 0) (d := q' * s + y' * 1) (p := y) (q := -x) (r := -q) (s := p)
      (((sp'.mul s1).add (sx'.mul s0)).mono (by decide)) (((sp'.mul ss).add (sx'.mul s1)).mono (by decide)) (((sq'.mul s1).add (sy'.mul s0)).mono (by decide)) (((sq'.mul ss).add (sy'.mul s1)).mono (by decide)) (sy.mono (by decide)) (sx.neg.mono (by decide)) (sq.neg.mono (by decide)) (sp.mono (by decide))
    have hp : 0 < L := by omega
    by_cases hd : L ∣ (q' * y - y' * q) - s * (q * q')
    · rw [if_pos hd]
      have c0 : (((q' * 1 + y' * 0) * y + (q' * s + y' * 1) * -q) % L == 0) = true := by rw [key, Int.emod_eq_zero_of_dvd hd]; rfl
      unfold l_rim_paper_1
      simp (maxSteps := 4000000) (dsimp := false) (disch := first | assumption | decide | omega | walk_at "cm") only [runDef_ap, sVar_ap, sC_ap, sBin_ap, sNeg_ap, sAnd_ap, sOr_ap, sNot_ap, sIf_ap, sTst_ap, qAnd_ap, qOr_ap, qNot_ap, qYes_ap, sChain_ap, sChain3_ap, sNil_ap, sCons_ap, sTup_ap, sLst_ap, sLstM_ap, sCall_ap, g1_ap, g2_ap, sFn_ap, sAsg_ap, gNm_ap, gTp_ap, gConsS_ap, gNilS_ap, sPar_ap, sPar3_ap, sRet_ap, sRetN_ap, sNx_ap, sBrk_ap, sCnt_ap, sSeq_ap, sIte_ap, sDrop_ap, sFrz_ap, sAug_ap, iRange1_ap, iRange2_ap, iSeq_ap, sFor_ap, sLc_ap, R.toG_ok, ↓R.bind_bnd, bnd_ok, ↓R.bd_bdn, bdn_ok, ↓R.toF_tof, tof_ok, ↓F.seq_sqn, sqn_nx, sqn_ret, sqn_cnt, sqn_brk, ↓F.turn_trn, trn_nx, trn_ret, trn_cnt, trn_brk, F.end_nx, F.end_ret, ↓br_true, br_true, ↓br_false, br_false, Dbr, Dneg, Dtst, opt_some, dAdd_int, dIAdd_int, dSub_int, dLt_int, dLe_int, dGt_int, dGe_int, dEq_int, dNe_int, dEq_bl, dNe_bl, dMul_cm, dMod_pos, dDiv_pos, dAbs_int, dMax2_int, dMin2_int, dInt_int, dInt_bl, dIx_tup, dIx_lst, dIx_seq, dLen_tup, dLen_lst, dLen_seq, atI_0, atI_1, atI_2, atI_3, List.map_cons, List.map_nil, List.length_cons, List.length_nil, List.replicate_succ, List.replicate_zero, List.cons_append, List.nil_append, List.getElem?_cons_zero, List.getElem?_cons_succ, List.set_cons_zero, List.set_cons_succ, Nat.reduceAdd, Nat.reduceSub, Nat.zero_add, Nat.add_zero, Nat.sub_self, Nat.reduceMul, mostL_def, Nat.reduceLeDiff, Nat.reduceLT, ite_true, ite_false, if_true, if_false, ↓reduceIte, reduceIte, ↓br_ite, Bool.false_eq_true, reduceCtorEq, Bool.not_true, Bool.not_false, decide_true, decide_false, Int.cast_ofNat_Int, Int.reduceBEq, Int.reduceAdd, Int.reduceSub, Int.reduceMul, Int.reduceNeg, Int.reduceLT, Int.reduceLE, Int.reduceMod, Int.reduceDiv, sMeth1_ap, sSl_ap, sRev_ap, oNo_ap, oPart_ap, sDict0_ap, sSetL_ap, sLc2_ap, sStar_ap, m1, m2, c0]
    · rw [if_neg hd]
      have c0 : (((q' * 1 + y' * 0) * y + (q' * s + y' * 1) * -q) % L == 0) = false := by
        rw [key, beq_eq_false_iff_ne]
        exact fun z => hd (Int.dvd_of_emod_eq_zero z)
      unfold l_rim_paper_1
      simp (maxSteps := 4000000) (dsimp := false) (disch := first | assumption | decide | omega | walk_at "cm") only [runDef_ap, sVar_ap, sC_ap, sBin_ap, sNeg_ap, sAnd_ap, sOr_ap, sNot_ap, sIf_ap, sTst_ap, qAnd_ap, qOr_ap, qNot_ap, qYes_ap, sChain_ap, sChain3_ap, sNil_ap, sCons_ap, sTup_ap, sLst_ap, sLstM_ap, sCall_ap, g1_ap, g2_ap, sFn_ap, sAsg_ap, gNm_ap, gTp_ap, gConsS_ap, gNilS_ap, sPar_ap, sPar3_ap, sRet_ap, sRetN_ap, sNx_ap, sBrk_ap, sCnt_ap, sSeq_ap, sIte_ap, sDrop_ap, sFrz_ap, sAug_ap, iRange1_ap, iRange2_ap, iSeq_ap, sFor_ap, sLc_ap, R.toG_ok, ↓R.bind_bnd, bnd_ok, ↓R.bd_bdn, bdn_ok, ↓R.toF_tof, tof_ok, ↓F.seq_sqn, sqn_nx, sqn_ret, sqn_cnt, sqn_brk, ↓F.turn_trn, trn_nx, trn_ret, trn_cnt, trn_brk, F.end_nx, F.end_ret, ↓br_true, br_true, ↓br_false, br_false, Dbr, Dneg, Dtst, opt_some, dAdd_int, dIAdd_int, dSub_int, dLt_int, dLe_int, dGt_int, dGe_int, dEq_int, dNe_int, dEq_bl, dNe_bl, dMul_cm, dMod_pos, dDiv_pos, dAbs_int, dMax2_int, dMin2_int, dInt_int, dInt_bl, dIx_tup, dIx_lst, dIx_seq, dLen_tup, dLen_lst, dLen_seq, atI_0, atI_1, atI_2, atI_3, List.map_cons, List.map_nil, List.length_cons, List.length_nil, List.replicate_succ, List.replicate_zero, List.cons_append, List.nil_append, List.getElem?_cons_zero, List.getElem?_cons_succ, List.set_cons_zero, List.set_cons_succ, Nat.reduceAdd, Nat.reduceSub, Nat.zero_add, Nat.add_zero, Nat.sub_self, Nat.reduceMul, mostL_def, Nat.reduceLeDiff, Nat.reduceLT, ite_true, ite_false, if_true, if_false, ↓reduceIte, reduceIte, ↓br_ite, Bool.false_eq_true, reduceCtorEq, Bool.not_true, Bool.not_false, decide_true, decide_false, Int.cast_ofNat_Int, Int.reduceBEq, Int.reduceAdd, Int.reduceSub, Int.reduceMul, Int.reduceNeg, Int.reduceLT, Int.reduceLE, Int.reduceMod, Int.reduceDiv, sMeth1_ap, sSl_ap, sRev_ap, oNo_ap, oPart_ap, sDict0_ap, sSetL_ap, sLc2_ap, sStar_ap, m1, m2, c0]
  have iff1 := (shift_iff (m := q * q') (c := q' * y - y' * q) hL).trans (class_iff hL d d')
  by_cases hc : Cls L p q p' q'
  · refine .inr ⟨hc, ?_⟩
    obtain ⟨k, k0, k1, k2⟩ := iff1.mpr hc
    obtain ⟨n, rfl⟩ := Int.eq_ofNat_of_zero_le k0
    obtain ⟨j, hj, hj2, hjm⟩ := least_nat (P := fun n : Nat => L ∣ (q' * y - y' * q) - (0 + n) * (q * q')) n (by rw [Int.zero_add]; exact k2)
    obtain ⟨h2, q1, rfl⟩ := for_ret (g := gNm 3) (f := l_rim_paper_1) (d := T4 ((p' * 1 + x' * 0) * y + (p' * (0 + j) + x' * 1) * -q) ((p' * 1 + x' * 0) * -x + (p' * (0 + j) + x' * 1) * p) ((q' * 1 + y' * 0) * y + (q' * (0 + j) + y' * 1) * -q) ((q' * 1 + y' * 0) * -x + (q' * (0 + j) + y' * 1) * p))
      (fun e h' => h' = h ∧ ∃ o3 o6, e = [some (.int L), some (T2 p q), some (T2 p' q'), o3, some (T4 y (-x) (-q) p), some (T4 p' x' q' y'), o6]) (fun h' => h' = h)
      (y := .int (0 + j)) (ys := rangeD (j + 1) (L.toNat - j - 1))
      (fun e h' ⟨hh, o3, o6, he⟩ => by
        subst he
        subst hh
        exact ⟨_, _, h', rfl, by rw [show (List.set _ _ _) = [some (.int L), some (T2 p q), some (T2 p' q'), some (.int (0 + j)), some (T4 y (-x) (-q) p), some (T4 p' x' q' y'), o6] from rfl, body j o6 (by omega), if_pos hj2], rfl⟩)
      (rangeD 0 j) (fun z hz e h' ⟨hh, o3, o6, he⟩ => by
        subst he
        subst hh
        obtain ⟨i, hi, rfl⟩ := rangeD_mem hz
        refine ⟨_, _, _, h', rfl, by rw [show (List.set _ _ _) = [some (.int L), some (T2 p q), some (T2 p' q'), some (.int (0 + i)), some (T4 y (-x) (-q) p), some (T4 p' x' q' y'), o6] from rfl, body i o6 (by omega), if_neg (hjm i hi)], rfl, _, _, rfl⟩)
      [some (.int L), some (T2 p q), some (T2 p' q'), none, some (T4 y (-x) (-q) p), some (T4 p' x' q' y'), none] h ⟨rfl, none, none, rfl⟩
    rw [show (.int (0 + (j : Int)) : D) = .int j by rw [Int.zero_add], ← range_split (by omega)] at q1
    refine ⟨_, _, _, _, ?_, made_mx d d' sp sx sq sy sp' sx' sq' sy' (s := 0 + j) (Sm.of_lt 7 (n := 101) (by omega) (by omega) (by decide)), by rw [key]; exact hj2, ?_, ?_⟩
    · unfold m_rim_paper
      simp (maxSteps := 4000000) (dsimp := false) (disch := first | assumption | decide | omega | walk_at "cm") only [runDef_ap, sVar_ap, sC_ap, sBin_ap, sNeg_ap, sAnd_ap, sOr_ap, sNot_ap, sIf_ap, sTst_ap, qAnd_ap, qOr_ap, qNot_ap, qYes_ap, sChain_ap, sChain3_ap, sNil_ap, sCons_ap, sTup_ap, sLst_ap, sLstM_ap, sCall_ap, g1_ap, g2_ap, sFn_ap, sAsg_ap, gNm_ap, gTp_ap, gConsS_ap, gNilS_ap, sPar_ap, sPar3_ap, sRet_ap, sRetN_ap, sNx_ap, sBrk_ap, sCnt_ap, sSeq_ap, sIte_ap, sDrop_ap, sFrz_ap, sAug_ap, iRange1_ap, iRange2_ap, iSeq_ap, sFor_ap, sLc_ap, R.toG_ok, ↓R.bind_bnd, bnd_ok, ↓R.bd_bdn, bdn_ok, ↓R.toF_tof, tof_ok, ↓F.seq_sqn, sqn_nx, sqn_ret, sqn_cnt, sqn_brk, ↓F.turn_trn, trn_nx, trn_ret, trn_cnt, trn_brk, F.end_nx, F.end_ret, ↓br_true, br_true, ↓br_false, br_false, Dbr, Dneg, Dtst, opt_some, dAdd_int, dIAdd_int, dSub_int, dLt_int, dLe_int, dGt_int, dGe_int, dEq_int, dNe_int, dEq_bl, dNe_bl, dMul_cm, dMod_pos, dDiv_pos, dAbs_int, dMax2_int, dMin2_int, dInt_int, dInt_bl, dIx_tup, dIx_lst, dIx_seq, dLen_tup, dLen_lst, dLen_seq, atI_0, atI_1, atI_2, atI_3, List.map_cons, List.map_nil, List.length_cons, List.length_nil, List.replicate_succ, List.replicate_zero, List.cons_append, List.nil_append, List.getElem?_cons_zero, List.getElem?_cons_succ, List.set_cons_zero, List.set_cons_succ, Nat.reduceAdd, Nat.reduceSub, Nat.zero_add, Nat.add_zero, Nat.sub_self, Nat.reduceMul, mostL_def, Nat.reduceLeDiff, Nat.reduceLT, ite_true, ite_false, if_true, if_false, ↓reduceIte, reduceIte, ↓br_ite, Bool.false_eq_true, reduceCtorEq, Bool.not_true, Bool.not_false, decide_true, decide_false, Int.cast_ofNat_Int, Int.reduceBEq, Int.reduceAdd, Int.reduceSub, Int.reduceMul, Int.reduceNeg, Int.reduceLT, Int.reduceLE, Int.reduceMod, Int.reduceDiv, sMeth1_ap, sSl_ap, sRev_ap, oNo_ap, oPart_ap, sDict0_ap, sSetL_ap, sLc2_ap, sStar_ap, e0, e1, e2, e3, rg, q1]
    · have e : mA ((p' * 1 + x' * 0) * y + (p' * (0 + (j : Int)) + x' * 1) * -q) ((p' * 1 + x' * 0) * -x + (p' * (0 + (j : Int)) + x' * 1) * p) p q = p' * (p * y - x * q) := by unfold mA; grind
      rw [e, d, Int.mul_one]
    · have e : mA ((q' * 1 + y' * 0) * y + (q' * (0 + (j : Int)) + y' * 1) * -q) ((q' * 1 + y' * 0) * -x + (q' * (0 + (j : Int)) + y' * 1) * p) p q = q' * (p * y - x * q) := by unfold mA; grind
      rw [e, d, Int.mul_one]
  · refine .inl ⟨hc, ?_⟩
    obtain ⟨e', h', q1, rfl, o3, o6, rfl⟩ := forGo_inv (g := gNm 3) (f := l_rim_paper_1) (fun j e h' => h' = h ∧ ∃ o3 o6, e = [some (.int L), some (T2 p q), some (T2 p' q'), o3, some (T4 y (-x) (-q) p), some (T4 p' x' q' y'), o6]) (rangeD 0 L.toNat) 0 [some (.int L), some (T2 p q), some (T2 p' q'), none, some (T4 y (-x) (-q) p), some (T4 p' x' q' y'), none] h ⟨rfl, none, none, rfl⟩
      (fun z hz j e h' _ _ ⟨hh, o3, o6, he⟩ => by
        subst he
        subst hh
        obtain ⟨i, hi, rfl⟩ := rangeD_mem hz
        refine ⟨_, _, _, _, rfl, by rw [show (List.set _ _ _) = [some (.int L), some (T2 p q), some (T2 p' q'), some (.int (0 + i)), some (T4 y (-x) (-q) p), some (T4 p' x' q' y'), o6] from rfl, body i o6 (by omega), if_neg (fun z => hc (iff1.mp ⟨0 + i, by omega, by omega, z⟩))], rfl, _, _, rfl⟩)
    unfold m_rim_paper
    simp (maxSteps := 4000000) (dsimp := false) (disch := first | assumption | decide | omega | walk_at "cm") only [runDef_ap, sVar_ap, sC_ap, sBin_ap, sNeg_ap, sAnd_ap, sOr_ap, sNot_ap, sIf_ap, sTst_ap, qAnd_ap, qOr_ap, qNot_ap, qYes_ap, sChain_ap, sChain3_ap, sNil_ap, sCons_ap, sTup_ap, sLst_ap, sLstM_ap, sCall_ap, g1_ap, g2_ap, sFn_ap, sAsg_ap, gNm_ap, gTp_ap, gConsS_ap, gNilS_ap, sPar_ap, sPar3_ap, sRet_ap, sRetN_ap, sNx_ap, sBrk_ap, sCnt_ap, sSeq_ap, sIte_ap, sDrop_ap, sFrz_ap, sAug_ap, iRange1_ap, iRange2_ap, iSeq_ap, sFor_ap, sLc_ap, R.toG_ok, ↓R.bind_bnd, bnd_ok, ↓R.bd_bdn, bdn_ok, ↓R.toF_tof, tof_ok, ↓F.seq_sqn, sqn_nx, sqn_ret, sqn_cnt, sqn_brk, ↓F.turn_trn, trn_nx, trn_ret, trn_cnt, trn_brk, F.end_nx, F.end_ret, ↓br_true, br_true, ↓br_false, br_false, Dbr, Dneg, Dtst, opt_some, dAdd_int, dIAdd_int, dSub_int, dLt_int, dLe_int, dGt_int, dGe_int, dEq_int, dNe_int, dEq_bl, dNe_bl, dMul_cm, dMod_pos, dDiv_pos, dAbs_int, dMax2_int, dMin2_int, dInt_int, dInt_bl, dIx_tup, dIx_lst, dIx_seq, dLen_tup, dLen_lst, dLen_seq, atI_0, atI_1, atI_2, atI_3, List.map_cons, List.map_nil, List.length_cons, List.length_nil, List.replicate_succ, List.replicate_zero, List.cons_append, List.nil_append, List.getElem?_cons_zero, List.getElem?_cons_succ, List.set_cons_zero, List.set_cons_succ, Nat.reduceAdd, Nat.reduceSub, Nat.zero_add, Nat.add_zero, Nat.sub_self, Nat.reduceMul, mostL_def, Nat.reduceLeDiff, Nat.reduceLT, ite_true, ite_false, if_true, if_false, ↓reduceIte, reduceIte, ↓br_ite, Bool.false_eq_true, reduceCtorEq, Bool.not_true, Bool.not_false, decide_true, decide_false, Int.cast_ofNat_Int, Int.reduceBEq, Int.reduceAdd, Int.reduceSub, Int.reduceMul, Int.reduceNeg, Int.reduceLT, Int.reduceLE, Int.reduceMod, Int.reduceDiv, sMeth1_ap, sSl_ap, sRev_ap, oNo_ap, oPart_ap, sDict0_ap, sSetL_ap, sLc2_ap, sStar_ap, e0, e1, e2, e3, rg, q1]
theorem are_same_ok {p q p' q' x x' : Int} (hL : 1 ≤ L) (hL2 : L ≤ 100) (f : Fs p q) (f' : Fs p' q') (e1 : f_rim_in [.int L, T2 p q] h = .ok (T2 x (rP L q)) h) (e2 : f_rim_in [.int L, T2 p' q'] h = .ok (T2 x' (rP L q')) h) : f_are_same_rim [.int L, T2 p q, T2 p' q'] h = .ok (.bl (x == x' && (rP L q == rP L q' && true))) h := by
  have e0 := require_two_ok (h := h) hL hL2 f f'
  unfold f_are_same_rim
  simp (maxSteps := 4000000) (dsimp := false) (disch := first | assumption | decide | omega | walk_at "cm") only [runDef_ap, sVar_ap, sC_ap, sBin_ap, sNeg_ap, sAnd_ap, sOr_ap, sNot_ap, sIf_ap, sTst_ap, qAnd_ap, qOr_ap, qNot_ap, qYes_ap, sChain_ap, sChain3_ap, sNil_ap, sCons_ap, sTup_ap, sLst_ap, sLstM_ap, sCall_ap, g1_ap, g2_ap, sFn_ap, sAsg_ap, gNm_ap, gTp_ap, gConsS_ap, gNilS_ap, sPar_ap, sPar3_ap, sRet_ap, sRetN_ap, sNx_ap, sBrk_ap, sCnt_ap, sSeq_ap, sIte_ap, sDrop_ap, sFrz_ap, sAug_ap, iRange1_ap, iRange2_ap, iSeq_ap, sFor_ap, sLc_ap, R.toG_ok, ↓R.bind_bnd, bnd_ok, ↓R.bd_bdn, bdn_ok, ↓R.toF_tof, tof_ok, ↓F.seq_sqn, sqn_nx, sqn_ret, sqn_cnt, sqn_brk, ↓F.turn_trn, trn_nx, trn_ret, trn_cnt, trn_brk, F.end_nx, F.end_ret, ↓br_true, br_true, ↓br_false, br_false, Dbr, Dneg, Dtst, opt_some, dAdd_int, dIAdd_int, dSub_int, dLt_int, dLe_int, dGt_int, dGe_int, dEq_int, dNe_int, dEq_bl, dNe_bl, dMul_cm, dMod_pos, dDiv_pos, dAbs_int, dMax2_int, dMin2_int, dInt_int, dInt_bl, dIx_tup, dIx_lst, dIx_seq, dLen_tup, dLen_lst, dLen_seq, atI_0, atI_1, atI_2, atI_3, List.map_cons, List.map_nil, List.length_cons, List.length_nil, List.replicate_succ, List.replicate_zero, List.cons_append, List.nil_append, List.getElem?_cons_zero, List.getElem?_cons_succ, List.set_cons_zero, List.set_cons_succ, Nat.reduceAdd, Nat.reduceSub, Nat.zero_add, Nat.add_zero, Nat.sub_self, Nat.reduceMul, mostL_def, Nat.reduceLeDiff, Nat.reduceLT, ite_true, ite_false, if_true, if_false, ↓reduceIte, reduceIte, ↓br_ite, Bool.false_eq_true, reduceCtorEq, Bool.not_true, Bool.not_false, decide_true, decide_false, Int.cast_ofNat_Int, Int.reduceBEq, Int.reduceAdd, Int.reduceSub, Int.reduceMul, Int.reduceNeg, Int.reduceLT, Int.reduceLE, Int.reduceMod, Int.reduceDiv, sMeth1_ap, sSl_ap, sRev_ap, oNo_ap, oPart_ap, sDict0_ap, sSetL_ap, sLc2_ap, sStar_ap, e0, e1, e2, dEq_T2]
/-! ### what is made of heads -/
theorem head_ok {p q : Int} (r : Fr p q) (sp : Sm 28 p) (sq : Sm 28 q) : ∃ x y, m__law_head [T2 p q] h = .ok (T4 p (-y) q x) h ∧ p * x - -y * q = 1 ∧ Sm 30 x ∧ Sm 30 y := by
  obtain ⟨x, y, e, d, sx, sy⟩ := bezout_ok (h := h) (k := 28) (by decide) r.co sp sq
  refine ⟨x, y, ?_, by grind, sx, sy⟩
  unfold m__law_head
  simp (maxSteps := 4000000) (dsimp := false) (disch := first | assumption | decide | omega | walk_at "cm") only [runDef_ap, sVar_ap, sC_ap, sBin_ap, sNeg_ap, sAnd_ap, sOr_ap, sNot_ap, sIf_ap, sTst_ap, qAnd_ap, qOr_ap, qNot_ap, qYes_ap, sChain_ap, sChain3_ap, sNil_ap, sCons_ap, sTup_ap, sLst_ap, sLstM_ap, sCall_ap, g1_ap, g2_ap, sFn_ap, sAsg_ap, gNm_ap, gTp_ap, gConsS_ap, gNilS_ap, sPar_ap, sPar3_ap, sRet_ap, sRetN_ap, sNx_ap, sBrk_ap, sCnt_ap, sSeq_ap, sIte_ap, sDrop_ap, sFrz_ap, sAug_ap, iRange1_ap, iRange2_ap, iSeq_ap, sFor_ap, sLc_ap, R.toG_ok, ↓R.bind_bnd, bnd_ok, ↓R.bd_bdn, bdn_ok, ↓R.toF_tof, tof_ok, ↓F.seq_sqn, sqn_nx, sqn_ret, sqn_cnt, sqn_brk, ↓F.turn_trn, trn_nx, trn_ret, trn_cnt, trn_brk, F.end_nx, F.end_ret, ↓br_true, br_true, ↓br_false, br_false, Dbr, Dneg, Dtst, opt_some, dAdd_int, dIAdd_int, dSub_int, dLt_int, dLe_int, dGt_int, dGe_int, dEq_int, dNe_int, dEq_bl, dNe_bl, dMul_cm, dMod_pos, dDiv_pos, dAbs_int, dMax2_int, dMin2_int, dInt_int, dInt_bl, dIx_tup, dIx_lst, dIx_seq, dLen_tup, dLen_lst, dLen_seq, atI_0, atI_1, atI_2, atI_3, List.map_cons, List.map_nil, List.length_cons, List.length_nil, List.replicate_succ, List.replicate_zero, List.cons_append, List.nil_append, List.getElem?_cons_zero, List.getElem?_cons_succ, List.set_cons_zero, List.set_cons_succ, Nat.reduceAdd, Nat.reduceSub, Nat.zero_add, Nat.add_zero, Nat.sub_self, Nat.reduceMul, mostL_def, Nat.reduceLeDiff, Nat.reduceLT, ite_true, ite_false, if_true, if_false, ↓reduceIte, reduceIte, ↓br_ite, Bool.false_eq_true, reduceCtorEq, Bool.not_true, Bool.not_false, decide_true, decide_false, Int.cast_ofNat_Int, Int.reduceBEq, Int.reduceAdd, Int.reduceSub, Int.reduceMul, Int.reduceNeg, Int.reduceLT, Int.reduceLE, Int.reduceMod, Int.reduceDiv, sMeth1_ap, sSl_ap, sRev_ap, oNo_ap, oPart_ap, sDict0_ap, sSetL_ap, sLc2_ap, sStar_ap, e, gTp_ap, gConsS_ap, gNilS_ap, sNeg_ap]
theorem between_ok {p q p' q' s : Int} (r : Fr p q) (r' : Fr p' q') (sp : Sm 28 p) (sq : Sm 28 q) (sp' : Sm 28 p') (sq' : Sm 28 q') (ss : Sm 7 s) : ∃ a b c d, m__law_between [T2 p q, T2 p' q', .int s] h = .ok (T4 a b c d) h ∧ Mx 72 a b c d := by
  obtain ⟨x, y, e1, d1, sx, sy⟩ := head_ok (h := h) r sp sq
  obtain ⟨x', y', e2, d2, sx', sy'⟩ := head_ok (h := h) r' sp' sq'
  have s0 : Sm 0 0 := ⟨by decide⟩
  have s1 : Sm 1 1 := ⟨by decide⟩
  have m := made_mx (s := s) d1 d2 sp sy.neg sq sx sp' sy'.neg sq' sx' ss
  have m1 := times_ok (h := h) (a := p') (b := -y') (c := q') (d := x') (p := 1) (q := s) (r := 0) (s := 1) (sp'.mono (by decide)) (sy'.neg.mono (by decide)) (sq'.mono (by decide)) (sx'.mono (by decide)) ⟨by decide +kernel⟩ (ss.mono (by decide)) ⟨by decide +kernel⟩ ⟨by decide +kernel⟩
  have m2 := times_ok (h := h) (a := p' * 1 + -y' * 0) (b := p' * s + -y' * 1) (c := q' * 1 + x' * 0) (d := q' * s + x' * 1) (p := x) (q := - -y) (r := -q) (s := p)
      (((sp'.mul s1).add (sy'.neg.mul s0)).mono (by decide)) (((sp'.mul ss).add (sy'.neg.mul s1)).mono (by decide)) (((sq'.mul s1).add (sx'.mul s0)).mono (by decide)) (((sq'.mul ss).add (sx'.mul s1)).mono (by decide)) (sx.mono (by decide)) (sy.neg.neg.mono (by decide)) (sq.neg.mono (by decide)) (sp.mono (by decide))
  refine ⟨_, _, _, _, ?_, m⟩
  unfold m__law_between
  simp (maxSteps := 4000000) (dsimp := false) (disch := first | assumption | decide | omega | walk_at "cm") only [runDef_ap, sVar_ap, sC_ap, sBin_ap, sNeg_ap, sAnd_ap, sOr_ap, sNot_ap, sIf_ap, sTst_ap, qAnd_ap, qOr_ap, qNot_ap, qYes_ap, sChain_ap, sChain3_ap, sNil_ap, sCons_ap, sTup_ap, sLst_ap, sLstM_ap, sCall_ap, g1_ap, g2_ap, sFn_ap, sAsg_ap, gNm_ap, gTp_ap, gConsS_ap, gNilS_ap, sPar_ap, sPar3_ap, sRet_ap, sRetN_ap, sNx_ap, sBrk_ap, sCnt_ap, sSeq_ap, sIte_ap, sDrop_ap, sFrz_ap, sAug_ap, iRange1_ap, iRange2_ap, iSeq_ap, sFor_ap, sLc_ap, R.toG_ok, ↓R.bind_bnd, bnd_ok, ↓R.bd_bdn, bdn_ok, ↓R.toF_tof, tof_ok, ↓F.seq_sqn, sqn_nx, sqn_ret, sqn_cnt, sqn_brk, ↓F.turn_trn, trn_nx, trn_ret, trn_cnt, trn_brk, F.end_nx, F.end_ret, ↓br_true, br_true, ↓br_false, br_false, Dbr, Dneg, Dtst, opt_some, dAdd_int, dIAdd_int, dSub_int, dLt_int, dLe_int, dGt_int, dGe_int, dEq_int, dNe_int, dEq_bl, dNe_bl, dMul_cm, dMod_pos, dDiv_pos, dAbs_int, dMax2_int, dMin2_int, dInt_int, dInt_bl, dIx_tup, dIx_lst, dIx_seq, dLen_tup, dLen_lst, dLen_seq, atI_0, atI_1, atI_2, atI_3, List.map_cons, List.map_nil, List.length_cons, List.length_nil, List.replicate_succ, List.replicate_zero, List.cons_append, List.nil_append, List.getElem?_cons_zero, List.getElem?_cons_succ, List.set_cons_zero, List.set_cons_succ, Nat.reduceAdd, Nat.reduceSub, Nat.zero_add, Nat.add_zero, Nat.sub_self, Nat.reduceMul, mostL_def, Nat.reduceLeDiff, Nat.reduceLT, ite_true, ite_false, if_true, if_false, ↓reduceIte, reduceIte, ↓br_ite, Bool.false_eq_true, reduceCtorEq, Bool.not_true, Bool.not_false, decide_true, decide_false, Int.cast_ofNat_Int, Int.reduceBEq, Int.reduceAdd, Int.reduceSub, Int.reduceMul, Int.reduceNeg, Int.reduceLT, Int.reduceLE, Int.reduceMod, Int.reduceDiv, sMeth1_ap, sSl_ap, sRev_ap, oNo_ap, oPart_ap, sDict0_ap, sSetL_ap, sLc2_ap, sStar_ap, e1, e2, m1, m2, gTp_ap, gConsS_ap, gNilS_ap, sNeg_ap]
end
end L14

/-! K14d: pairs of fractions, the law -/
namespace L14
open PySem L2 Evl Pd
local macro_rules | `(tactic| walk_at "sm") => `(tactic| first | assumption | exact Sm.lit | exact Sm.mul (by walk_at "sm") (by walk_at "sm") | exact Sm.add (by walk_at "sm") (by walk_at "sm") | exact Sm.sub (by walk_at "sm") (by walk_at "sm") | exact Sm.neg (by walk_at "sm"))
local macro_rules | `(tactic| walk_at "cm") => `(tactic| ((with_reducible show CM _ _); first | assumption | exact CM.left (by decide) | exact CM.right (by decide) | exact CM.left (by omega) | exact CM.right (by omega) | exact CM.of (by walk_at "sm") (by walk_at "sm") (by decide)))
theorem lw_self {p q : Int} (r : Fr p q) : lwT p q = p ∧ lwB p q = q := by
  obtain ⟨f, e1, e2⟩ := lw_ok r.ne
  refine f.eq r ?_
  generalize lwS p q * (Int.gcd p q : Int) = z at *
  generalize lwT p q = u at *
  generalize lwB p q = v at *
  rw [e1, e2]; grind
theorem int_text_ok (i : Int) : SeqAt.shaped (.list [.str (Str.ofString (toString i))]) = true := by
  have e : PyData.strOk (Str.ofString (toString i)) = true := by
    unfold PyData.strOk
    rw [Array.all_eq_true']
    intro k hk
    rw [decide_eq_true_eq]
    by_cases h : k < 0x110000
    · exact h
    · exact absurd (Array.mem_toList_iff.mpr hk) (PyProof.Rows.int_text_free' k ⟨by omega, .inr (by omega)⟩ i)
  unfold SeqAt.shaped
  have e2 : (PyData.list [.str (Str.ofString (toString i))]).canLay0 = true := by
    show (PyData.strOk (Str.ofString (toString i)) && true) = true
    rw [e]; rfl
  rw [e2]
  rfl
theorem nom_tup {xs : List D} {h : Ph} (hn : ((xs.length : Int) == 4) = false) : NoM (.tup xs) h := nom_len hn
section
variable {L p q p' q' : Int} {n : Nat}
structure Two (L p q p' q' : Int) : Prop where
  l1 : 1 ≤ L
  l2 : L ≤ 100
  r : Fr p q
  r' : Fr p' q'
  f : Fs p q
  f' : Fs p' q'
  sp : Sm 28 p
  sq : Sm 28 q
  sp' : Sm 28 p'
  sq' : Sm 28 q'
theorem agree_t4 {a b c d : Int} {h : Ph} (w : Two L p q p' q') (sa : Sm 200 a) (sb : Sm 200 b) (sc : Sm 200 c) (sd : Sm 200 d) : Agree L p q p' q' (T4 a b c d) h :=
  ⟨_, is_rim_paper_ok w.l1 w.l2 w.f w.f' w.r.ne sa sb sc sd, is_paper_ok w.l1 w.f w.r.ne sa sb sc sd⟩
abbrev Ag (L p q p' q' : Int) (m : Nat) (y : D) : Prop := ∀ h : Ph, h[m]? = some (.dK []) → Agree L p q p' q' y h
theorem near_ok {a b c d : Int} {h : Ph} (w : Two L p q p' q') (hd : Dc h n) (m : Mx 72 a b c d) : ∃ ys k h', m__law_near [.ref n, .int L, T2 p q, T4 a b c d] h = .ok (.lst ys) h' ∧ h'[k]? = some (.dK []) ∧ k ≠ n ∧ Dr n h h' ∧ (∀ y ∈ ys, Ag L p q p' q' k y) ∧ ys.length = 14 := by
  have L1 := w.l1
  have L2 := w.l2
  obtain ⟨s1, s2, s3, s4, h1, e1, m1, _, d1⟩ := matrix_drawn14 (L := L) (T := 2) hd L1 L2 (by decide) (by decide)
  have e2 := times_ok (h := h1) (m.sp.mono (by decide)) (m.sq.mono (by decide)) (m.sr.mono (by decide)) (m.ss.mono (by decide)) (m1.sp.mono (by decide)) (m1.sq.mono (by decide)) (m1.sr.mono (by decide)) (m1.ss.mono (by decide))
  have d2 := d1.push (.dK [])
  have hk : (h1 ++ [PO.dK []])[h1.length]? = some (.dK []) := by simp
  obtain ⟨l, x, t, en⟩ := id d1.dc
  have hn : n < h1.length := (List.getElem?_eq_some_iff.mp en).1
  obtain ⟨t1, t2, t3, t4, h2, e3, m2, _, d3⟩ := matrix_drawn14 (L := L) (T := 1) d2.dc L1 L2 (by decide) (by decide)
  have mp := m.prod m1
  have sL : Sm 72 L := Sm.of_lt 72 (n := 101) (by omega) (by omega) (by decide +kernel)
  have so : Sm 72 1 := ⟨by decide⟩
  have st := dStr_int (h := h1) (m.ss.mono (by decide : 72 ≤ 1000))
  refine ⟨[T4 a b c d, T4 (-a) (-b) (-c) (-d), .tup [.int a, .int b, .int c], .lst [.int a, .int b, .int c, .int d], .non, T4 a b c (d + 1), T4 a b (c + L) d, T4 d (-b) (-c) a,
    T4 (a * s1 + b * s3) (a * s2 + b * s4) (c * s1 + d * s3) (c * s2 + d * s4), .tup [.int a, .int b, .int c, .non], .tup [.int a, .int b, .int c, .str (toString d)], .tup [.int a, .int b, .int c, .int d, .int 0], .ref h1.length, T4 t1 t2 t3 t4], h1.length, h2, ?_, by rw [d3.keep h1.length (by omega) (by simp)]; exact hk, by omega, d2.trans d3, ?_, rfl⟩
  · have c1 : dList (T4 a b c d) h = .ok (.lst [.int a, .int b, .int c, .int d]) h := rfl
    have c2 : dAdd (T4 a b c d) (.tup [.int 0]) h1 = .ok (.tup [.int a, .int b, .int c, .int d, .int 0]) h1 := by kernel_rfl
    unfold m__law_near
    simp (maxSteps := 4000000) (dsimp := false) (disch := first | assumption | decide | omega | walk_at "cm") only [runDef_ap, sVar_ap, sC_ap, sBin_ap, sNeg_ap, sAnd_ap, sOr_ap, sNot_ap, sIf_ap, sTst_ap, qAnd_ap, qOr_ap, qNot_ap, qYes_ap, sChain_ap, sChain3_ap, sNil_ap, sCons_ap, sTup_ap, sLst_ap, sLstM_ap, sCall_ap, g1_ap, g2_ap, sFn_ap, sAsg_ap, gNm_ap, gTp_ap, gConsS_ap, gNilS_ap, sPar_ap, sPar3_ap, sRet_ap, sRetN_ap, sNx_ap, sBrk_ap, sCnt_ap, sSeq_ap, sIte_ap, sDrop_ap, sFrz_ap, sAug_ap, iRange1_ap, iRange2_ap, iSeq_ap, sFor_ap, sLc_ap, R.toG_ok, ↓R.bind_bnd, bnd_ok, ↓R.bd_bdn, bdn_ok, ↓R.toF_tof, tof_ok, ↓F.seq_sqn, sqn_nx, sqn_ret, sqn_cnt, sqn_brk, ↓F.turn_trn, trn_nx, trn_ret, trn_cnt, trn_brk, F.end_nx, F.end_ret, ↓br_true, br_true, ↓br_false, br_false, Dbr, Dneg, Dtst, opt_some, dAdd_int, dIAdd_int, dSub_int, dLt_int, dLe_int, dGt_int, dGe_int, dEq_int, dNe_int, dEq_bl, dNe_bl, dMul_cm, dMod_pos, dDiv_pos, dAbs_int, dMax2_int, dMin2_int, dInt_int, dInt_bl, dIx_tup, dIx_lst, dIx_seq, dLen_tup, dLen_lst, dLen_seq, atI_0, atI_1, atI_2, atI_3, List.map_cons, List.map_nil, List.length_cons, List.length_nil, List.replicate_succ, List.replicate_zero, List.cons_append, List.nil_append, List.getElem?_cons_zero, List.getElem?_cons_succ, List.set_cons_zero, List.set_cons_succ, Nat.reduceAdd, Nat.reduceSub, Nat.zero_add, Nat.add_zero, Nat.sub_self, Nat.reduceMul, mostL_def, Nat.reduceLeDiff, Nat.reduceLT, ite_true, ite_false, if_true, if_false, ↓reduceIte, reduceIte, ↓br_ite, Bool.false_eq_true, reduceCtorEq, Bool.not_true, Bool.not_false, decide_true, decide_false, Int.cast_ofNat_Int, Int.reduceBEq, Int.reduceAdd, Int.reduceSub, Int.reduceMul, Int.reduceNeg, Int.reduceLT, Int.reduceLE, Int.reduceMod, Int.reduceDiv, sMeth1_ap, sSl_ap, sRev_ap, oNo_ap, oPart_ap, sDict0_ap, sSetL_ap, sLc2_ap, sStar_ap, gTp_ap, gConsS_ap, gNilS_ap, sNeg_ap, c1, e1, e2, st, c2, sDict0_ap, e3, dAdd_lst]
  · intro y hy
    have n4 : ∀ {k x}, Sm k x → k ≤ 200 → Sm 200 x := fun s h => s.mono h
    simp only [List.mem_cons, List.not_mem_nil, or_false] at hy
    intro h' hh
    rcases hy with rfl | rfl | rfl | rfl | rfl | rfl | rfl | rfl | rfl | rfl | rfl | rfl | rfl | rfl
    · exact agree_t4 w (n4 m.sp (by decide)) (n4 m.sq (by decide)) (n4 m.sr (by decide)) (n4 m.ss (by decide))
    · exact agree_t4 w (n4 m.sp.neg (by decide)) (n4 m.sq.neg (by decide)) (n4 m.sr.neg (by decide)) (n4 m.ss.neg (by decide))
    · exact agree_no L1 L2 w.f w.f' (nom_tup rfl)
    · exact agree_no L1 L2 w.f w.f' nom_lst
    · exact agree_no L1 L2 w.f w.f' nom_non
    · exact agree_t4 w (n4 m.sp (by decide)) (n4 m.sq (by decide)) (n4 m.sr (by decide)) (n4 (m.ss.add1 so) (by decide))
    · exact agree_t4 w (n4 m.sp (by decide)) (n4 m.sq (by decide)) (n4 (m.sr.add1 sL) (by decide)) (n4 m.ss (by decide))
    · exact agree_t4 w (n4 m.ss (by decide)) (n4 m.sq.neg (by decide)) (n4 m.sr.neg (by decide)) (n4 m.sp (by decide))
    · exact agree_t4 w (n4 mp.sp (by decide)) (n4 mp.sq (by decide)) (n4 mp.sr (by decide)) (n4 mp.ss (by decide))
    · exact agree_no L1 L2 w.f w.f' nom_4non
    · exact agree_no L1 L2 w.f w.f' (nom_4str (int_text_ok d))
    · exact agree_no L1 L2 w.f w.f' (nom_tup rfl)
    · exact agree_no L1 L2 w.f w.f' (nom_dict hh)
    · exact agree_t4 w (n4 m2.sp (by decide)) (n4 m2.sq (by decide)) (n4 m2.sr (by decide)) (n4 m2.ss (by decide))
theorem dNe_str_same {s : Str} {h : Ph} (hs : SeqAt.shaped (.str s) = true) : dNe (.str s) (.str s) h = .ok (.bl false) h := by
  show (if SeqAt.shaped (.str s) = true ∧ SeqAt.shaped (.str s) = true then _ else _) = _
  rw [if_pos ⟨hs, hs⟩]
  show R.ok (D.bl (!(s == s))) h = _
  simp
theorem value_ok {v : D} {h : Ph} {o0 o4 o5 o6 o8 : Option D} (g : Agree L p q p' q' v h) : l__law_pair_right_2 [o0, some (.int L), some (T2 p q), some (T2 p' q'), o4, o5, o6, some v, o8] h = .nx [o0, some (.int L), some (T2 p q), some (T2 p' q'), o4, o5, o6, some v, o8] h := by
  obtain ⟨t, e1, e2⟩ := g
  have e3 : dRepr (.bl t) h = .ok (.str (if t then "True" else "False")) h := rfl
  have e4 : dNe (.str (if t then "True" else "False")) (.str (if t then "True" else "False")) h = .ok (.bl false) h := dNe_str_same (by cases t <;> decide +kernel)
  unfold l__law_pair_right_2
  simp (maxSteps := 4000000) (dsimp := false) (disch := first | assumption | decide | omega | walk_at "cm") only [runDef_ap, sVar_ap, sC_ap, sBin_ap, sNeg_ap, sAnd_ap, sOr_ap, sNot_ap, sIf_ap, sTst_ap, qAnd_ap, qOr_ap, qNot_ap, qYes_ap, sChain_ap, sChain3_ap, sNil_ap, sCons_ap, sTup_ap, sLst_ap, sLstM_ap, sCall_ap, g1_ap, g2_ap, sFn_ap, sAsg_ap, gNm_ap, gTp_ap, gConsS_ap, gNilS_ap, sPar_ap, sPar3_ap, sRet_ap, sRetN_ap, sNx_ap, sBrk_ap, sCnt_ap, sSeq_ap, sIte_ap, sDrop_ap, sFrz_ap, sAug_ap, iRange1_ap, iRange2_ap, iSeq_ap, sFor_ap, sLc_ap, R.toG_ok, ↓R.bind_bnd, bnd_ok, ↓R.bd_bdn, bdn_ok, ↓R.toF_tof, tof_ok, ↓F.seq_sqn, sqn_nx, sqn_ret, sqn_cnt, sqn_brk, ↓F.turn_trn, trn_nx, trn_ret, trn_cnt, trn_brk, F.end_nx, F.end_ret, ↓br_true, br_true, ↓br_false, br_false, Dbr, Dneg, Dtst, opt_some, dAdd_int, dIAdd_int, dSub_int, dLt_int, dLe_int, dGt_int, dGe_int, dEq_int, dNe_int, dEq_bl, dNe_bl, dMul_cm, dMod_pos, dDiv_pos, dAbs_int, dMax2_int, dMin2_int, dInt_int, dInt_bl, dIx_tup, dIx_lst, dIx_seq, dLen_tup, dLen_lst, dLen_seq, atI_0, atI_1, atI_2, atI_3, List.map_cons, List.map_nil, List.length_cons, List.length_nil, List.replicate_succ, List.replicate_zero, List.cons_append, List.nil_append, List.getElem?_cons_zero, List.getElem?_cons_succ, List.set_cons_zero, List.set_cons_succ, Nat.reduceAdd, Nat.reduceSub, Nat.zero_add, Nat.add_zero, Nat.sub_self, Nat.reduceMul, mostL_def, Nat.reduceLeDiff, Nat.reduceLT, ite_true, ite_false, if_true, if_false, ↓reduceIte, reduceIte, ↓br_ite, Bool.false_eq_true, reduceCtorEq, Bool.not_true, Bool.not_false, decide_true, decide_false, Int.cast_ofNat_Int, Int.reduceBEq, Int.reduceAdd, Int.reduceSub, Int.reduceMul, Int.reduceNeg, Int.reduceLT, Int.reduceLE, Int.reduceMod, Int.reduceDiv, sMeth1_ap, sSl_ap, sRev_ap, oNo_ap, oPart_ap, sDict0_ap, sSetL_ap, sLc2_ap, sStar_ap, e1, e2, e3, e4]
theorem said {a b c d : Int} (m : Mx 72 a b c d) (w : Two L p q p' q') (hc : L ∣ c) (e1 : mA a b p q = p') (e2 : mA c d p q = q') : sayT L p q p' q' a b c d = true := by
  unfold sayT
  rw [e1, e2, (lw_self w.r').1, (lw_self w.r').2]
  simp only [Bool.and_eq_true, beq_iff_eq]
  exact ⟨⟨m.det, Int.emod_eq_zero_of_dvd hc⟩, trivial, trivial, trivial⟩
theorem tail_ok {h1 : Ph} {t : Bool} {v : D} {a b c d : Int} (w : Two L p q p' q') (hd : Dc h1 n) (m : Mx 72 a b c d) : ∃ ys zs h2 h3 o7, m__law_near [.ref n, .int L, T2 p q, T4 a b c d] h1 = .ok (.lst ys) h2 ∧
    c__law_pair_right_1 [some (.ref n), some (.int L), some (T2 p q), some (T2 p' q'), some (.bl t), some v, some (.lst ys), none, none] h2 = .ok (.lst zs) h3 ∧ dAdd (.lst ys) (.lst zs) h3 = .ok (.lst (ys ++ zs)) h3 ∧
    forGo (gNm 7) l__law_pair_right_2 (ys ++ zs) [some (.ref n), some (.int L), some (T2 p q), some (T2 p' q'), some (.bl t), some v, some (.lst (ys ++ zs)), none, none] h3 = .nx [some (.ref n), some (.int L), some (T2 p q), some (T2 p' q'), some (.bl t), some v, some (.lst (ys ++ zs)), o7, none] h3 ∧ Dr n h1 h3 := by
  obtain ⟨ys, k, h2, n1, n2, n3, d2, ag, yl⟩ := near_ok (h := h1) (n := n) w hd m
  obtain ⟨s, h3, r1, s0, s1, d3⟩ := roll_ok (T := 60) d2.dc (by decide) (by decide)
  have hk3 : h3[k]? = some (.dK []) := by rw [d3.keep k n3 (List.getElem?_eq_some_iff.mp n2).1]; exact n2
  have ss : ∀ z : Int, -10 < z → z < 100 → Sm 7 z := fun z h1 h2 => Sm.of_lt 7 (n := 101) (by omega) (by omega) (by decide)
  obtain ⟨a1, b1, c1, g1, q1, m1⟩ := between_ok (h := h3) (s := 0) w.r w.r' w.sp w.sq w.sp' w.sq' (ss 0 (by decide) (by decide))
  obtain ⟨a2, b2, c2, g2, q2, m2⟩ := between_ok (h := h3) (s := 1) w.r w.r' w.sp w.sq w.sp' w.sq' (ss 1 (by decide) (by decide))
  obtain ⟨a3, b3, c3, g3, q3, m3⟩ := between_ok (h := h3) (s := -1) w.r w.r' w.sp w.sq w.sp' w.sq' (ss (-1) (by decide) (by decide))
  obtain ⟨a4, b4, c4, g4, q4, m4⟩ := between_ok (h := h3) (s := s) w.r w.r' w.sp w.sq w.sp' w.sq' (ss s (by omega) (by omega))
  have hc : c__law_pair_right_1 [some (.ref n), some (.int L), some (T2 p q), some (T2 p' q'), some (.bl t), some v, some (.lst ys), none, none] h2 = .ok (.lst [T4 a1 b1 c1 g1, T4 a2 b2 c2 g2, T4 a3 b3 c3 g3, T4 a4 b4 c4 g4]) h3 := by
    unfold c__law_pair_right_1
    simp (maxSteps := 4000000) (dsimp := false) (disch := first | assumption | decide | omega | walk_at "cm") only [runDef_ap, sVar_ap, sC_ap, sBin_ap, sNeg_ap, sAnd_ap, sOr_ap, sNot_ap, sIf_ap, sTst_ap, qAnd_ap, qOr_ap, qNot_ap, qYes_ap, sChain_ap, sChain3_ap, sNil_ap, sCons_ap, sTup_ap, sLst_ap, sLstM_ap, sCall_ap, g1_ap, g2_ap, sFn_ap, sAsg_ap, gNm_ap, gTp_ap, gConsS_ap, gNilS_ap, sPar_ap, sPar3_ap, sRet_ap, sRetN_ap, sNx_ap, sBrk_ap, sCnt_ap, sSeq_ap, sIte_ap, sDrop_ap, sFrz_ap, sAug_ap, iRange1_ap, iRange2_ap, iSeq_ap, sFor_ap, sLc_ap, R.toG_ok, ↓R.bind_bnd, bnd_ok, ↓R.bd_bdn, bdn_ok, ↓R.toF_tof, tof_ok, ↓F.seq_sqn, sqn_nx, sqn_ret, sqn_cnt, sqn_brk, ↓F.turn_trn, trn_nx, trn_ret, trn_cnt, trn_brk, F.end_nx, F.end_ret, ↓br_true, br_true, ↓br_false, br_false, Dbr, Dneg, Dtst, opt_some, dAdd_int, dIAdd_int, dSub_int, dLt_int, dLe_int, dGt_int, dGe_int, dEq_int, dNe_int, dEq_bl, dNe_bl, dMul_cm, dMod_pos, dDiv_pos, dAbs_int, dMax2_int, dMin2_int, dInt_int, dInt_bl, dIx_tup, dIx_lst, dIx_seq, dLen_tup, dLen_lst, dLen_seq, atI_0, atI_1, atI_2, atI_3, List.map_cons, List.map_nil, List.length_cons, List.length_nil, List.replicate_succ, List.replicate_zero, List.cons_append, List.nil_append, List.getElem?_cons_zero, List.getElem?_cons_succ, List.set_cons_zero, List.set_cons_succ, Nat.reduceAdd, Nat.reduceSub, Nat.zero_add, Nat.add_zero, Nat.sub_self, Nat.reduceMul, mostL_def, Nat.reduceLeDiff, Nat.reduceLT, ite_true, ite_false, if_true, if_false, ↓reduceIte, reduceIte, ↓br_ite, Bool.false_eq_true, reduceCtorEq, Bool.not_true, Bool.not_false, decide_true, decide_false, Int.cast_ofNat_Int, Int.reduceBEq, Int.reduceAdd, Int.reduceSub, Int.reduceMul, Int.reduceNeg, Int.reduceLT, Int.reduceLE, Int.reduceMod, Int.reduceDiv, sMeth1_ap, sSl_ap, sRev_ap, oNo_ap, oPart_ap, sDict0_ap, sSetL_ap, sLc2_ap, sStar_ap, iSeq_at, r1, compGo_yes, compGo_nil, wipe_cons, wipe_nil, q1, q2, q3, q4]
  have al : ∀ y ∈ ys ++ [T4 a1 b1 c1 g1, T4 a2 b2 c2 g2, T4 a3 b3 c3 g3, T4 a4 b4 c4 g4], Agree L p q p' q' y h3 := by
    intro y hy
    have n4 : ∀ {a b c d}, Mx 72 a b c d → Agree L p q p' q' (T4 a b c d) h3 := fun m => agree_t4 w (m.sp.mono (by decide)) (m.sq.mono (by decide)) (m.sr.mono (by decide)) (m.ss.mono (by decide))
    rcases List.mem_append.mp hy with hy | hy
    · exact ag y hy h3 hk3
    · simp only [List.mem_cons, List.not_mem_nil, or_false] at hy
      rcases hy with rfl | rfl | rfl | rfl
      · exact n4 m1
      · exact n4 m2
      · exact n4 m3
      · exact n4 m4
  obtain ⟨e', h4, f1, rfl, o7, rfl⟩ := forGo_inv (g := gNm 7) (f := l__law_pair_right_2) (fun j e h' => h' = h3 ∧ ∃ o7, e = [some (.ref n), some (.int L), some (T2 p q), some (T2 p' q'), some (.bl t), some v, some (.lst (ys ++ [T4 a1 b1 c1 g1, T4 a2 b2 c2 g2, T4 a3 b3 c3 g3, T4 a4 b4 c4 g4])), o7, none]) (ys ++ [T4 a1 b1 c1 g1, T4 a2 b2 c2 g2, T4 a3 b3 c3 g3, T4 a4 b4 c4 g4]) 0 [some (.ref n), some (.int L), some (T2 p q), some (T2 p' q'), some (.bl t), some v, some (.lst (ys ++ [T4 a1 b1 c1 g1, T4 a2 b2 c2 g2, T4 a3 b3 c3 g3, T4 a4 b4 c4 g4])), none, none] h3 ⟨rfl, none, rfl⟩
    (fun y hy j e h' _ _ ⟨hh, o7, he⟩ => by
      subst he
      subst hh
      exact ⟨_, _, _, _, rfl, value_ok (al y hy), rfl, some y, rfl⟩)
  exact ⟨ys, _, h2, h4, o7, n1, hc, dCat_lst (by show ys.length + 4 ≤ mostL; unfold mostL; omega), f1, d2.trans d3⟩
theorem pair_right_ok {h : Ph} (w : Two L p q p' q') (hd : Dc h n) : ∃ h', m__law_pair_right [.ref n, .int L, T2 p q, T2 p' q'] h = .ok (.bl true) h' ∧ Dr n h h' := by
  have L1 := w.l1
  have L2 := w.l2
  obtain ⟨x, e1, rx⟩ := rim_in_ok (h := h) L1 L2 w.r (by decide : 28 ≤ 500) w.sp w.sq
  obtain ⟨x', e2, rx'⟩ := rim_in_ok (h := h) L1 L2 w.r' (by decide : 28 ≤ 500) w.sp' w.sq'
  have t1 := rim_told_ok (h := h) L1 L2 (by decide : 28 ≤ 200) w.sp w.sq rx
  have t2 := rim_told_ok (h := h) L1 L2 (by decide : 28 ≤ 200) w.sp' w.sq' rx'
  have e3 := are_same_ok (h := h) L1 L2 w.f w.f' e1 e2
  have hs := rim_same rx rx'
  rcases rim_paper_ok (h := h) L1 L2 w.f w.f' w.r w.r' w.sp w.sq w.sp' w.sq' with ⟨hc, e4⟩ | ⟨hc, a, b, c, d, e4, m, hLc, z1, z2⟩
  · obtain ⟨a, b, c, d, h1, e5, m, _, d1⟩ := matrix_drawn14 (L := L) (T := 3) hd L1 L2 (by decide) (by decide)
    have k3 : (x == x' && (rP L q == rP L q' && true)) = false := by
      have : ¬ (x = x' ∧ rP L q = rP L q') := fun z => hc (hs.mp z)
      rw [Bool.and_true]
      by_cases hx : x = x'
      · have : rP L q ≠ rP L q' := fun z => this ⟨hx, z⟩
        rw [beq_false_of_ne this, Bool.and_false]
      · rw [beq_false_of_ne hx, Bool.false_and]
    obtain ⟨ys, zs, h2, h3, o7, n1, n2, n3, n4, d2⟩ := tail_ok (t := false) (v := .non) w d1.dc (m.mono (by decide))
    have k2 : dIsNot .non .non h = .ok (.bl false) h := rfl
    rw [k3] at e3
    have k4 : dEq (T2 x (rP L q)) (T2 x' (rP L q')) h = .ok (.bl false) h := by rw [dEq_T2, k3]
    refine ⟨h3, ?_, d1.trans d2⟩
    unfold m__law_pair_right
    simp (maxSteps := 4000000) (dsimp := false) (disch := first | assumption | decide | omega | walk_at "cm") only [runDef_ap, sVar_ap, sC_ap, sBin_ap, sNeg_ap, sAnd_ap, sOr_ap, sNot_ap, sIf_ap, sTst_ap, qAnd_ap, qOr_ap, qNot_ap, qYes_ap, sChain_ap, sChain3_ap, sNil_ap, sCons_ap, sTup_ap, sLst_ap, sLstM_ap, sCall_ap, g1_ap, g2_ap, sFn_ap, sAsg_ap, gNm_ap, gTp_ap, gConsS_ap, gNilS_ap, sPar_ap, sPar3_ap, sRet_ap, sRetN_ap, sNx_ap, sBrk_ap, sCnt_ap, sSeq_ap, sIte_ap, sDrop_ap, sFrz_ap, sAug_ap, iRange1_ap, iRange2_ap, iSeq_ap, sFor_ap, sLc_ap, R.toG_ok, ↓R.bind_bnd, bnd_ok, ↓R.bd_bdn, bdn_ok, ↓R.toF_tof, tof_ok, ↓F.seq_sqn, sqn_nx, sqn_ret, sqn_cnt, sqn_brk, ↓F.turn_trn, trn_nx, trn_ret, trn_cnt, trn_brk, F.end_nx, F.end_ret, ↓br_true, br_true, ↓br_false, br_false, Dbr, Dneg, Dtst, opt_some, dAdd_int, dIAdd_int, dSub_int, dLt_int, dLe_int, dGt_int, dGe_int, dEq_int, dNe_int, dEq_bl, dNe_bl, dMul_cm, dMod_pos, dDiv_pos, dAbs_int, dMax2_int, dMin2_int, dInt_int, dInt_bl, dIx_tup, dIx_lst, dIx_seq, dLen_tup, dLen_lst, dLen_seq, atI_0, atI_1, atI_2, atI_3, List.map_cons, List.map_nil, List.length_cons, List.length_nil, List.replicate_succ, List.replicate_zero, List.cons_append, List.nil_append, List.getElem?_cons_zero, List.getElem?_cons_succ, List.set_cons_zero, List.set_cons_succ, Nat.reduceAdd, Nat.reduceSub, Nat.zero_add, Nat.add_zero, Nat.sub_self, Nat.reduceMul, mostL_def, Nat.reduceLeDiff, Nat.reduceLT, ite_true, ite_false, if_true, if_false, ↓reduceIte, reduceIte, ↓br_ite, Bool.false_eq_true, reduceCtorEq, Bool.not_true, Bool.not_false, decide_true, decide_false, Int.cast_ofNat_Int, Int.reduceBEq, Int.reduceAdd, Int.reduceSub, Int.reduceMul, Int.reduceNeg, Int.reduceLT, Int.reduceLE, Int.reduceMod, Int.reduceDiv, sMeth1_ap, sSl_ap, sRev_ap, oNo_ap, oPart_ap, sDict0_ap, sSetL_ap, sLc2_ap, sStar_ap, t1, t2, k4, e4, k2, e3, e5, n1, n2, n3, n4, iSeq_at, beq_self_eq_true]
  · have k3 : (x == x' && (rP L q == rP L q' && true)) = true := by
      obtain ⟨z1, z2⟩ := hs.mpr hc
      rw [z1, z2]; simp
    have e5 := is_paper_ok (h := h) (p' := p') (q' := q') L1 w.f w.r.ne (m.sp.mono (by decide)) (m.sq.mono (by decide)) (m.sr.mono (by decide)) (m.ss.mono (by decide))
    rw [said m w hLc z1 z2] at e5
    obtain ⟨ys, zs, h2, h3, o7, n1, n2, n3, n4, d2⟩ := tail_ok (t := true) (v := T4 a b c d) w hd m
    have k2 : dIsNot (T4 a b c d) .non h = .ok (.bl true) h := rfl
    rw [k3] at e3
    have k4 : dEq (T2 x (rP L q)) (T2 x' (rP L q')) h = .ok (.bl true) h := by rw [dEq_T2, k3]
    refine ⟨h3, ?_, d2⟩
    unfold m__law_pair_right
    simp (maxSteps := 4000000) (dsimp := false) (disch := first | assumption | decide | omega | walk_at "cm") only [runDef_ap, sVar_ap, sC_ap, sBin_ap, sNeg_ap, sAnd_ap, sOr_ap, sNot_ap, sIf_ap, sTst_ap, qAnd_ap, qOr_ap, qNot_ap, qYes_ap, sChain_ap, sChain3_ap, sNil_ap, sCons_ap, sTup_ap, sLst_ap, sLstM_ap, sCall_ap, g1_ap, g2_ap, sFn_ap, sAsg_ap, gNm_ap, gTp_ap, gConsS_ap, gNilS_ap, sPar_ap, sPar3_ap, sRet_ap, sRetN_ap, sNx_ap, sBrk_ap, sCnt_ap, sSeq_ap, sIte_ap, sDrop_ap, sFrz_ap, sAug_ap, iRange1_ap, iRange2_ap, iSeq_ap, sFor_ap, sLc_ap, R.toG_ok, ↓R.bind_bnd, bnd_ok, ↓R.bd_bdn, bdn_ok, ↓R.toF_tof, tof_ok, ↓F.seq_sqn, sqn_nx, sqn_ret, sqn_cnt, sqn_brk, ↓F.turn_trn, trn_nx, trn_ret, trn_cnt, trn_brk, F.end_nx, F.end_ret, ↓br_true, br_true, ↓br_false, br_false, Dbr, Dneg, Dtst, opt_some, dAdd_int, dIAdd_int, dSub_int, dLt_int, dLe_int, dGt_int, dGe_int, dEq_int, dNe_int, dEq_bl, dNe_bl, dMul_cm, dMod_pos, dDiv_pos, dAbs_int, dMax2_int, dMin2_int, dInt_int, dInt_bl, dIx_tup, dIx_lst, dIx_seq, dLen_tup, dLen_lst, dLen_seq, atI_0, atI_1, atI_2, atI_3, List.map_cons, List.map_nil, List.length_cons, List.length_nil, List.replicate_succ, List.replicate_zero, List.cons_append, List.nil_append, List.getElem?_cons_zero, List.getElem?_cons_succ, List.set_cons_zero, List.set_cons_succ, Nat.reduceAdd, Nat.reduceSub, Nat.zero_add, Nat.add_zero, Nat.sub_self, Nat.reduceMul, mostL_def, Nat.reduceLeDiff, Nat.reduceLT, ite_true, ite_false, if_true, if_false, ↓reduceIte, reduceIte, ↓br_ite, Bool.false_eq_true, reduceCtorEq, Bool.not_true, Bool.not_false, decide_true, decide_false, Int.cast_ofNat_Int, Int.reduceBEq, Int.reduceAdd, Int.reduceSub, Int.reduceMul, Int.reduceNeg, Int.reduceLT, Int.reduceLE, Int.reduceMod, Int.reduceDiv, sMeth1_ap, sSl_ap, sRev_ap, oNo_ap, oPart_ap, sDict0_ap, sSetL_ap, sLc2_ap, sStar_ap, t1, t2, k4, e4, k2, e3, e5, n1, n2, n3, n4, iSeq_at, beq_self_eq_true]
end
end L14

/-! K14e: the law -/
namespace L14
open PySem L2 Evl Pd
local macro_rules | `(tactic| walk_at "sm") => `(tactic| first | assumption | exact Sm.lit | exact Sm.mul (by walk_at "sm") (by walk_at "sm") | exact Sm.add (by walk_at "sm") (by walk_at "sm") | exact Sm.sub (by walk_at "sm") (by walk_at "sm") | exact Sm.neg (by walk_at "sm"))
local macro_rules | `(tactic| walk_at "cm") => `(tactic| ((with_reducible show CM _ _); first | assumption | exact CM.left (by decide) | exact CM.right (by decide) | exact CM.left (by omega) | exact CM.right (by omega) | exact CM.of (by walk_at "sm") (by walk_at "sm") (by decide)))
theorem Fs.of_sm {p q : Int} (r : Fr p q) (sp : Sm 28 p) (sq : Sm 28 q) : Fs p q := by
  have h1 := sp.lt
  have h2 := sq.lt
  have e : (2 : Nat) ^ 28 = 268435456 := rfl
  exact ⟨r, by omega, by omega⟩
theorem lw_sm {x y : Int} {k : Nat} (hn : x ≠ 0 ∨ y ≠ 0) (sx : Sm k x) (sy : Sm k y) : Sm k (lwT x y) ∧ Sm k (lwB x y) := by
  obtain ⟨_, ex, ey⟩ := lw_ok hn
  have hg := gcd_ne hn
  have key : ∀ {z t : Int}, Sm k z → z = lwS x y * Int.gcd x y * t → Sm k t := fun {z t} sz e => by
    have := sz.lt
    rw [e, Int.natAbs_mul, Int.natAbs_mul, Int.natAbs_natCast, show (lwS x y).natAbs = 1 by unfold lwS; split <;> rfl, Nat.one_mul] at this
    exact ⟨Nat.lt_of_le_of_lt (Nat.le_mul_of_pos_left _ (by omega)) this⟩
  exact ⟨key sx ex, key sy ey⟩
/-- a matrix of the group keeps the class -/
theorem class_led {L p q a b c d : Int} (hL : 1 ≤ L) (r : Fr p q) (dt : a * d - b * c = 1) (hc : L ∣ c) : Cls L p q (lwT (mA a b p q) (mA c d p q)) (lwB (mA a b p q) (mA c d p q)) := by
  have hn : mA a b p q ≠ 0 ∨ mA c d p q ≠ 0 := led_ne (by omega) r.ne
  obtain ⟨f, e1, e2⟩ := lw_ok hn
  obtain ⟨A, B, eb⟩ := bez_int p q
  rw [r.co] at eb
  have dx : p * A - (-B) * q = 1 := by have : ((1 : Nat) : Int) = 1 := rfl; rw [this] at eb; grind
  generalize hz : lwS (mA a b p q) (mA c d p q) * (Int.gcd (mA a b p q) (mA c d p q) : Int) = z at e1 e2
  generalize lwT (mA a b p q) (mA c d p q) = p1 at *
  generalize lwB (mA a b p q) (mA c d p q) = q1 at *
  unfold mA at e1 e2
  have zp : z * (d * p1 - b * q1) = p := by
    have : d * (a * p + b * q) - b * (c * p + d * q) = (a * d - b * c) * p := by grind
    rw [dt, e1, e2] at this
    grind
  have zq : z * (a * q1 - c * p1) = q := by
    have : a * (c * p + d * q) - c * (a * p + b * q) = (a * d - b * c) * q := by grind
    rw [dt, e1, e2] at this
    grind
  have z1 : z * ((d * p1 - b * q1) * A + (a * q1 - c * p1) * B) = 1 := by
    rw [Int.mul_add, ← Int.mul_assoc, ← Int.mul_assoc, zp, zq]; grind
  have zz : z = 1 ∨ z = -1 := by
    have h := congrArg Int.natAbs z1
    rw [Int.natAbs_mul] at h
    have := Nat.eq_one_of_mul_eq_one_right h
    omega
  have zs : z * z = 1 := by rcases zz with rfl | rfl <;> rfl
  -- the column beside the led fraction
  have d1 : p1 * (z * (c * (-B) + d * A)) - (z * (a * (-B) + b * A)) * q1 = 1 := by
    have : (a * p + b * q) * (c * (-B) + d * A) - (a * (-B) + b * A) * (c * p + d * q) = (a * d - b * c) * (p * A - (-B) * q) := by grind
    rw [dt, dx, e1, e2] at this
    grind
  refine (class_iff hL dx d1).mp ?_
  have e : q1 * A - z * (c * (-B) + d * A) * q = z * c := by
    have : (c * p + d * q) * A - (c * (-B) + d * A) * q = c * (p * A - (-B) * q) := by grind
    rw [dx, e2] at this
    have h2 : z * (z * q1 * A - (c * (-B) + d * A) * q) = z * (c * 1) := by rw [this]
    have h3 : z * (z * q1 * A - (c * (-B) + d * A) * q) = (z * z) * q1 * A - z * (c * (-B) + d * A) * q := by grind
    rw [h3, zs] at h2
    grind
  rw [e]
  exact Int.dvd_trans (Int.gcd_dvd_right _ _) (dvR hc)
theorem rim_of_ok {L p q x : Int} {h : Ph} (hL : 1 ≤ L) (hL2 : L ≤ 100) (f : Fs p q) (e : f_rim_in [.int L, T2 p q] h = .ok (T2 x (rP L q)) h) : f_rim_of [.int L, T2 p q] h = .ok (T2 x (rP L q)) h := by
  have e1 := require_level_ok (h := h) hL hL2
  have e2 := require_fraction_ok (h := h) f
  unfold f_rim_of; simp (maxSteps := 4000000) (dsimp := false) (disch := first | assumption | decide | omega | walk_at "cm") only [runDef_ap, sVar_ap, sC_ap, sBin_ap, sNeg_ap, sAnd_ap, sOr_ap, sNot_ap, sIf_ap, sTst_ap, qAnd_ap, qOr_ap, qNot_ap, qYes_ap, sChain_ap, sChain3_ap, sNil_ap, sCons_ap, sTup_ap, sLst_ap, sLstM_ap, sCall_ap, g1_ap, g2_ap, sFn_ap, sAsg_ap, gNm_ap, gTp_ap, gConsS_ap, gNilS_ap, sPar_ap, sPar3_ap, sRet_ap, sRetN_ap, sNx_ap, sBrk_ap, sCnt_ap, sSeq_ap, sIte_ap, sDrop_ap, sFrz_ap, sAug_ap, iRange1_ap, iRange2_ap, iSeq_ap, sFor_ap, sLc_ap, R.toG_ok, ↓R.bind_bnd, bnd_ok, ↓R.bd_bdn, bdn_ok, ↓R.toF_tof, tof_ok, ↓F.seq_sqn, sqn_nx, sqn_ret, sqn_cnt, sqn_brk, ↓F.turn_trn, trn_nx, trn_ret, trn_cnt, trn_brk, F.end_nx, F.end_ret, ↓br_true, br_true, ↓br_false, br_false, Dbr, Dneg, Dtst, opt_some, dAdd_int, dIAdd_int, dSub_int, dLt_int, dLe_int, dGt_int, dGe_int, dEq_int, dNe_int, dEq_bl, dNe_bl, dMul_cm, dMod_pos, dDiv_pos, dAbs_int, dMax2_int, dMin2_int, dInt_int, dInt_bl, dIx_tup, dIx_lst, dIx_seq, dLen_tup, dLen_lst, dLen_seq, atI_0, atI_1, atI_2, atI_3, List.map_cons, List.map_nil, List.length_cons, List.length_nil, List.replicate_succ, List.replicate_zero, List.cons_append, List.nil_append, List.getElem?_cons_zero, List.getElem?_cons_succ, List.set_cons_zero, List.set_cons_succ, Nat.reduceAdd, Nat.reduceSub, Nat.zero_add, Nat.add_zero, Nat.sub_self, Nat.reduceMul, mostL_def, Nat.reduceLeDiff, Nat.reduceLT, ite_true, ite_false, if_true, if_false, ↓reduceIte, reduceIte, ↓br_ite, Bool.false_eq_true, reduceCtorEq, Bool.not_true, Bool.not_false, decide_true, decide_false, Int.cast_ofNat_Int, Int.reduceBEq, Int.reduceAdd, Int.reduceSub, Int.reduceMul, Int.reduceNeg, Int.reduceLT, Int.reduceLE, Int.reduceMod, Int.reduceDiv, sMeth1_ap, sSl_ap, sRev_ap, oNo_ap, oPart_ap, sDict0_ap, sSetL_ap, sLc2_ap, sStar_ap, e1, e2, e]
theorem dNe_T2 {a b p q : Int} {h : Ph} : dNe (T2 a b) (T2 p q) h = .ok (.bl (!(a == p && (b == q && true)))) h := rfl
theorem right_ok {n : Nat} {h : Ph} (hd : Dc h n) : ∃ h', m__law_right [.ref n] h = .ok (.bl true) h' ∧ Dr n h h' := by
  obtain ⟨L, h1, e1, L1, L2, d1⟩ := level_drawn_ok (T := 60) hd (by decide) (by decide)
  have L3 : L ≤ 100 := by omega
  obtain ⟨p, q, h2, e2, r, sp, sq, d2⟩ := fraction_drawn_k (T := 40) (j := 6) d1.dc (by decide) (by decide) (by decide) (by decide) (by decide)
  obtain ⟨a, b, c, d, h3, e3, m, hc, d3⟩ := matrix_drawn14 (L := L) (T := 4) d2.dc L1 L3 (by decide) (by decide)
  have hn : mA a b p q ≠ 0 ∨ mA c d p q ≠ 0 := led_ne (by have := m.det; omega) r.ne
  have m2 : ∀ {k x}, Sm k x → k ≤ 199 → Sm 199 x := fun s h => s.mono h
  have e4 := law_led_ok (h := h3) (m.sp.mono (by decide)) (m.sq.mono (by decide)) (m.sr.mono (by decide)) (m.ss.mono (by decide)) (sp.mono (by decide)) (sq.mono (by decide)) hn
  have s28 := fun {x} (s : Sm 6 x) => s.mono (by decide : 6 ≤ 28)
  have f := Fs.of_sm r (s28 sp) (s28 sq)
  have e5 := led_fraction_ok (h := h3) (m.sp.mono (by decide)) (m.sq.mono (by decide)) (m.sr.mono (by decide)) (m.ss.mono (by decide)) (by have := m.det; omega) f
  have cl := class_led L1 r m.det hc
  have r1 := (lw_ok hn).1
  obtain ⟨t1, t2⟩ := lw_sm hn (Sm.lin (m := 20) m.sp sp m.sq sq (by decide) (by decide)) (Sm.lin (m := 20) m.sr sp m.ss sq (by decide) (by decide))
  have e6 := is_rim_paper_ok (h := h3) (p' := lwT (mA a b p q) (mA c d p q)) (q' := lwB (mA a b p q) (mA c d p q)) L1 L3 f (Fs.of_sm r1 (t1.mono (by decide)) (t2.mono (by decide))) r.ne (m.sp.mono (by decide)) (m.sq.mono (by decide)) (m.sr.mono (by decide)) (m.ss.mono (by decide))
  have e7 : sayT L p q (lwT (mA a b p q) (mA c d p q)) (lwB (mA a b p q) (mA c d p q)) a b c d = true := by
    unfold sayT
    simp only [Bool.and_eq_true, beq_iff_eq]
    exact ⟨⟨m.det, Int.emod_eq_zero_of_dvd hc⟩, trivial, trivial, trivial⟩
  rw [e7] at e6
  generalize lwT (mA a b p q) (mA c d p q) = p1 at *
  generalize lwB (mA a b p q) (mA c d p q) = q1 at *
  have t1 := t1.mono (by decide : 20 + 1 ≤ 28)
  have t2 := t2.mono (by decide : 20 + 1 ≤ 28)
  have w : Two L p q p1 q1 := ⟨L1, L3, r, r1, f, Fs.of_sm r1 t1 t2, s28 sp, s28 sq, t1, t2⟩
  obtain ⟨x, i1, rx⟩ := rim_in_ok (h := h3) L1 L3 r (by decide : 28 ≤ 500) w.sp w.sq
  obtain ⟨x', i2, rx'⟩ := rim_in_ok (h := h3) L1 L3 r1 (by decide : 28 ≤ 500) t1 t2
  have i3 := rim_of_ok L1 L3 f i1
  have i4 := rim_of_ok L1 L3 w.f' i2
  obtain ⟨y1, y2⟩ := (rim_same rx rx').mpr cl
  obtain ⟨h4, e8, d4⟩ := pair_right_ok w d3.dc
  obtain ⟨v1, h5, e9, _, _, d5⟩ := roll_ok (T := 9) d4.dc (by decide) (by decide)
  obtain ⟨v2, h6, e10, _, _, d6⟩ := roll_ok (T := 9) d5.dc (by decide) (by decide)
  obtain ⟨v3, h7, e11, _, _, d7⟩ := roll_ok (T := 9) d6.dc (by decide) (by decide)
  obtain ⟨p2, q2, h8, e12, r2, sp2, sq2, d8⟩ := fraction_drawn_k (T := 12) (j := 6) d7.dc (by decide) (by decide) (by decide) (by decide) (by decide)
  have f2 := Fs.of_sm r2 (s28 sp2) (s28 sq2)
  have w1 : Two L p q p2 q2 := ⟨L1, L3, r, r2, f, f2, s28 sp, s28 sq, s28 sp2, s28 sq2⟩
  have w2 : Two L p2 q2 p q := ⟨L1, L3, r2, r, f2, f, s28 sp2, s28 sq2, s28 sp, s28 sq⟩
  obtain ⟨h9, e13, d9⟩ := pair_right_ok w1 d8.dc
  obtain ⟨h10, e14, d10⟩ := pair_right_ok w2 d9.dc
  refine ⟨h10, ?_, ((((((((d1.trans d2).trans d3).trans d4).trans d5).trans d6).trans d7).trans d8).trans d9).trans d10⟩
  have s5 : ∀ z : Int, -5 ≤ z → z < 12 → Sm 4 z := fun z h1 h2 => Sm.of_lt 4 (n := 12) (by omega) (by omega) (by decide)
  have wa := s5 (2 + v1) (by omega) (by omega)
  have wb := s5 (v2 - 4) (by omega) (by omega)
  have wc := s5 (v3 - 4) (by omega) (by omega)
  have wd : Sm 4 0 := ⟨by decide⟩
  have q1' : dNe (T2 p1 q1) (T2 p1 q1) h3 = .ok (.bl false) h3 := by rw [dNe_T2]; simp
  have q2' : dNe (T2 x' (rP L q1)) (T2 x (rP L q)) h3 = .ok (.bl false) h3 := by rw [dNe_T2, y1, y2]; simp
  by_cases hw : (v2 - 4) * (v3 - 4) = 0
  · have hw' : ((v2 - 4) * (v3 - 4) == 0) = true := beq_iff_eq.mpr hw
    unfold m__law_right
    simp (maxSteps := 4000000) (dsimp := false) (disch := first | assumption | decide | omega | walk_at "cm") only [runDef_ap, sVar_ap, sC_ap, sBin_ap, sNeg_ap, sAnd_ap, sOr_ap, sNot_ap, sIf_ap, sTst_ap, qAnd_ap, qOr_ap, qNot_ap, qYes_ap, sChain_ap, sChain3_ap, sNil_ap, sCons_ap, sTup_ap, sLst_ap, sLstM_ap, sCall_ap, g1_ap, g2_ap, sFn_ap, sAsg_ap, gNm_ap, gTp_ap, gConsS_ap, gNilS_ap, sPar_ap, sPar3_ap, sRet_ap, sRetN_ap, sNx_ap, sBrk_ap, sCnt_ap, sSeq_ap, sIte_ap, sDrop_ap, sFrz_ap, sAug_ap, iRange1_ap, iRange2_ap, iSeq_ap, sFor_ap, sLc_ap, R.toG_ok, ↓R.bind_bnd, bnd_ok, ↓R.bd_bdn, bdn_ok, ↓R.toF_tof, tof_ok, ↓F.seq_sqn, sqn_nx, sqn_ret, sqn_cnt, sqn_brk, ↓F.turn_trn, trn_nx, trn_ret, trn_cnt, trn_brk, F.end_nx, F.end_ret, ↓br_true, br_true, ↓br_false, br_false, Dbr, Dneg, Dtst, opt_some, dAdd_int, dIAdd_int, dSub_int, dLt_int, dLe_int, dGt_int, dGe_int, dEq_int, dNe_int, dEq_bl, dNe_bl, dMul_cm, dMod_pos, dDiv_pos, dAbs_int, dMax2_int, dMin2_int, dInt_int, dInt_bl, dIx_tup, dIx_lst, dIx_seq, dLen_tup, dLen_lst, dLen_seq, atI_0, atI_1, atI_2, atI_3, List.map_cons, List.map_nil, List.length_cons, List.length_nil, List.replicate_succ, List.replicate_zero, List.cons_append, List.nil_append, List.getElem?_cons_zero, List.getElem?_cons_succ, List.set_cons_zero, List.set_cons_succ, Nat.reduceAdd, Nat.reduceSub, Nat.zero_add, Nat.add_zero, Nat.sub_self, Nat.reduceMul, mostL_def, Nat.reduceLeDiff, Nat.reduceLT, ite_true, ite_false, if_true, if_false, ↓reduceIte, reduceIte, ↓br_ite, Bool.false_eq_true, reduceCtorEq, Bool.not_true, Bool.not_false, decide_true, decide_false, Int.cast_ofNat_Int, Int.reduceBEq, Int.reduceAdd, Int.reduceSub, Int.reduceMul, Int.reduceNeg, Int.reduceLT, Int.reduceLE, Int.reduceMod, Int.reduceDiv, sMeth1_ap, sSl_ap, sRev_ap, oNo_ap, oPart_ap, sDict0_ap, sSetL_ap, sLc2_ap, sStar_ap, e1, e2, e3, e4, e5, q1', i3, i4, q2', e6, e8, e9, e10, e11, hw', e12, e13, e14]
  · have hw' : ((v2 - 4) * (v3 - 4) == 0) = false := beq_false_of_ne hw
    have hdet : (2 + v1) * 0 - (v2 - 4) * (v3 - 4) ≠ 0 := by omega
    have e15 := led_fraction_ok (h := h7) (wa.mono (by decide)) (wb.mono (by decide)) (wc.mono (by decide)) (wd.mono (by decide)) hdet f
    have e16 := law_led_ok (h := h7) (wa.mono (by decide)) (wb.mono (by decide)) (wc.mono (by decide)) (wd.mono (by decide)) (sp.mono (by decide)) (sq.mono (by decide)) (led_ne hdet r.ne)
    have q3' : ∀ u v, dNe (T2 u v) (T2 u v) h7 = .ok (.bl false) h7 := fun u v => by rw [dNe_T2]; simp
    unfold m__law_right
    simp (maxSteps := 4000000) (dsimp := false) (disch := first | assumption | decide | omega | walk_at "cm") only [runDef_ap, sVar_ap, sC_ap, sBin_ap, sNeg_ap, sAnd_ap, sOr_ap, sNot_ap, sIf_ap, sTst_ap, qAnd_ap, qOr_ap, qNot_ap, qYes_ap, sChain_ap, sChain3_ap, sNil_ap, sCons_ap, sTup_ap, sLst_ap, sLstM_ap, sCall_ap, g1_ap, g2_ap, sFn_ap, sAsg_ap, gNm_ap, gTp_ap, gConsS_ap, gNilS_ap, sPar_ap, sPar3_ap, sRet_ap, sRetN_ap, sNx_ap, sBrk_ap, sCnt_ap, sSeq_ap, sIte_ap, sDrop_ap, sFrz_ap, sAug_ap, iRange1_ap, iRange2_ap, iSeq_ap, sFor_ap, sLc_ap, R.toG_ok, ↓R.bind_bnd, bnd_ok, ↓R.bd_bdn, bdn_ok, ↓R.toF_tof, tof_ok, ↓F.seq_sqn, sqn_nx, sqn_ret, sqn_cnt, sqn_brk, ↓F.turn_trn, trn_nx, trn_ret, trn_cnt, trn_brk, F.end_nx, F.end_ret, ↓br_true, br_true, ↓br_false, br_false, Dbr, Dneg, Dtst, opt_some, dAdd_int, dIAdd_int, dSub_int, dLt_int, dLe_int, dGt_int, dGe_int, dEq_int, dNe_int, dEq_bl, dNe_bl, dMul_cm, dMod_pos, dDiv_pos, dAbs_int, dMax2_int, dMin2_int, dInt_int, dInt_bl, dIx_tup, dIx_lst, dIx_seq, dLen_tup, dLen_lst, dLen_seq, atI_0, atI_1, atI_2, atI_3, List.map_cons, List.map_nil, List.length_cons, List.length_nil, List.replicate_succ, List.replicate_zero, List.cons_append, List.nil_append, List.getElem?_cons_zero, List.getElem?_cons_succ, List.set_cons_zero, List.set_cons_succ, Nat.reduceAdd, Nat.reduceSub, Nat.zero_add, Nat.add_zero, Nat.sub_self, Nat.reduceMul, mostL_def, Nat.reduceLeDiff, Nat.reduceLT, ite_true, ite_false, if_true, if_false, ↓reduceIte, reduceIte, ↓br_ite, Bool.false_eq_true, reduceCtorEq, Bool.not_true, Bool.not_false, decide_true, decide_false, Int.cast_ofNat_Int, Int.reduceBEq, Int.reduceAdd, Int.reduceSub, Int.reduceMul, Int.reduceNeg, Int.reduceLT, Int.reduceLE, Int.reduceMod, Int.reduceDiv, sMeth1_ap, sSl_ap, sRev_ap, oNo_ap, oPart_ap, sDict0_ap, sSetL_ap, sLc2_ap, sStar_ap, e1, e2, e3, e4, e5, q1', i3, i4, q2', e6, e8, e9, e10, e11, hw', e12, e13, e14, e15, e16, q3']
/-- one round of the law -/
theorem spot_ok {ns : List Int} {h : Ph} {k : Nat} {o3 : Option D} : ∃ o3' h', l_law_1 [some (.seq (ns.map D.int)), some (.int k), none, o3] h = .nx [some (.seq (ns.map D.int)), some (.int k), none, o3'] h' := by
  obtain ⟨l, m, e1⟩ := dice_ok ns k (by omega) h
  have hd : Dc (h ++ [.lst [.int l, .int m, .int 0]]) h.length := ⟨l, m, 0, by simp⟩
  generalize h ++ [.lst [.int l, .int m, .int 0]] = h1 at e1 hd
  obtain ⟨h2, e2, d2⟩ := right_ok hd
  obtain ⟨h3, e3, d3⟩ := right_ok d2.dc
  refine ⟨some (.ref h.length), h3, ?_⟩
  unfold l_law_1
  simp (maxSteps := 4000000) (dsimp := false) (disch := first | assumption | decide | omega | walk_at "cm") only [runDef_ap, sVar_ap, sC_ap, sBin_ap, sNeg_ap, sAnd_ap, sOr_ap, sNot_ap, sIf_ap, sTst_ap, qAnd_ap, qOr_ap, qNot_ap, qYes_ap, sChain_ap, sChain3_ap, sNil_ap, sCons_ap, sTup_ap, sLst_ap, sLstM_ap, sCall_ap, g1_ap, g2_ap, sFn_ap, sAsg_ap, gNm_ap, gTp_ap, gConsS_ap, gNilS_ap, sPar_ap, sPar3_ap, sRet_ap, sRetN_ap, sNx_ap, sBrk_ap, sCnt_ap, sSeq_ap, sIte_ap, sDrop_ap, sFrz_ap, sAug_ap, iRange1_ap, iRange2_ap, iSeq_ap, sFor_ap, sLc_ap, R.toG_ok, ↓R.bind_bnd, bnd_ok, ↓R.bd_bdn, bdn_ok, ↓R.toF_tof, tof_ok, ↓F.seq_sqn, sqn_nx, sqn_ret, sqn_cnt, sqn_brk, ↓F.turn_trn, trn_nx, trn_ret, trn_cnt, trn_brk, F.end_nx, F.end_ret, ↓br_true, br_true, ↓br_false, br_false, Dbr, Dneg, Dtst, opt_some, dAdd_int, dIAdd_int, dSub_int, dLt_int, dLe_int, dGt_int, dGe_int, dEq_int, dNe_int, dEq_bl, dNe_bl, dMul_cm, dMod_pos, dDiv_pos, dAbs_int, dMax2_int, dMin2_int, dInt_int, dInt_bl, dIx_tup, dIx_lst, dIx_seq, dLen_tup, dLen_lst, dLen_seq, atI_0, atI_1, atI_2, atI_3, List.map_cons, List.map_nil, List.length_cons, List.length_nil, List.replicate_succ, List.replicate_zero, List.cons_append, List.nil_append, List.getElem?_cons_zero, List.getElem?_cons_succ, List.set_cons_zero, List.set_cons_succ, Nat.reduceAdd, Nat.reduceSub, Nat.zero_add, Nat.add_zero, Nat.sub_self, Nat.reduceMul, mostL_def, Nat.reduceLeDiff, Nat.reduceLT, ite_true, ite_false, if_true, if_false, ↓reduceIte, reduceIte, ↓br_ite, Bool.false_eq_true, reduceCtorEq, Bool.not_true, Bool.not_false, decide_true, decide_false, Int.cast_ofNat_Int, Int.reduceBEq, Int.reduceAdd, Int.reduceSub, Int.reduceMul, Int.reduceNeg, Int.reduceLT, Int.reduceLE, Int.reduceMod, Int.reduceDiv, sMeth1_ap, sSl_ap, sRev_ap, oNo_ap, oPart_ap, sDict0_ap, sSetL_ap, sLc2_ap, sStar_ap, e1, e2, e3]
theorem left : Left := by
  intro ns hl
  obtain ⟨e', h', q1, q2⟩ := forGo_inv (g := gNm 1) (f := l_law_1) (fun j e h' => ∃ o1 o3, e = [some (.seq (ns.map D.int)), o1, none, o3]) (rangeD 0 (if (if (ns.length : Int) < 3 then (ns.length : Int) else 3) > 1 then (if (ns.length : Int) < 3 then (ns.length : Int) else 3) else 1).toNat) 0 [some (.seq (ns.map D.int)), none, none, none] [] ⟨_, _, rfl⟩
    (fun x hx j e h2 _ _ ⟨o1, o3, he⟩ => by
      subst he
      obtain ⟨k, _, rfl⟩ := rangeD_mem hx
      obtain ⟨o3', h3, s1⟩ := spot_ok (ns := ns) (h := h2) (k := k) (o3 := o3)
      exact ⟨_, _, _, _, rfl, by rw [Int.zero_add]; exact s1, _, _, rfl⟩)
  obtain ⟨o1, o3, he⟩ := q2
  subst he
  refine ⟨h', ?_⟩
  have a1 : f_are_same_rim [.int 9, T2 1 6, T2 2 3] h' = .ok (.bl true) h' := by kernel_rfl
  have a2 : m_is_rim_paper [.int 9, T2 1 6, T2 2 3, T4 8 (-1) 9 (-1)] h' = .ok (.bl true) h' := by kernel_rfl
  have a3 : f_led_fraction [T4 8 (-1) 9 (-1), T2 1 6] h' = .ok (T2 2 3) h' := by kernel_rfl
  have a4 : f_led_fraction [T4 2 0 0 1, T2 1 4] h' = .ok (T2 1 2) h' := by kernel_rfl
  have a5 : f_led_fraction [T4 0 (-1) 11 0, T2 0 1] h' = .ok (T2 1 0) h' := by kernel_rfl
  have a6 : m_rim_paper [.int 9, T2 1 3, T2 2 3] h' = .ok .non h' := by kernel_rfl
  have a7 : dEq (.lst [T2 2 3, T2 1 2, T2 1 0]) (.lst [T2 2 3, T2 1 2, T2 1 0]) h' = .ok (.bl true) h' := rfl
  have a8 : dIs .non .non h' = .ok (.bl true) h' := rfl
  unfold m_law
  simp (maxSteps := 4000000) (dsimp := false) (disch := first | assumption | decide | omega | walk_at "cm") only [runDef_ap, sVar_ap, sC_ap, sBin_ap, sNeg_ap, sAnd_ap, sOr_ap, sNot_ap, sIf_ap, sTst_ap, qAnd_ap, qOr_ap, qNot_ap, qYes_ap, sChain_ap, sChain3_ap, sNil_ap, sCons_ap, sTup_ap, sLst_ap, sLstM_ap, sCall_ap, g1_ap, g2_ap, sFn_ap, sAsg_ap, gNm_ap, gTp_ap, gConsS_ap, gNilS_ap, sPar_ap, sPar3_ap, sRet_ap, sRetN_ap, sNx_ap, sBrk_ap, sCnt_ap, sSeq_ap, sIte_ap, sDrop_ap, sFrz_ap, sAug_ap, iRange1_ap, iRange2_ap, iSeq_ap, sFor_ap, sLc_ap, R.toG_ok, ↓R.bind_bnd, bnd_ok, ↓R.bd_bdn, bdn_ok, ↓R.toF_tof, tof_ok, ↓F.seq_sqn, sqn_nx, sqn_ret, sqn_cnt, sqn_brk, ↓F.turn_trn, trn_nx, trn_ret, trn_cnt, trn_brk, F.end_nx, F.end_ret, ↓br_true, br_true, ↓br_false, br_false, Dbr, Dneg, Dtst, opt_some, dAdd_int, dIAdd_int, dSub_int, dLt_int, dLe_int, dGt_int, dGe_int, dEq_int, dNe_int, dEq_bl, dNe_bl, dMul_cm, dMod_pos, dDiv_pos, dAbs_int, dMax2_int, dMin2_int, dInt_int, dInt_bl, dIx_tup, dIx_lst, dIx_seq, dLen_tup, dLen_lst, dLen_seq, atI_0, atI_1, atI_2, atI_3, List.map_cons, List.map_nil, List.length_cons, List.length_nil, List.replicate_succ, List.replicate_zero, List.cons_append, List.nil_append, List.getElem?_cons_zero, List.getElem?_cons_succ, List.set_cons_zero, List.set_cons_succ, Nat.reduceAdd, Nat.reduceSub, Nat.zero_add, Nat.add_zero, Nat.sub_self, Nat.reduceMul, mostL_def, Nat.reduceLeDiff, Nat.reduceLT, ite_true, ite_false, if_true, if_false, ↓reduceIte, reduceIte, ↓br_ite, Bool.false_eq_true, reduceCtorEq, Bool.not_true, Bool.not_false, decide_true, decide_false, Int.cast_ofNat_Int, Int.reduceBEq, Int.reduceAdd, Int.reduceSub, Int.reduceMul, Int.reduceNeg, Int.reduceLT, Int.reduceLE, Int.reduceMod, Int.reduceDiv, sMeth1_ap, sSl_ap, sRev_ap, oNo_ap, oPart_ap, sDict0_ap, sSetL_ap, sLc2_ap, sStar_ap, List.length_map, rng_ok, q1, a1, a2, a3, a4, a5, a6, a7, a8]
end L14

namespace L14
open PySem L2 Evl Pd
open PyProof.Rows (envOfC)
def top (i : Nat) : Stmt := PySem.Challenge.pw_levelroads_k14_whole_classes_by_matrices.main.body.getD i (.Pass ⟨0, 0, 0, 0⟩)
/-! ### _law_dice -/
abbrev s__law_dice : Stmt := top 36
abbrev n__law_dice : List Str := ["_law_script", "_law_spot", "_law_cell", "_law_left"]
theorem sc__law_dice : FnScope n__law_dice ["_law_script", "_law_spot"] (defScope s__law_dice) := ⟨rfl, rfl, rfl, by decide +kernel, rfl, by decide +kernel, by decide +kernel⟩
theorem d__law_dice {B : Cb} {a : Addr} {fd : FuncData} (F : FunD B.K "_law_dice" "_law_dice" (defArgs s__law_dice) (defBody s__law_dice) (defScope s__law_dice) [] [] a fd) (hm : B.mg "_law_dice" = some (.ref a)) (z_len : B.mg "len" = none) (z_int : B.mg "int" = none) (z_max : B.mg "max" = none) (z_abs : B.mg "abs" = none) : Def B 1 "_law_dice" 2 f__law_dice :=
  Def.mk' (N := n__law_dice) (ps := ["_law_script", "_law_spot"]) F hm sc__law_dice (fun _ _ _ _ _ _ us hl => match us, hl with | [_, _], _ => rfl) (fun cdv A outer s H E hr =>
    (bi_cons (si_set 2 sc__law_dice.nd rfl (fun _ => .inl rfl) (fun _ => .inr rfl) (ei_ifExp (ti_cmp (fun _ => op_ltAll hr.units0) oi_lt (nomark _) (ei_var 1) (ei_callB (fun _ => call_lenA) ci_len (fun _ => rfl) z_len (by decide +kernel) (ai_cons (ei_var 0) ai_nil))) (ei_callTy (fun _ => call_int1) ci_int (fun _ => rfl) z_int (by decide +kernel) (ai_cons (ei_ix (ei_var 0) (ei_var 1) (fun _ _ => rfl)) ai_nil)) (ei_bin (fun _ => op_addAll) oi_add (ei_bin (fun _ => op_mulAll) oi_mul ei_int (ei_var 1)) ei_int))) (bi_cons (si_set 3 sc__law_dice.nd rfl (fun _ => .inl rfl) (fun _ => .inr rfl) (ei_bin (fun _ => op_modN) oi_mod (ei_callB (fun _ => (call_max2 rfl)) ci_max2 (fun _ => rfl) z_max (by decide +kernel) (ai_cons ei_int (ai_cons (ei_bin (fun _ => op_sub) oi_sub (ei_callB (fun _ => call_abs) ci_abs (fun _ => rfl) z_abs (by decide +kernel) (ai_cons (ei_var 2) ai_nil)) (ei_fold (f := sBin dPow (sC (.int 10)) (sC (.int 17))) (ei_bin (fun _ => op_pow) oi_pow ei_int ei_int) (by kernel_rfl))) ai_nil))) (ei_fold (f := sBin dMul (sC (.int (100000000000000000000000000000000000000000000000000000000000))) (sC (.int (1000000000000000000000000000000000000000000000000000000000000)))) (ei_bin (fun _ => op_mulAll) oi_mul (ei_fold (f := sBin dPow (sC (.int 10)) (sC (.int 59))) (ei_bin (fun _ => op_pow) oi_pow ei_int ei_int) (by kernel_rfl)) (ei_fold (f := sBin dPow (sC (.int 10)) (sC (.int 60))) (ei_bin (fun _ => op_pow) oi_pow ei_int ei_int) (by kernel_rfl))) (by kernel_rfl)))) (bi_one (si_ret (ei_lstM (ai_cons (ei_var 3) (ai_cons (ei_bin (fun _ => op_addAll) oi_add (ei_bin (fun _ => op_addAll) oi_add (ei_bin (fun _ => op_addAll) oi_add (ei_bin (fun _ => op_mulAll) oi_mul (ei_bin (fun _ => op_modN) oi_mod (ei_callB (fun _ => call_abs) ci_abs (fun _ => rfl) z_abs (by decide +kernel) (ai_cons (ei_var 2) ai_nil)) ei_int) ei_int) (ei_bin (fun _ => op_mulAll) oi_mul ei_int (ei_var 1))) (ei_bin (fun _ => op_mulAll) oi_mul ei_int (ei_callTy (fun _ => call_int1) ci_int (fun _ => rfl) z_int (by decide +kernel) (ai_cons (ei_cmp (fun _ => op_ltAll hr.units0) oi_lt (nomark _) (ei_var 2) ei_int) ai_nil)))) ei_int) (ai_cons ei_int ai_nil)))))))))
/-! ### _law_roll -/
abbrev s__law_roll : Stmt := top 37
abbrev n__law_roll : List Str := ["_law_dice_here", "_law_total", "_law_one", "_law_two", "_law_found"]
theorem sc__law_roll : FnScope n__law_roll ["_law_dice_here", "_law_total"] (defScope s__law_roll) := ⟨rfl, rfl, rfl, by decide +kernel, rfl, by decide +kernel, by decide +kernel⟩
theorem d__law_roll {B : Cb} {a : Addr} {fd : FuncData} (F : FunD B.K "_law_roll" "_law_roll" (defArgs s__law_roll) (defBody s__law_roll) (defScope s__law_roll) [] [] a fd) (hm : B.mg "_law_roll" = some (.ref a)) (z_int : B.mg "int" = none) : Def B 1 "_law_roll" 2 f__law_roll :=
  Def.mk' (N := n__law_roll) (ps := ["_law_dice_here", "_law_total"]) F hm sc__law_roll (fun _ _ _ _ _ _ us hl => match us, hl with | [_, _], _ => rfl) (fun cdv A outer s H E hr =>
    (bi_cons (si_if (ti_cmp (fun _ => op_gt) oi_gt (nomark _) (ei_ix (ei_var 0) ei_int (fun _ _ => rfl)) ei_int) (bi_cons (si_set 4 sc__law_roll.nd rfl (fun _ => .inl rfl) (fun _ => .inr rfl) (ei_bin (fun _ => op_modN) oi_mod (ei_callTy (fun _ => call_int1) ci_int (fun _ => rfl) z_int (by decide +kernel) (ai_cons (ei_ix (ei_var 0) ei_int (fun _ _ => rfl)) ai_nil)) (ei_var 1))) (bi_cons (si_setL (ei_bin (fun _ => op_divAll) oi_div (ei_ix (ei_var 0) ei_int (fun _ _ => rfl)) (ei_var 1)) (ei_var 0) ei_int) (bi_one (si_ret (ei_var 4))))) bi_nil) (bi_cons (si_setL (ei_bin (fun _ => op_addAll) oi_add (ei_ix (ei_var 0) ei_int (fun _ _ => rfl)) ei_int) (ei_var 0) ei_int) (bi_cons (si_set 2 sc__law_roll.nd rfl (fun _ => .inl rfl) (fun _ => .inr rfl) (ei_bin (fun _ => op_modN) oi_mod (ei_callTy (fun _ => call_int1) ci_int (fun _ => rfl) z_int (by decide +kernel) (ai_cons (ei_bin (fun _ => op_addAll) oi_add (ei_ix (ei_var 0) ei_int (fun _ _ => rfl)) (ei_bin (fun _ => op_mulAll) oi_mul ei_int (ei_ix (ei_var 0) ei_int (fun _ _ => rfl)))) ai_nil)) ei_int)) (bi_cons (si_set 3 sc__law_roll.nd rfl (fun _ => .inl rfl) (fun _ => .inr rfl) (ei_bin (fun _ => op_addAll) oi_add (ei_bin (fun _ => op_mulAll) oi_mul (ei_bin (fun _ => op_modN) oi_mod (ei_callTy (fun _ => call_int1) ci_int (fun _ => rfl) z_int (by decide +kernel) (ai_cons (ei_bin (fun _ => op_addAll) oi_add (ei_bin (fun _ => op_mulAll) oi_mul (ei_var 2) (ei_var 2)) (ei_bin (fun _ => op_mulAll) oi_mul ei_int (ei_ix (ei_var 0) ei_int (fun _ _ => rfl)))) ai_nil)) ei_int) ei_int) (ei_var 2))) (bi_one (si_ret (ei_bin (fun _ => op_modN) oi_mod (ei_callTy (fun _ => call_int1) ci_int (fun _ => rfl) z_int (by decide +kernel) (ai_cons (ei_bin (fun _ => op_divAll) oi_div (ei_var 3) ei_int) ai_nil)) (ei_var 1)))))))))
/-! ### _law_pick -/
abbrev s__law_pick : Stmt := top 38
abbrev n__law_pick : List Str := ["_law_dice_here", "_law_items"]
theorem sc__law_pick : FnScope n__law_pick ["_law_dice_here", "_law_items"] (defScope s__law_pick) := ⟨rfl, rfl, rfl, by decide +kernel, rfl, by decide +kernel, by decide +kernel⟩
theorem d__law_pick {B : Cb} {a : Addr} {fd : FuncData} (F : FunD B.K "_law_pick" "_law_pick" (defArgs s__law_pick) (defBody s__law_pick) (defScope s__law_pick) [] [] a fd) (hm : B.mg "_law_pick" = some (.ref a)) (D__law_roll : Def B 1 "_law_roll" 2 f__law_roll) (z_len : B.mg "len" = none) : Def B 2 "_law_pick" 2 f__law_pick :=
  Def.mk' (N := n__law_pick) (ps := ["_law_dice_here", "_law_items"]) F hm sc__law_pick (fun _ _ _ _ _ _ us hl => match us, hl with | [_, _], _ => rfl) (fun cdv A outer s H E hr =>
    (bi_one (si_ret (ei_ix (ei_var 1) (ei_call D__law_roll (fun _ => hr.mono (by decide)) (fun _ => cy_takes) (fun _ => rfl) rfl (ai_cons (ei_var 0) (ai_cons (ei_callB (fun _ => call_lenA) ci_len (fun _ => rfl) z_len (by decide +kernel) (ai_cons (ei_var 1) ai_nil)) ai_nil)) (len_cons (len_cons (fun _ _ _ _ => len_nil)))) (fun _ _ => rfl)))))
/-! ### _law_level_drawn -/
abbrev s__law_level_drawn : Stmt := top 40
abbrev n__law_level_drawn : List Str := ["_law_dice_here", "_law_most", "_law_some", "_law_one"]
theorem sc__law_level_drawn : FnScope n__law_level_drawn ["_law_dice_here", "_law_most"] (defScope s__law_level_drawn) := ⟨rfl, rfl, rfl, by decide +kernel, rfl, by decide +kernel, by decide +kernel⟩
theorem d__law_level_drawn {B : Cb} {a : Addr} {fd : FuncData} (F : FunD B.K "_law_level_drawn" "_law_level_drawn" (defArgs s__law_level_drawn) (defBody s__law_level_drawn) (defScope s__law_level_drawn) [] [] a fd) (hm : B.mg "_law_level_drawn" = some (.ref a)) (D__law_roll : Def B 1 "_law_roll" 2 f__law_roll) (D__law_pick : Def B 2 "_law_pick" 2 f__law_pick) : Def B 3 "_law_level_drawn" 2 f__law_level_drawn :=
  Def.mk' (N := n__law_level_drawn) (ps := ["_law_dice_here", "_law_most"]) F hm sc__law_level_drawn (fun _ _ _ _ _ _ us hl => match us, hl with | [_, _], _ => rfl) (fun cdv A outer s H E hr =>
    (bi_cons (si_set 2 sc__law_level_drawn.nd rfl (fun _ => .inl rfl) (fun _ => .inr rfl) (ei_lst (ai_cons ei_int (ai_cons ei_int (ai_cons ei_int (ai_cons ei_int (ai_cons ei_int (ai_cons ei_int (ai_cons ei_int (ai_cons ei_int (ai_cons ei_int (ai_cons ei_int (ai_cons ei_int (ai_cons ei_int (ai_cons ei_int (ai_cons ei_int (ai_cons ei_int (ai_cons ei_int (ai_cons ei_int (ai_cons ei_int (ai_cons (ei_bin (fun _ => op_addAll) oi_add ei_int (ei_call D__law_roll (fun _ => hr.mono (by decide)) (fun _ => cy_takes) (fun _ => rfl) rfl (ai_cons (ei_var 0) (ai_cons (ei_var 1) ai_nil)) (len_cons (len_cons (fun _ _ _ _ => len_nil))))) ai_nil))))))))))))))))))))) (bi_one (si_ret (ei_call D__law_pick (fun _ => hr.mono (by decide)) (fun _ => cy_takes) (fun _ => rfl) rfl (ai_cons (ei_var 0) (ai_cons (ei_lc (own := [("_law_one", 3)]) (fun _ => rfl) sc__law_level_drawn.nd (ii_seq (ei_var 2)) (fun _ => show blkC n__law_level_drawn (defScope s__law_level_drawn) _ [("_law_one", 3)] = true by decide +kernel) (gi_name 3 sc__law_level_drawn.nd rfl (fun _ => .inl rfl) (fun _ => .inr rfl)) (tsi_one (ti_cmp (fun _ => op_le) oi_le (nomark _) (ei_var 3) (ei_var 1))) (ei_var 3) (by decide)) ai_nil)) (len_cons (len_cons (fun _ _ _ _ => len_nil))))))))
/-! ### _law_gcd -/
abbrev s__law_gcd : Stmt := top 39
abbrev n__law_gcd : List Str := ["_law_one", "_law_other"]
theorem sc__law_gcd : FnScope n__law_gcd ["_law_one", "_law_other"] (defScope s__law_gcd) := ⟨rfl, rfl, rfl, by decide +kernel, rfl, by decide +kernel, by decide +kernel⟩
theorem d__law_gcd {B : Cb} {a : Addr} {fd : FuncData} (F : FunD B.K "_law_gcd" "_law_gcd" (defArgs s__law_gcd) (defBody s__law_gcd) (defScope s__law_gcd) [] [] a fd) (hm : B.mg "_law_gcd" = some (.ref a)) (z_abs : B.mg "abs" = none) (z_int : B.mg "int" = none) : Def B 1 "_law_gcd" 2 f__law_gcd :=
  Def.mk' (N := n__law_gcd) (ps := ["_law_one", "_law_other"]) F hm sc__law_gcd (fun _ _ _ _ _ _ us hl => match us, hl with | [_, _], _ => rfl) (fun cdv A outer s H E hr =>
    (bi_cons (si_par (i := 0) (j := 1) (fun _ => rfl) sc__law_gcd.nd rfl rfl (by decide) (fun _ => rfl) (fun _ => rfl) (ai_cons (ei_callB (fun _ => call_abs) ci_abs (fun _ => rfl) z_abs (by decide +kernel) (ai_cons (ei_var 0) ai_nil)) (ai_cons (ei_callB (fun _ => call_abs) ci_abs (fun _ => rfl) z_abs (by decide +kernel) (ai_cons (ei_var 1) ai_nil)) ai_nil)) (fun _ => rfl)) (bi_cons (si_while FU (fun _ => cy_passes) (ti_cmp (fun _ => op_gt) oi_gt (nomark _) (ei_var 1) ei_int) (bi_one (si_par (i := 0) (j := 1) (fun _ => rfl) sc__law_gcd.nd rfl rfl (by decide) (fun _ => rfl) (fun _ => rfl) (ai_cons (ei_var 1) (ai_cons (ei_bin (fun _ => op_modN) oi_mod (ei_callTy (fun _ => call_int1) ci_int (fun _ => rfl) z_int (by decide +kernel) (ai_cons (ei_var 0) ai_nil)) (ei_var 1)) ai_nil)) (fun _ => rfl)))) (bi_one (si_ret (ei_var 0))))))
/-! ### _law_bezout -/
abbrev s__law_bezout : Stmt := top 46
abbrev n__law_bezout : List Str := ["_law_one", "_law_other", "_law_turn", "_law_here", "_law_there", "_law_left", "_law_right_here", "_law_part", "_law_a", "_law_b"]
theorem sc__law_bezout : FnScope n__law_bezout ["_law_one", "_law_other"] (defScope s__law_bezout) := ⟨rfl, rfl, rfl, by decide +kernel, rfl, by decide +kernel, by decide +kernel⟩
theorem d__law_bezout {B : Cb} {a : Addr} {fd : FuncData} (F : FunD B.K "_law_bezout" "_law_bezout" (defArgs s__law_bezout) (defBody s__law_bezout) (defScope s__law_bezout) [] [] a fd) (hm : B.mg "_law_bezout" = some (.ref a)) (z_range : B.mg "range" = none) (z_tuple : B.mg "tuple" = none) (z_zip : B.mg "zip" = none) : Def B 1 "_law_bezout" 2 f__law_bezout :=
  Def.mk' (N := n__law_bezout) (ps := ["_law_one", "_law_other"]) F hm sc__law_bezout (fun _ _ _ _ _ _ us hl => match us, hl with | [_, _], _ => rfl) (fun cdv A outer s H E hr =>
    (bi_cons (si_asg (ei_tup (ai_cons (ei_tup (ai_cons (ei_var 0) (ai_cons ei_int (ai_cons ei_int ai_nil)))) (ai_cons (ei_tup (ai_cons (ei_var 1) (ai_cons ei_int (ai_cons ei_int ai_nil)))) (ai_cons ei_int (ai_cons ei_int ai_nil))))) (gi_tup (fun _ => rfl) (gis_cons (gi_name 3 sc__law_bezout.nd rfl (fun _ => .inl rfl) (fun _ => .inr rfl)) (gis_cons (gi_name 4 sc__law_bezout.nd rfl (fun _ => .inl rfl) (fun _ => .inr rfl)) (gis_cons (gi_name 5 sc__law_bezout.nd rfl (fun _ => .inl rfl) (fun _ => .inr rfl)) (gis_cons (gi_name 6 sc__law_bezout.nd rfl (fun _ => .inl rfl) (fun _ => .inr rfl)) gis_nil)))))) (bi_cons (si_for (fun _ => cy_passes) (fun _ => rfl) (ii_range1 (fun _ => rfl) z_range (ai_cons ei_int ai_nil)) (gi_name 2 sc__law_bezout.nd rfl (fun _ => .inl rfl) (fun _ => .inr rfl)) (bi_cons (si_if (ti_cmp (fun _ => op_eqD hr.units) oi_eq (nomark _) (ei_ix (ei_var 4) ei_int (fun _ _ => rfl)) ei_int) (bi_one si_break) bi_nil) (bi_cons (si_set 7 sc__law_bezout.nd rfl (fun _ => .inr rfl) (fun _ => .inl rfl) (ei_bin (fun _ => op_divAll) oi_div (ei_ix (ei_var 3) ei_int (fun _ _ => rfl)) (ei_ix (ei_var 4) ei_int (fun _ _ => rfl)))) (bi_one (si_par (i := 3) (j := 4) (fun _ => rfl) sc__law_bezout.nd rfl rfl (by decide) (fun _ => rfl) (fun _ => rfl) (ai_cons (ei_var 4) (ai_cons (ei_callTy (fun _ => call_tuple_of) ci_tuple (fun _ => rfl) z_tuple (by decide +kernel) (ai_cons (ei_lc (own := [("_law_a", 8), ("_law_b", 9)]) (fun _ => rfl) sc__law_bezout.nd (ii_zip (fun _ => rfl) z_zip (ai_cons (ei_var 3) (ai_cons (ei_var 4) ai_nil))) (fun _ => show blkC n__law_bezout (defScope s__law_bezout) _ [("_law_a", 8), ("_law_b", 9)] = true by decide +kernel) (gi_tup (fun _ => rfl) (gis_cons (gi_name 8 sc__law_bezout.nd rfl (fun _ => .inl rfl) (fun _ => .inr rfl)) (gis_cons (gi_name 9 sc__law_bezout.nd rfl (fun _ => .inl rfl) (fun _ => .inr rfl)) gis_nil))) tsi_nil (ei_bin (fun _ => op_sub) oi_sub (ei_var 8) (ei_bin (fun _ => op_mulAll) oi_mul (ei_var 7) (ei_var 9))) (by decide)) ai_nil)) ai_nil)) (fun _ => rfl)))))) (bi_cons (si_par (i := 5) (j := 6) (fun _ => rfl) sc__law_bezout.nd rfl rfl (by decide) (fun _ => rfl) (fun _ => rfl) (ai_cons (ei_bin (fun _ => op_mulAll) oi_mul (ei_ix (ei_var 3) ei_int (fun _ _ => rfl)) (ei_ix (ei_var 3) ei_int (fun _ _ => rfl))) (ai_cons (ei_bin (fun _ => op_mulAll) oi_mul (ei_ix (ei_var 3) ei_int (fun _ _ => rfl)) (ei_ix (ei_var 3) ei_int (fun _ _ => rfl))) ai_nil)) (fun _ => rfl)) (bi_one (si_ret (ei_tup (ai_cons (ei_var 5) (ai_cons (ei_var 6) ai_nil)))))))))
/-! ### _law_matrix_drawn -/
abbrev s__law_matrix_drawn : Stmt := top 47
abbrev n__law_matrix_drawn : List Str := ["_law_dice_here", "_law_level", "_law_most", "_law_c", "_law_d", "_law_m", "_law_x", "_law_y", "_law_one"]
theorem sc__law_matrix_drawn : FnScope n__law_matrix_drawn ["_law_dice_here", "_law_level", "_law_most"] (defScope s__law_matrix_drawn) := ⟨rfl, rfl, rfl, by decide +kernel, rfl, by decide +kernel, by decide +kernel⟩
theorem d__law_matrix_drawn {B : Cb} {a : Addr} {fd : FuncData} (F : FunD B.K "_law_matrix_drawn" "_law_matrix_drawn" (defArgs s__law_matrix_drawn) (defBody s__law_matrix_drawn) (defScope s__law_matrix_drawn) [] [] a fd) (hm : B.mg "_law_matrix_drawn" = some (.ref a)) (D__law_roll : Def B 1 "_law_roll" 2 f__law_roll) (D__law_pick : Def B 2 "_law_pick" 2 f__law_pick) (z_range : B.mg "range" = none) (D__law_gcd : Def B 1 "_law_gcd" 2 f__law_gcd) (D__law_bezout : Def B 1 "_law_bezout" 2 f__law_bezout) : Def B 3 "_law_matrix_drawn" 3 f__law_matrix_drawn :=
  Def.mk' (N := n__law_matrix_drawn) (ps := ["_law_dice_here", "_law_level", "_law_most"]) F hm sc__law_matrix_drawn (fun _ _ _ _ _ _ us hl => match us, hl with | [_, _, _], _ => rfl) (fun cdv A outer s H E hr =>
    (bi_cons (si_set 3 sc__law_matrix_drawn.nd rfl (fun _ => .inr rfl) (fun _ => .inl rfl) (ei_bin (fun _ => op_mulAll) oi_mul (ei_var 1) (ei_bin (fun _ => op_sub) oi_sub (ei_call D__law_roll (fun _ => hr.mono (by decide)) (fun _ => cy_takes) (fun _ => rfl) rfl (ai_cons (ei_var 0) (ai_cons (ei_bin (fun _ => op_addAll) oi_add (ei_bin (fun _ => op_mulAll) oi_mul ei_int (ei_var 2)) ei_int) ai_nil)) (len_cons (len_cons (fun _ _ _ _ => len_nil)))) (ei_var 2)))) (bi_cons (si_set 4 sc__law_matrix_drawn.nd rfl (fun _ => .inl rfl) (fun _ => .inr rfl) (ei_call D__law_pick (fun _ => hr.mono (by decide)) (fun _ => cy_takes) (fun _ => rfl) rfl (ai_cons (ei_var 0) (ai_cons (ei_lc (own := [("_law_one", 8)]) (fun _ => rfl) sc__law_matrix_drawn.nd (ii_range2 (fun _ => rfl) z_range (ai_cons (ei_bin (fun _ => op_sub) oi_sub (ei_bin (fun _ => op_mulAll) oi_mul (ei_fold (f := sNeg (sC (.int 4))) (ei_neg ei_int) (by kernel_rfl)) (ei_var 2)) ei_int) (ai_cons (ei_bin (fun _ => op_addAll) oi_add (ei_bin (fun _ => op_mulAll) oi_mul ei_int (ei_var 2)) ei_int) ai_nil))) (fun _ => show blkC n__law_matrix_drawn (defScope s__law_matrix_drawn) _ [("_law_one", 8)] = true by decide +kernel) (gi_name 8 sc__law_matrix_drawn.nd rfl (fun _ => .inl rfl) (fun _ => .inr rfl)) (tsi_one (ti_cmp (fun _ => op_eqD hr.units) oi_eq (nomark _) (ei_call D__law_gcd (fun _ => hr.mono (by decide)) (fun _ => takes0) (fun _ => rfl) rfl (ai_cons (ei_var 8) (ai_cons (ei_var 3) ai_nil)) (len_cons (len_cons (fun _ _ _ _ => len_nil)))) ei_int)) (ei_var 8) (by decide)) ai_nil)) (len_cons (len_cons (fun _ _ _ _ => len_nil))))) (bi_cons (si_asg (ei_call D__law_bezout (fun _ => hr.mono (by decide)) (fun _ => cy_takes) (fun _ => rfl) rfl (ai_cons (ei_var 4) (ai_cons (ei_var 3) ai_nil)) (len_cons (len_cons (fun _ _ _ _ => len_nil)))) (gi_tup (fun _ => rfl) (gis_cons (gi_name 6 sc__law_matrix_drawn.nd rfl (fun _ => .inl rfl) (fun _ => .inr rfl)) (gis_cons (gi_name 7 sc__law_matrix_drawn.nd rfl (fun _ => .inl rfl) (fun _ => .inr rfl)) gis_nil)))) (bi_cons (si_set 5 sc__law_matrix_drawn.nd rfl (fun _ => .inl rfl) (fun _ => .inr rfl) (ei_bin (fun _ => op_sub) oi_sub (ei_call D__law_roll (fun _ => hr.mono (by decide)) (fun _ => cy_takes) (fun _ => rfl) rfl (ai_cons (ei_var 0) (ai_cons ei_int ai_nil)) (len_cons (len_cons (fun _ _ _ _ => len_nil)))) ei_int)) (bi_one (si_ret (ei_tup (ai_cons (ei_bin (fun _ => op_addAll) oi_add (ei_var 6) (ei_bin (fun _ => op_mulAll) oi_mul (ei_var 5) (ei_var 3))) (ai_cons (ei_bin (fun _ => op_sub) oi_sub (ei_bin (fun _ => op_mulAll) oi_mul (ei_var 5) (ei_var 4)) (ei_var 7)) (ai_cons (ei_var 3) (ai_cons (ei_var 4) ai_nil))))))))))))
/-! ### _law_lowest -/
abbrev s__law_lowest : Stmt := top 41
abbrev n__law_lowest : List Str := ["_law_top", "_law_bottom", "_law_shared", "_law_sign"]
theorem sc__law_lowest : FnScope n__law_lowest ["_law_top", "_law_bottom"] (defScope s__law_lowest) := ⟨rfl, rfl, rfl, by decide +kernel, rfl, by decide +kernel, by decide +kernel⟩
theorem d__law_lowest {B : Cb} {a : Addr} {fd : FuncData} (F : FunD B.K "_law_lowest" "_law_lowest" (defArgs s__law_lowest) (defBody s__law_lowest) (defScope s__law_lowest) [] [] a fd) (hm : B.mg "_law_lowest" = some (.ref a)) (D__law_gcd : Def B 1 "_law_gcd" 2 f__law_gcd) : Def B 2 "_law_lowest" 2 f__law_lowest :=
  Def.mk' (N := n__law_lowest) (ps := ["_law_top", "_law_bottom"]) F hm sc__law_lowest (fun _ _ _ _ _ _ us hl => match us, hl with | [_, _], _ => rfl) (fun cdv A outer s H E hr =>
    (bi_cons (si_set 2 sc__law_lowest.nd rfl (fun _ => .inl rfl) (fun _ => .inr rfl) (ei_call D__law_gcd (fun _ => hr.mono (by decide)) (fun _ => cy_takes) (fun _ => rfl) rfl (ai_cons (ei_var 0) (ai_cons (ei_var 1) ai_nil)) (len_cons (len_cons (fun _ _ _ _ => len_nil))))) (bi_cons (si_set 3 sc__law_lowest.nd rfl (fun _ => .inl rfl) (fun _ => .inr rfl) (ei_ifExp (WI.ti (wi_or (ti_cmp (fun _ => op_ltAll hr.units0) oi_lt (nomark _) (ei_var 1) ei_int) (wi_or1 (WI.ti (wi_and (ti_cmp (fun _ => op_eqD hr.units) oi_eq (nomark _) (ei_var 1) ei_int) (wi_and1 (ti_cmp (fun _ => op_ltAll hr.units0) oi_lt (nomark _) (ei_var 0) ei_int))))))) (ei_fold (f := sNeg (sC (.int 1))) (ei_neg ei_int) (by kernel_rfl)) ei_int)) (bi_one (si_ret (ei_tup (ai_cons (ei_bin (fun _ => op_divAll) oi_div (ei_bin (fun _ => op_mulAll) oi_mul (ei_var 3) (ei_var 0)) (ei_var 2)) (ai_cons (ei_bin (fun _ => op_divAll) oi_div (ei_bin (fun _ => op_mulAll) oi_mul (ei_var 3) (ei_var 1)) (ei_var 2)) ai_nil))))))))
/-! ### _law_fraction_drawn -/
abbrev s__law_fraction_drawn : Stmt := top 42
abbrev n__law_fraction_drawn : List Str := ["_law_dice_here", "_law_most"]
theorem sc__law_fraction_drawn : FnScope n__law_fraction_drawn ["_law_dice_here", "_law_most"] (defScope s__law_fraction_drawn) := ⟨rfl, rfl, rfl, by decide +kernel, rfl, by decide +kernel, by decide +kernel⟩
theorem d__law_fraction_drawn {B : Cb} {a : Addr} {fd : FuncData} (F : FunD B.K "_law_fraction_drawn" "_law_fraction_drawn" (defArgs s__law_fraction_drawn) (defBody s__law_fraction_drawn) (defScope s__law_fraction_drawn) [] [] a fd) (hm : B.mg "_law_fraction_drawn" = some (.ref a)) (D__law_roll : Def B 1 "_law_roll" 2 f__law_roll) (D__law_lowest : Def B 2 "_law_lowest" 2 f__law_lowest) : Def B 3 "_law_fraction_drawn" 2 f__law_fraction_drawn :=
  Def.mk' (N := n__law_fraction_drawn) (ps := ["_law_dice_here", "_law_most"]) F hm sc__law_fraction_drawn (fun _ _ _ _ _ _ us hl => match us, hl with | [_, _], _ => rfl) (fun cdv A outer s H E hr =>
    (bi_cons (si_if (ti_cmp (fun _ => op_eqD hr.units) oi_eq (nomark _) (ei_call D__law_roll (fun _ => hr.mono (by decide)) (fun _ => cy_takes) (fun _ => rfl) rfl (ai_cons (ei_var 0) (ai_cons ei_int ai_nil)) (len_cons (len_cons (fun _ _ _ _ => len_nil)))) ei_int) (bi_one (si_ret (ei_tup (ai_cons ei_int (ai_cons ei_int ai_nil))))) bi_nil) (bi_one (si_ret (ei_call D__law_lowest (fun _ => hr.mono (by decide)) (fun _ => cy_takes) (fun _ => rfl) rfl (ai_cons (ei_bin (fun _ => op_sub) oi_sub (ei_call D__law_roll (fun _ => hr.mono (by decide)) (fun _ => cy_takes) (fun _ => rfl) rfl (ai_cons (ei_var 0) (ai_cons (ei_bin (fun _ => op_addAll) oi_add (ei_bin (fun _ => op_mulAll) oi_mul ei_int (ei_var 1)) ei_int) ai_nil)) (len_cons (len_cons (fun _ _ _ _ => len_nil)))) (ei_var 1)) (ai_cons (ei_bin (fun _ => op_addAll) oi_add ei_int (ei_call D__law_roll (fun _ => hr.mono (by decide)) (fun _ => cy_takes) (fun _ => rfl) rfl (ai_cons (ei_var 0) (ai_cons (ei_var 1) ai_nil)) (len_cons (len_cons (fun _ _ _ _ => len_nil))))) ai_nil)) (len_cons (len_cons (fun _ _ _ _ => len_nil))))))))
/-! ### _law_matrix_led -/
abbrev s__law_matrix_led : Stmt := top 45
abbrev n__law_matrix_led : List Str := ["_law_matrix", "_law_fraction", "_law_a", "_law_b", "_law_c", "_law_d"]
theorem sc__law_matrix_led : FnScope n__law_matrix_led ["_law_matrix", "_law_fraction"] (defScope s__law_matrix_led) := ⟨rfl, rfl, rfl, by decide +kernel, rfl, by decide +kernel, by decide +kernel⟩
theorem d__law_matrix_led {B : Cb} {a : Addr} {fd : FuncData} (F : FunD B.K "_law_matrix_led" "_law_matrix_led" (defArgs s__law_matrix_led) (defBody s__law_matrix_led) (defScope s__law_matrix_led) [] [] a fd) (hm : B.mg "_law_matrix_led" = some (.ref a)) (D__law_lowest : Def B 2 "_law_lowest" 2 f__law_lowest) : Def B 3 "_law_matrix_led" 2 f__law_matrix_led :=
  Def.mk' (N := n__law_matrix_led) (ps := ["_law_matrix", "_law_fraction"]) F hm sc__law_matrix_led (fun _ _ _ _ _ _ us hl => match us, hl with | [_, _], _ => rfl) (fun cdv A outer s H E hr =>
    (bi_cons (si_asg (ei_var 0) (gi_tup (fun _ => rfl) (gis_cons (gi_name 2 sc__law_matrix_led.nd rfl (fun _ => .inl rfl) (fun _ => .inr rfl)) (gis_cons (gi_name 3 sc__law_matrix_led.nd rfl (fun _ => .inl rfl) (fun _ => .inr rfl)) (gis_cons (gi_name 4 sc__law_matrix_led.nd rfl (fun _ => .inl rfl) (fun _ => .inr rfl)) (gis_cons (gi_name 5 sc__law_matrix_led.nd rfl (fun _ => .inl rfl) (fun _ => .inr rfl)) gis_nil)))))) (bi_one (si_ret (ei_call D__law_lowest (fun _ => hr.mono (by decide)) (fun _ => cy_takes) (fun _ => rfl) rfl (ai_cons (ei_bin (fun _ => op_addAll) oi_add (ei_bin (fun _ => op_mulAll) oi_mul (ei_var 2) (ei_ix (ei_var 1) ei_int (fun _ _ => rfl))) (ei_bin (fun _ => op_mulAll) oi_mul (ei_var 3) (ei_ix (ei_var 1) ei_int (fun _ _ => rfl)))) (ai_cons (ei_bin (fun _ => op_addAll) oi_add (ei_bin (fun _ => op_mulAll) oi_mul (ei_var 4) (ei_ix (ei_var 1) ei_int (fun _ _ => rfl))) (ei_bin (fun _ => op_mulAll) oi_mul (ei_var 5) (ei_ix (ei_var 1) ei_int (fun _ _ => rfl)))) ai_nil)) (len_cons (len_cons (fun _ _ _ _ => len_nil))))))))
/-! ### is_whole -/
abbrev s_is_whole : Stmt := top 8
abbrev n_is_whole : List Str := ["value"]
theorem sc_is_whole : FnScope n_is_whole ["value"] (defScope s_is_whole) := ⟨rfl, rfl, rfl, by decide +kernel, rfl, by decide +kernel, by decide +kernel⟩
theorem d_is_whole {B : Cb} {a : Addr} {fd : FuncData} (F : FunD B.K "is_whole" "is_whole" (defArgs s_is_whole) (defBody s_is_whole) (defScope s_is_whole) [] [] a fd) (hm : B.mg "is_whole" = some (.ref a)) (z_isinstance : B.mg "isinstance" = none) (z_bool : B.mg "bool" = none) (z_int : B.mg "int" = none) : Def B 1 "is_whole" 1 f_is_whole :=
  Def.mk' (N := n_is_whole) (ps := ["value"]) F hm sc_is_whole (fun _ _ _ _ _ _ us hl => match us, hl with | [_], _ => rfl) (fun cdv A outer s H E hr =>
    (bi_one (si_ret (ei_and (ei_callB (fun _ => call_isi) ci_isi (fun _ => rfl) z_isinstance (by decide +kernel) (ai_cons (ei_var 0) (ai_cons (ei_ty (fun _ => rfl) z_int (by decide +kernel)) ai_nil))) (ei_one (ei_not (ei_callB (fun _ => call_isi) ci_isi (fun _ => rfl) z_isinstance (by decide +kernel) (ai_cons (ei_var 0) (ai_cons (ei_ty (fun _ => rfl) z_bool (by decide +kernel)) ai_nil)))))))))
/-! ### is_level -/
abbrev s_is_level : Stmt := top 10
abbrev n_is_level : List Str := ["value"]
theorem sc_is_level : FnScope n_is_level ["value"] (defScope s_is_level) := ⟨rfl, rfl, rfl, by decide +kernel, rfl, by decide +kernel, by decide +kernel⟩
theorem d_is_level {B : Cb} {a : Addr} {fd : FuncData} (F : FunD B.K "is_level" "is_level" (defArgs s_is_level) (defBody s_is_level) (defScope s_is_level) [] [] a fd) (hm : B.mg "is_level" = some (.ref a)) (c_MAX_LEVEL : ∃ t, B.mg "MAX_LEVEL" = some (.int (100) t)) (D_is_whole : Def B 1 "is_whole" 1 f_is_whole) : Def B 2 "is_level" 1 f_is_level :=
  Def.mk' (N := n_is_level) (ps := ["value"]) F hm sc_is_level (fun _ _ _ _ _ _ us hl => match us, hl with | [_], _ => rfl) (fun cdv A outer s H E hr =>
    (bi_one (si_ret (ei_and (ei_call D_is_whole (fun _ => hr.mono (by decide)) (fun _ => cy_takes) (fun _ => rfl) rfl (ai_cons (ei_var 0) ai_nil) (len_cons (fun _ _ _ _ => len_nil))) (ei_one (ei_chain (fun _ => op_le) oi_le (fun _ => op_le) oi_le ei_int (ei_var 0) (ei_gint (fun _ => rfl) c_MAX_LEVEL)))))))
/-! ### require_level -/
abbrev s_require_level : Stmt := top 14
abbrev n_require_level : List Str := ["value"]
theorem sc_require_level : FnScope n_require_level ["value"] (defScope s_require_level) := ⟨rfl, rfl, rfl, by decide +kernel, rfl, by decide +kernel, by decide +kernel⟩
theorem d_require_level {B : Cb} {a : Addr} {fd : FuncData} (F : FunD B.K "require_level" "require_level" (defArgs s_require_level) (defBody s_require_level) (defScope s_require_level) [] [] a fd) (hm : B.mg "require_level" = some (.ref a)) (D_is_level : Def B 2 "is_level" 1 f_is_level) : Def B 3 "require_level" 1 f_require_level :=
  Def.mk' (N := n_require_level) (ps := ["value"]) F hm sc_require_level (fun _ _ _ _ _ _ us hl => match us, hl with | [_], _ => rfl) (fun cdv A outer s H E hr =>
    (bi_one (si_if (ti_not (ti_val (ei_call D_is_level (fun _ => hr.mono (by decide)) (fun _ => cy_takes) (fun _ => rfl) rfl (ai_cons (ei_var 0) ai_nil) (len_cons (fun _ _ _ _ => len_nil))))) (bi_one si_never) bi_nil)))
/-! ### is_integer -/
abbrev s_is_integer : Stmt := top 9
abbrev n_is_integer : List Str := ["value"]
theorem sc_is_integer : FnScope n_is_integer ["value"] (defScope s_is_integer) := ⟨rfl, rfl, rfl, by decide +kernel, rfl, by decide +kernel, by decide +kernel⟩
theorem d_is_integer {B : Cb} {a : Addr} {fd : FuncData} (F : FunD B.K "is_integer" "is_integer" (defArgs s_is_integer) (defBody s_is_integer) (defScope s_is_integer) [] [] a fd) (hm : B.mg "is_integer" = some (.ref a)) (c_GREAT : ∃ t, B.mg "GREAT" = some (.int (1000000000000000000000000000000000000000000000000000000000000) t)) (D_is_whole : Def B 1 "is_whole" 1 f_is_whole) : Def B 2 "is_integer" 1 f_is_integer :=
  Def.mk' (N := n_is_integer) (ps := ["value"]) F hm sc_is_integer (fun _ _ _ _ _ _ us hl => match us, hl with | [_], _ => rfl) (fun cdv A outer s H E hr =>
    (bi_one (si_ret (ei_and (ei_call D_is_whole (fun _ => hr.mono (by decide)) (fun _ => cy_takes) (fun _ => rfl) rfl (ai_cons (ei_var 0) ai_nil) (len_cons (fun _ _ _ _ => len_nil))) (ei_one (ei_chain (fun _ => op_ltAll hr.units0) oi_lt (fun _ => op_ltAll hr.units0) oi_lt (ei_neg (ei_gint (fun _ => rfl) c_GREAT)) (ei_var 0) (ei_gint (fun _ => rfl) c_GREAT)))))))
/-! ### common_of -/
abbrev s_common_of : Stmt := top 15
abbrev n_common_of : List Str := ["one", "other"]
theorem sc_common_of : FnScope n_common_of ["one", "other"] (defScope s_common_of) := ⟨rfl, rfl, rfl, by decide +kernel, rfl, by decide +kernel, by decide +kernel⟩
theorem d_common_of {B : Cb} {a : Addr} {fd : FuncData} (F : FunD B.K "common_of" "common_of" (defArgs s_common_of) (defBody s_common_of) (defScope s_common_of) [] [] a fd) (hm : B.mg "common_of" = some (.ref a)) (z_abs : B.mg "abs" = none) : Def B 1 "common_of" 2 f_common_of :=
  Def.mk' (N := n_common_of) (ps := ["one", "other"]) F hm sc_common_of (fun _ _ _ _ _ _ us hl => match us, hl with | [_, _], _ => rfl) (fun cdv A outer s H E hr =>
    (bi_cons (si_while FU (fun _ => cy_passes) (ti_cmp (fun _ => op_neD hr.units) oi_ne (nomark _) (ei_var 1) ei_int) (bi_one (si_par (i := 0) (j := 1) (fun _ => rfl) sc_common_of.nd rfl rfl (by decide) (fun _ => rfl) (fun _ => rfl) (ai_cons (ei_var 1) (ai_cons (ei_bin (fun _ => op_modN) oi_mod (ei_var 0) (ei_var 1)) ai_nil)) (fun _ => rfl)))) (bi_one (si_ret (ei_callB (fun _ => call_abs) ci_abs (fun _ => rfl) z_abs (by decide +kernel) (ai_cons (ei_var 0) ai_nil))))))
/-! ### is_fraction -/
abbrev s_is_fraction : Stmt := top 16
abbrev n_is_fraction : List Str := ["value", "top", "bottom", "part"]
theorem sc_is_fraction : FnScope n_is_fraction ["value"] (defScope s_is_fraction) := ⟨rfl, rfl, rfl, by decide +kernel, rfl, by decide +kernel, by decide +kernel⟩
theorem d_is_fraction {B : Cb} {a : Addr} {fd : FuncData} (F : FunD B.K "is_fraction" "is_fraction" (defArgs s_is_fraction) (defBody s_is_fraction) (defScope s_is_fraction) [] [] a fd) (hm : B.mg "is_fraction" = some (.ref a)) (z_all : B.mg "all" = none) (D_is_integer : Def B 2 "is_integer" 1 f_is_integer) (z_len : B.mg "len" = none) (z_isinstance : B.mg "isinstance" = none) (z_tuple : B.mg "tuple" = none) (c_MAX_PART : ∃ t, B.mg "MAX_PART" = some (.int (100000000000000000000) t)) (D_common_of : Def B 1 "common_of" 2 f_common_of) : Def B 3 "is_fraction" 1 f_is_fraction :=
  Def.mk' (N := n_is_fraction) (ps := ["value"]) F hm sc_is_fraction (fun _ _ _ _ _ _ us hl => match us, hl with | [_], _ => rfl) (fun cdv A outer s H E hr =>
    (bi_cons (si_if (WI.ti (wi_or (ti_not (ti_val (ei_callB (fun _ => call_isi) ci_isi (fun _ => rfl) z_isinstance (by decide +kernel) (ai_cons (ei_var 0) (ai_cons (ei_ty (fun _ => rfl) z_tuple (by decide +kernel)) ai_nil))))) (wi_or (ti_cmp (fun _ => op_neD hr.units) oi_ne (nomark _) (ei_callB (fun _ => call_lenA) ci_len (fun _ => rfl) z_len (by decide +kernel) (ai_cons (ei_var 0) ai_nil)) ei_int) (wi_or1 (ti_not (ti_val (ei_callB (fun _ => (cr_all rfl)) ci_all (fun _ => rfl) z_all (by decide +kernel) (ai_cons (ei_lc (own := [("part", 3)]) (fun _ => rfl) sc_is_fraction.nd (ii_seq (ei_var 0)) (fun _ => show blkC n_is_fraction (defScope s_is_fraction) _ [("part", 3)] = true by decide +kernel) (gi_name 3 sc_is_fraction.nd rfl (fun _ => .inl rfl) (fun _ => .inr rfl)) tsi_nil (ei_call D_is_integer (fun _ => hr.mono (by decide)) (fun _ => takes0) (fun _ => rfl) rfl (ai_cons (ei_var 3) ai_nil) (len_cons (fun _ _ _ _ => len_nil))) (by decide)) ai_nil)))))))) (bi_one (si_ret ei_bl)) bi_nil) (bi_cons (si_asg (ei_var 0) (gi_tup (fun _ => rfl) (gis_cons (gi_name 1 sc_is_fraction.nd rfl (fun _ => .inl rfl) (fun _ => .inr rfl)) (gis_cons (gi_name 2 sc_is_fraction.nd rfl (fun _ => .inl rfl) (fun _ => .inr rfl)) gis_nil)))) (bi_cons (si_if (WI.ti (wi_or (ti_not (ti_chain (fun _ => op_le) oi_le (fun _ => op_le) oi_le (ei_neg (ei_gint (fun _ => rfl) c_MAX_PART)) (ei_var 1) (ei_gint (fun _ => rfl) c_MAX_PART))) (wi_or1 (ti_not (ti_chain (fun _ => op_le) oi_le (fun _ => op_le) oi_le ei_int (ei_var 2) (ei_gint (fun _ => rfl) c_MAX_PART)))))) (bi_one (si_ret ei_bl)) bi_nil) (bi_one (si_ret (ei_ifExp (ti_cmp (fun _ => op_eqD hr.units) oi_eq (nomark _) (ei_var 2) ei_int) (ei_cmp (fun _ => op_eqD hr.units) oi_eq (nomark _) (ei_var 0) (ei_tup (ai_cons ei_int (ai_cons ei_int ai_nil)))) (ei_cmp (fun _ => op_eqD hr.units) oi_eq (nomark _) (ei_call D_common_of (fun _ => hr.mono (by decide)) (fun _ => cy_takes) (fun _ => rfl) rfl (ai_cons (ei_var 1) (ai_cons (ei_var 2) ai_nil)) (len_cons (len_cons (fun _ _ _ _ => len_nil)))) ei_int))))))))
/-! ### require_fraction -/
abbrev s_require_fraction : Stmt := top 17
abbrev n_require_fraction : List Str := ["value"]
theorem sc_require_fraction : FnScope n_require_fraction ["value"] (defScope s_require_fraction) := ⟨rfl, rfl, rfl, by decide +kernel, rfl, by decide +kernel, by decide +kernel⟩
theorem d_require_fraction {B : Cb} {a : Addr} {fd : FuncData} (F : FunD B.K "require_fraction" "require_fraction" (defArgs s_require_fraction) (defBody s_require_fraction) (defScope s_require_fraction) [] [] a fd) (hm : B.mg "require_fraction" = some (.ref a)) (D_is_fraction : Def B 3 "is_fraction" 1 f_is_fraction) : Def B 4 "require_fraction" 1 f_require_fraction :=
  Def.mk' (N := n_require_fraction) (ps := ["value"]) F hm sc_require_fraction (fun _ _ _ _ _ _ us hl => match us, hl with | [_], _ => rfl) (fun cdv A outer s H E hr =>
    (bi_one (si_if (ti_not (ti_val (ei_call D_is_fraction (fun _ => hr.mono (by decide)) (fun _ => cy_takes) (fun _ => rfl) rfl (ai_cons (ei_var 0) ai_nil) (len_cons (fun _ _ _ _ => len_nil))))) (bi_one si_never) bi_nil)))
/-! ### least_top -/
abbrev s_least_top : Stmt := top 25
abbrev n_least_top : List Str := ["part", "share", "rest", "found"]
theorem sc_least_top : FnScope n_least_top ["part", "share", "rest"] (defScope s_least_top) := ⟨rfl, rfl, rfl, by decide +kernel, rfl, by decide +kernel, by decide +kernel⟩
theorem d_least_top {B : Cb} {a : Addr} {fd : FuncData} (F : FunD B.K "least_top" "least_top" (defArgs s_least_top) (defBody s_least_top) (defScope s_least_top) [] [] a fd) (hm : B.mg "least_top" = some (.ref a)) (D_common_of : Def B 1 "common_of" 2 f_common_of) : Def B 2 "least_top" 3 f_least_top :=
  Def.mk' (N := n_least_top) (ps := ["part", "share", "rest"]) F hm sc_least_top (fun _ _ _ _ _ _ us hl => match us, hl with | [_, _, _], _ => rfl) (fun cdv A outer s H E hr =>
    (bi_cons (si_set 3 sc_least_top.nd rfl (fun _ => .inl rfl) (fun _ => .inr rfl) (ei_bin (fun _ => op_modN) oi_mod (ei_var 2) (ei_var 1))) (bi_cons (si_while FU (fun _ => cy_passes) (ti_cmp (fun _ => op_neD hr.units) oi_ne (nomark _) (ei_call D_common_of (fun _ => hr.mono (by decide)) (fun _ => cy_takes) (fun _ => rfl) rfl (ai_cons (ei_var 3) (ai_cons (ei_var 0) ai_nil)) (len_cons (len_cons (fun _ _ _ _ => len_nil)))) ei_int) (bi_one (si_aug 3 sc_least_top.nd rfl (fun _ => .inl rfl) (fun _ => .inr rfl) (fun _ => iop_addAll) oi_iadd (ei_var 1)))) (bi_one (si_ret (ei_var 3))))))
/-! ### rim_in -/
abbrev s_rim_in : Stmt := top 26
abbrev n_rim_in : List Str := ["level", "fraction", "part", "top", "bottom"]
theorem sc_rim_in : FnScope n_rim_in ["level", "fraction"] (defScope s_rim_in) := ⟨rfl, rfl, rfl, by decide +kernel, rfl, by decide +kernel, by decide +kernel⟩
theorem d_rim_in {B : Cb} {a : Addr} {fd : FuncData} (F : FunD B.K "rim_in" "rim_in" (defArgs s_rim_in) (defBody s_rim_in) (defScope s_rim_in) [] [] a fd) (hm : B.mg "rim_in" = some (.ref a)) (D_common_of : Def B 1 "common_of" 2 f_common_of) (D_least_top : Def B 2 "least_top" 3 f_least_top) : Def B 3 "rim_in" 2 f_rim_in :=
  Def.mk' (N := n_rim_in) (ps := ["level", "fraction"]) F hm sc_rim_in (fun _ _ _ _ _ _ us hl => match us, hl with | [_, _], _ => rfl) (fun cdv A outer s H E hr =>
    (bi_cons (si_asg (ei_var 1) (gi_tup (fun _ => rfl) (gis_cons (gi_name 3 sc_rim_in.nd rfl (fun _ => .inl rfl) (fun _ => .inr rfl)) (gis_cons (gi_name 4 sc_rim_in.nd rfl (fun _ => .inl rfl) (fun _ => .inr rfl)) gis_nil)))) (bi_cons (si_set 2 sc_rim_in.nd rfl (fun _ => .inl rfl) (fun _ => .inr rfl) (ei_call D_common_of (fun _ => hr.mono (by decide)) (fun _ => cy_takes) (fun _ => rfl) rfl (ai_cons (ei_var 4) (ai_cons (ei_var 0) ai_nil)) (len_cons (len_cons (fun _ _ _ _ => len_nil))))) (bi_one (si_ret (ei_tup (ai_cons (ei_call D_least_top (fun _ => hr.mono (by decide)) (fun _ => cy_takes) (fun _ => rfl) rfl (ai_cons (ei_var 2) (ai_cons (ei_call D_common_of (fun _ => hr.mono (by decide)) (fun _ => cy_takes) (fun _ => rfl) rfl (ai_cons (ei_var 2) (ai_cons (ei_bin (fun _ => op_divAll) oi_div (ei_var 0) (ei_var 2)) ai_nil)) (len_cons (len_cons (fun _ _ _ _ => len_nil)))) (ai_cons (ei_bin (fun _ => op_mulAll) oi_mul (ei_var 3) (ei_bin (fun _ => op_divAll) oi_div (ei_var 4) (ei_var 2))) ai_nil))) (len_cons (len_cons (len_cons (fun _ _ _ _ => len_nil))))) (ai_cons (ei_var 2) ai_nil))))))))
/-! ### rim_of -/
abbrev s_rim_of : Stmt := top 27
abbrev n_rim_of : List Str := ["level", "fraction"]
theorem sc_rim_of : FnScope n_rim_of ["level", "fraction"] (defScope s_rim_of) := ⟨rfl, rfl, rfl, by decide +kernel, rfl, by decide +kernel, by decide +kernel⟩
theorem d_rim_of {B : Cb} {a : Addr} {fd : FuncData} (F : FunD B.K "rim_of" "rim_of" (defArgs s_rim_of) (defBody s_rim_of) (defScope s_rim_of) [] [] a fd) (hm : B.mg "rim_of" = some (.ref a)) (D_require_level : Def B 3 "require_level" 1 f_require_level) (D_require_fraction : Def B 4 "require_fraction" 1 f_require_fraction) (D_rim_in : Def B 3 "rim_in" 2 f_rim_in) : Def B 5 "rim_of" 2 f_rim_of :=
  Def.mk' (N := n_rim_of) (ps := ["level", "fraction"]) F hm sc_rim_of (fun _ _ _ _ _ _ us hl => match us, hl with | [_, _], _ => rfl) (fun cdv A outer s H E hr =>
    (bi_cons (si_expr (ei_call D_require_level (fun _ => hr.mono (by decide)) (fun _ => cy_takes) (fun _ => rfl) rfl (ai_cons (ei_var 0) ai_nil) (len_cons (fun _ _ _ _ => len_nil)))) (bi_cons (si_expr (ei_call D_require_fraction (fun _ => hr.mono (by decide)) (fun _ => cy_takes) (fun _ => rfl) rfl (ai_cons (ei_var 1) ai_nil) (len_cons (fun _ _ _ _ => len_nil)))) (bi_one (si_ret (ei_call D_rim_in (fun _ => hr.mono (by decide)) (fun _ => cy_takes) (fun _ => rfl) rfl (ai_cons (ei_var 0) (ai_cons (ei_var 1) ai_nil)) (len_cons (len_cons (fun _ _ _ _ => len_nil)))))))))
/-! ### determinant_in -/
abbrev s_determinant_in : Stmt := top 20
abbrev n_determinant_in : List Str := ["matrix", "a", "b", "c", "d"]
theorem sc_determinant_in : FnScope n_determinant_in ["matrix"] (defScope s_determinant_in) := ⟨rfl, rfl, rfl, by decide +kernel, rfl, by decide +kernel, by decide +kernel⟩
theorem d_determinant_in {B : Cb} {a : Addr} {fd : FuncData} (F : FunD B.K "determinant_in" "determinant_in" (defArgs s_determinant_in) (defBody s_determinant_in) (defScope s_determinant_in) [] [] a fd) (hm : B.mg "determinant_in" = some (.ref a))  : Def B 1 "determinant_in" 1 f_determinant_in :=
  Def.mk' (N := n_determinant_in) (ps := ["matrix"]) F hm sc_determinant_in (fun _ _ _ _ _ _ us hl => match us, hl with | [_], _ => rfl) (fun cdv A outer s H E hr =>
    (bi_cons (si_asg (ei_var 0) (gi_tup (fun _ => rfl) (gis_cons (gi_name 1 sc_determinant_in.nd rfl (fun _ => .inl rfl) (fun _ => .inr rfl)) (gis_cons (gi_name 2 sc_determinant_in.nd rfl (fun _ => .inl rfl) (fun _ => .inr rfl)) (gis_cons (gi_name 3 sc_determinant_in.nd rfl (fun _ => .inl rfl) (fun _ => .inr rfl)) (gis_cons (gi_name 4 sc_determinant_in.nd rfl (fun _ => .inl rfl) (fun _ => .inr rfl)) gis_nil)))))) (bi_one (si_ret (ei_bin (fun _ => op_sub) oi_sub (ei_bin (fun _ => op_mulAll) oi_mul (ei_var 1) (ei_var 4)) (ei_bin (fun _ => op_mulAll) oi_mul (ei_var 2) (ei_var 3)))))))
/-! ### is_matrix -/
abbrev s_is_matrix : Stmt := top 18
abbrev n_is_matrix : List Str := ["value", "entry"]
theorem sc_is_matrix : FnScope n_is_matrix ["value"] (defScope s_is_matrix) := ⟨rfl, rfl, rfl, by decide +kernel, rfl, by decide +kernel, by decide +kernel⟩
theorem d_is_matrix {B : Cb} {a : Addr} {fd : FuncData} (F : FunD B.K "is_matrix" "is_matrix" (defArgs s_is_matrix) (defBody s_is_matrix) (defScope s_is_matrix) [] [] a fd) (hm : B.mg "is_matrix" = some (.ref a)) (z_all : B.mg "all" = none) (D_is_whole : Def B 1 "is_whole" 1 f_is_whole) (z_len : B.mg "len" = none) (c_MATRIX_SIZE : ∃ t, B.mg "MATRIX_SIZE" = some (.int (4) t)) (z_isinstance : B.mg "isinstance" = none) (z_tuple : B.mg "tuple" = none) : Def B 2 "is_matrix" 1 f_is_matrix :=
  Def.mk' (N := n_is_matrix) (ps := ["value"]) F hm sc_is_matrix (fun _ _ _ _ _ _ us hl => match us, hl with | [_], _ => rfl) (fun cdv A outer s H E hr =>
    (bi_one (si_ret (ei_and (ei_callB (fun _ => call_isi) ci_isi (fun _ => rfl) z_isinstance (by decide +kernel) (ai_cons (ei_var 0) (ai_cons (ei_ty (fun _ => rfl) z_tuple (by decide +kernel)) ai_nil))) (ei_and (ei_cmp (fun _ => op_eqD hr.units) oi_eq (nomark _) (ei_callB (fun _ => call_lenA) ci_len (fun _ => rfl) z_len (by decide +kernel) (ai_cons (ei_var 0) ai_nil)) (ei_gint (fun _ => rfl) c_MATRIX_SIZE)) (ei_one (ei_callB (fun _ => (cr_all rfl)) ci_all (fun _ => rfl) z_all (by decide +kernel) (ai_cons (ei_lc (own := [("entry", 1)]) (fun _ => rfl) sc_is_matrix.nd (ii_seq (ei_var 0)) (fun _ => show blkC n_is_matrix (defScope s_is_matrix) _ [("entry", 1)] = true by decide +kernel) (gi_name 1 sc_is_matrix.nd rfl (fun _ => .inl rfl) (fun _ => .inr rfl)) tsi_nil (ei_call D_is_whole (fun _ => hr.mono (by decide)) (fun _ => takes0) (fun _ => rfl) rfl (ai_cons (ei_var 1) ai_nil) (len_cons (fun _ _ _ _ => len_nil))) (by decide)) ai_nil))))))))
/-! ### is_short_matrix -/
abbrev s_is_short_matrix : Stmt := top 19
abbrev n_is_short_matrix : List Str := ["value", "entry"]
theorem sc_is_short_matrix : FnScope n_is_short_matrix ["value"] (defScope s_is_short_matrix) := ⟨rfl, rfl, rfl, by decide +kernel, rfl, by decide +kernel, by decide +kernel⟩
theorem d_is_short_matrix {B : Cb} {a : Addr} {fd : FuncData} (F : FunD B.K "is_short_matrix" "is_short_matrix" (defArgs s_is_short_matrix) (defBody s_is_short_matrix) (defScope s_is_short_matrix) [] [] a fd) (hm : B.mg "is_short_matrix" = some (.ref a)) (z_all : B.mg "all" = none) (D_is_integer : Def B 2 "is_integer" 1 f_is_integer) (D_is_matrix : Def B 2 "is_matrix" 1 f_is_matrix) : Def B 3 "is_short_matrix" 1 f_is_short_matrix :=
  Def.mk' (N := n_is_short_matrix) (ps := ["value"]) F hm sc_is_short_matrix (fun _ _ _ _ _ _ us hl => match us, hl with | [_], _ => rfl) (fun cdv A outer s H E hr =>
    (bi_one (si_ret (ei_and (ei_call D_is_matrix (fun _ => hr.mono (by decide)) (fun _ => cy_takes) (fun _ => rfl) rfl (ai_cons (ei_var 0) ai_nil) (len_cons (fun _ _ _ _ => len_nil))) (ei_one (ei_callB (fun _ => (cr_all rfl)) ci_all (fun _ => rfl) z_all (by decide +kernel) (ai_cons (ei_lc (own := [("entry", 1)]) (fun _ => rfl) sc_is_short_matrix.nd (ii_seq (ei_var 0)) (fun _ => show blkC n_is_short_matrix (defScope s_is_short_matrix) _ [("entry", 1)] = true by decide +kernel) (gi_name 1 sc_is_short_matrix.nd rfl (fun _ => .inl rfl) (fun _ => .inr rfl)) tsi_nil (ei_call D_is_integer (fun _ => hr.mono (by decide)) (fun _ => takes0) (fun _ => rfl) rfl (ai_cons (ei_var 1) ai_nil) (len_cons (fun _ _ _ _ => len_nil))) (by decide)) ai_nil)))))))
/-! ### lowest -/
abbrev s_lowest : Stmt := top 22
abbrev n_lowest : List Str := ["top", "bottom", "share"]
theorem sc_lowest : FnScope n_lowest ["top", "bottom"] (defScope s_lowest) := ⟨rfl, rfl, rfl, by decide +kernel, rfl, by decide +kernel, by decide +kernel⟩
theorem d_lowest {B : Cb} {a : Addr} {fd : FuncData} (F : FunD B.K "lowest" "lowest" (defArgs s_lowest) (defBody s_lowest) (defScope s_lowest) [] [] a fd) (hm : B.mg "lowest" = some (.ref a)) (D_common_of : Def B 1 "common_of" 2 f_common_of) : Def B 2 "lowest" 2 f_lowest :=
  Def.mk' (N := n_lowest) (ps := ["top", "bottom"]) F hm sc_lowest (fun _ _ _ _ _ _ us hl => match us, hl with | [_, _], _ => rfl) (fun cdv A outer s H E hr =>
    (bi_cons (si_if (ti_cmp (fun _ => op_eqD hr.units) oi_eq (nomark _) (ei_var 1) ei_int) (bi_one (si_ret (ei_tup (ai_cons ei_int (ai_cons ei_int ai_nil))))) bi_nil) (bi_cons (si_set 2 sc_lowest.nd rfl (fun _ => .inl rfl) (fun _ => .inr rfl) (ei_call D_common_of (fun _ => hr.mono (by decide)) (fun _ => cy_takes) (fun _ => rfl) rfl (ai_cons (ei_var 0) (ai_cons (ei_var 1) ai_nil)) (len_cons (len_cons (fun _ _ _ _ => len_nil))))) (bi_one (si_ret (ei_ifExp (ti_cmp (fun _ => op_gt) oi_gt (nomark _) (ei_var 1) ei_int) (ei_tup (ai_cons (ei_bin (fun _ => op_divAll) oi_div (ei_var 0) (ei_var 2)) (ai_cons (ei_bin (fun _ => op_divAll) oi_div (ei_var 1) (ei_var 2)) ai_nil))) (ei_tup (ai_cons (ei_bin (fun _ => op_divAll) oi_div (ei_neg (ei_var 0)) (ei_var 2)) (ai_cons (ei_bin (fun _ => op_divAll) oi_div (ei_neg (ei_var 1)) (ei_var 2)) ai_nil)))))))))
/-! ### fraction_led -/
abbrev s_fraction_led : Stmt := top 23
abbrev n_fraction_led : List Str := ["matrix", "fraction", "a", "b", "c", "d"]
theorem sc_fraction_led : FnScope n_fraction_led ["matrix", "fraction"] (defScope s_fraction_led) := ⟨rfl, rfl, rfl, by decide +kernel, rfl, by decide +kernel, by decide +kernel⟩
theorem d_fraction_led {B : Cb} {a : Addr} {fd : FuncData} (F : FunD B.K "fraction_led" "fraction_led" (defArgs s_fraction_led) (defBody s_fraction_led) (defScope s_fraction_led) [] [] a fd) (hm : B.mg "fraction_led" = some (.ref a)) (D_lowest : Def B 2 "lowest" 2 f_lowest) : Def B 3 "fraction_led" 2 f_fraction_led :=
  Def.mk' (N := n_fraction_led) (ps := ["matrix", "fraction"]) F hm sc_fraction_led (fun _ _ _ _ _ _ us hl => match us, hl with | [_, _], _ => rfl) (fun cdv A outer s H E hr =>
    (bi_cons (si_asg (ei_var 0) (gi_tup (fun _ => rfl) (gis_cons (gi_name 2 sc_fraction_led.nd rfl (fun _ => .inl rfl) (fun _ => .inr rfl)) (gis_cons (gi_name 3 sc_fraction_led.nd rfl (fun _ => .inl rfl) (fun _ => .inr rfl)) (gis_cons (gi_name 4 sc_fraction_led.nd rfl (fun _ => .inl rfl) (fun _ => .inr rfl)) (gis_cons (gi_name 5 sc_fraction_led.nd rfl (fun _ => .inl rfl) (fun _ => .inr rfl)) gis_nil)))))) (bi_one (si_ret (ei_call D_lowest (fun _ => hr.mono (by decide)) (fun _ => cy_takes) (fun _ => rfl) rfl (ai_cons (ei_bin (fun _ => op_addAll) oi_add (ei_bin (fun _ => op_mulAll) oi_mul (ei_var 2) (ei_ix (ei_var 1) ei_int (fun _ _ => rfl))) (ei_bin (fun _ => op_mulAll) oi_mul (ei_var 3) (ei_ix (ei_var 1) ei_int (fun _ _ => rfl)))) (ai_cons (ei_bin (fun _ => op_addAll) oi_add (ei_bin (fun _ => op_mulAll) oi_mul (ei_var 4) (ei_ix (ei_var 1) ei_int (fun _ _ => rfl))) (ei_bin (fun _ => op_mulAll) oi_mul (ei_var 5) (ei_ix (ei_var 1) ei_int (fun _ _ => rfl)))) ai_nil)) (len_cons (len_cons (fun _ _ _ _ => len_nil))))))))
/-! ### led_fraction -/
abbrev s_led_fraction : Stmt := top 24
abbrev n_led_fraction : List Str := ["matrix", "fraction"]
theorem sc_led_fraction : FnScope n_led_fraction ["matrix", "fraction"] (defScope s_led_fraction) := ⟨rfl, rfl, rfl, by decide +kernel, rfl, by decide +kernel, by decide +kernel⟩
theorem d_led_fraction {B : Cb} {a : Addr} {fd : FuncData} (F : FunD B.K "led_fraction" "led_fraction" (defArgs s_led_fraction) (defBody s_led_fraction) (defScope s_led_fraction) [] [] a fd) (hm : B.mg "led_fraction" = some (.ref a)) (D_determinant_in : Def B 1 "determinant_in" 1 f_determinant_in) (D_is_short_matrix : Def B 3 "is_short_matrix" 1 f_is_short_matrix) (D_require_fraction : Def B 4 "require_fraction" 1 f_require_fraction) (D_fraction_led : Def B 3 "fraction_led" 2 f_fraction_led) : Def B 5 "led_fraction" 2 f_led_fraction :=
  Def.mk' (N := n_led_fraction) (ps := ["matrix", "fraction"]) F hm sc_led_fraction (fun _ _ _ _ _ _ us hl => match us, hl with | [_, _], _ => rfl) (fun cdv A outer s H E hr =>
    (bi_cons (si_if (WI.ti (wi_or (ti_not (ti_val (ei_call D_is_short_matrix (fun _ => hr.mono (by decide)) (fun _ => cy_takes) (fun _ => rfl) rfl (ai_cons (ei_var 0) ai_nil) (len_cons (fun _ _ _ _ => len_nil))))) (wi_or1 (ti_cmp (fun _ => op_eqD hr.units) oi_eq (nomark _) (ei_call D_determinant_in (fun _ => hr.mono (by decide)) (fun _ => cy_takes) (fun _ => rfl) rfl (ai_cons (ei_var 0) ai_nil) (len_cons (fun _ _ _ _ => len_nil))) ei_int)))) (bi_one si_never) bi_nil) (bi_cons (si_expr (ei_call D_require_fraction (fun _ => hr.mono (by decide)) (fun _ => cy_takes) (fun _ => rfl) rfl (ai_cons (ei_var 1) ai_nil) (len_cons (fun _ _ _ _ => len_nil)))) (bi_one (si_ret (ei_call D_fraction_led (fun _ => hr.mono (by decide)) (fun _ => cy_takes) (fun _ => rfl) rfl (ai_cons (ei_var 0) (ai_cons (ei_var 1) ai_nil)) (len_cons (len_cons (fun _ _ _ _ => len_nil)))))))))
/-! ### _law_rim_told -/
abbrev s__law_rim_told : Stmt := top 43
abbrev n__law_rim_told : List Str := ["_law_level", "_law_top", "_law_bottom", "_law_share", "_law_shared", "_law_least"]
theorem sc__law_rim_told : FnScope n__law_rim_told ["_law_level", "_law_top", "_law_bottom"] (defScope s__law_rim_told) := ⟨rfl, rfl, rfl, by decide +kernel, rfl, by decide +kernel, by decide +kernel⟩
theorem d__law_rim_told {B : Cb} {a : Addr} {fd : FuncData} (F : FunD B.K "_law_rim_told" "_law_rim_told" (defArgs s__law_rim_told) (defBody s__law_rim_told) (defScope s__law_rim_told) [] [] a fd) (hm : B.mg "_law_rim_told" = some (.ref a)) (D__law_gcd : Def B 1 "_law_gcd" 2 f__law_gcd) (z_range : B.mg "range" = none) : Def B 2 "_law_rim_told" 3 m__law_rim_told :=
  Def.mk' (N := n__law_rim_told) (ps := ["_law_level", "_law_top", "_law_bottom"]) F hm sc__law_rim_told (fun _ _ _ _ _ _ us hl => match us, hl with | [_, _, _], _ => rfl) (fun cdv A outer s H E hr =>
    (bi_cons (si_set 3 sc__law_rim_told.nd rfl (fun _ => .inl rfl) (fun _ => .inr rfl) (ei_call D__law_gcd (fun _ => hr.mono (by decide)) (fun _ => cy_takes) (fun _ => rfl) rfl (ai_cons (ei_var 2) (ai_cons (ei_var 0) ai_nil)) (len_cons (len_cons (fun _ _ _ _ => len_nil))))) (bi_cons (si_set 4 sc__law_rim_told.nd rfl (fun _ => .inl rfl) (fun _ => .inr rfl) (ei_call D__law_gcd (fun _ => hr.mono (by decide)) (fun _ => cy_takes) (fun _ => rfl) rfl (ai_cons (ei_var 3) (ai_cons (ei_bin (fun _ => op_divAll) oi_div (ei_var 0) (ei_var 3)) ai_nil)) (len_cons (len_cons (fun _ _ _ _ => len_nil))))) (bi_cons (si_for (fun _ => cy_passes) (fun _ => rfl) (ii_range1 (fun _ => rfl) z_range (ai_cons (ei_bin (fun _ => op_addAll) oi_add (ei_bin (fun _ => op_mulAll) oi_mul (ei_var 3) (ei_var 4)) ei_int) ai_nil)) (gi_name 5 sc__law_rim_told.nd rfl (fun _ => .inl rfl) (fun _ => .inr rfl)) (bi_one (si_if (WI.ti (wi_and (ti_cmp (fun _ => op_eqD hr.units) oi_eq (nomark _) (ei_call D__law_gcd (fun _ => hr.mono (by decide)) (fun _ => cy_takes) (fun _ => rfl) rfl (ai_cons (ei_var 5) (ai_cons (ei_var 3) ai_nil)) (len_cons (len_cons (fun _ _ _ _ => len_nil)))) ei_int) (wi_and1 (ti_cmp (fun _ => op_eqD hr.units) oi_eq (nomark _) (ei_bin (fun _ => op_modN) oi_mod (ei_bin (fun _ => op_sub) oi_sub (ei_var 5) (ei_bin (fun _ => op_mulAll) oi_mul (ei_var 1) (ei_bin (fun _ => op_divAll) oi_div (ei_var 2) (ei_var 3)))) (ei_var 4)) ei_int)))) (bi_one (si_ret (ei_tup (ai_cons (ei_var 5) (ai_cons (ei_var 3) ai_nil))))) bi_nil))) (bi_one (si_ret (ei_tup (ai_cons ei_int (ai_cons (ei_var 0) ai_nil)))))))))
/-! ### require_two -/
abbrev s_require_two : Stmt := top 28
abbrev n_require_two : List Str := ["level", "one", "other"]
theorem sc_require_two : FnScope n_require_two ["level", "one", "other"] (defScope s_require_two) := ⟨rfl, rfl, rfl, by decide +kernel, rfl, by decide +kernel, by decide +kernel⟩
theorem d_require_two {B : Cb} {a : Addr} {fd : FuncData} (F : FunD B.K "require_two" "require_two" (defArgs s_require_two) (defBody s_require_two) (defScope s_require_two) [] [] a fd) (hm : B.mg "require_two" = some (.ref a)) (D_require_level : Def B 3 "require_level" 1 f_require_level) (D_require_fraction : Def B 4 "require_fraction" 1 f_require_fraction) : Def B 5 "require_two" 3 f_require_two :=
  Def.mk' (N := n_require_two) (ps := ["level", "one", "other"]) F hm sc_require_two (fun _ _ _ _ _ _ us hl => match us, hl with | [_, _, _], _ => rfl) (fun cdv A outer s H E hr =>
    (bi_cons (si_expr (ei_call D_require_level (fun _ => hr.mono (by decide)) (fun _ => cy_takes) (fun _ => rfl) rfl (ai_cons (ei_var 0) ai_nil) (len_cons (fun _ _ _ _ => len_nil)))) (bi_cons (si_expr (ei_call D_require_fraction (fun _ => hr.mono (by decide)) (fun _ => cy_takes) (fun _ => rfl) rfl (ai_cons (ei_var 1) ai_nil) (len_cons (fun _ _ _ _ => len_nil)))) (bi_one (si_expr (ei_call D_require_fraction (fun _ => hr.mono (by decide)) (fun _ => cy_takes) (fun _ => rfl) rfl (ai_cons (ei_var 2) ai_nil) (len_cons (fun _ _ _ _ => len_nil))))))))
/-! ### column_beside -/
abbrev s_column_beside : Stmt := top 30
abbrev n_column_beside : List Str := ["top", "bottom", "one", "other", "first", "second", "left", "right", "quotient"]
theorem sc_column_beside : FnScope n_column_beside ["top", "bottom"] (defScope s_column_beside) := ⟨rfl, rfl, rfl, by decide +kernel, rfl, by decide +kernel, by decide +kernel⟩
theorem d_column_beside {B : Cb} {a : Addr} {fd : FuncData} (F : FunD B.K "column_beside" "column_beside" (defArgs s_column_beside) (defBody s_column_beside) (defScope s_column_beside) [] [] a fd) (hm : B.mg "column_beside" = some (.ref a))  : Def B 1 "column_beside" 2 f_column_beside :=
  Def.mk' (N := n_column_beside) (ps := ["top", "bottom"]) F hm sc_column_beside (fun _ _ _ _ _ _ us hl => match us, hl with | [_, _], _ => rfl) (fun cdv A outer s H E hr =>
    (bi_cons (si_asg (ei_tup (ai_cons (ei_var 1) (ai_cons (ei_var 0) (ai_cons ei_int (ai_cons ei_int ai_nil))))) (gi_tup (fun _ => rfl) (gis_cons (gi_name 2 sc_column_beside.nd rfl (fun _ => .inl rfl) (fun _ => .inr rfl)) (gis_cons (gi_name 3 sc_column_beside.nd rfl (fun _ => .inl rfl) (fun _ => .inr rfl)) (gis_cons (gi_name 4 sc_column_beside.nd rfl (fun _ => .inl rfl) (fun _ => .inr rfl)) (gis_cons (gi_name 5 sc_column_beside.nd rfl (fun _ => .inl rfl) (fun _ => .inr rfl)) gis_nil)))))) (bi_cons (si_asg (ei_tup (ai_cons ei_int (ai_cons ei_int ai_nil))) (gi_tup (fun _ => rfl) (gis_cons (gi_name 6 sc_column_beside.nd rfl (fun _ => .inl rfl) (fun _ => .inr rfl)) (gis_cons (gi_name 7 sc_column_beside.nd rfl (fun _ => .inl rfl) (fun _ => .inr rfl)) gis_nil)))) (bi_cons (si_while FU (fun _ => cy_passes) (ti_cmp (fun _ => op_neD hr.units) oi_ne (nomark _) (ei_var 3) ei_int) (bi_cons (si_set 8 sc_column_beside.nd rfl (fun _ => .inl rfl) (fun _ => .inr rfl) (ei_bin (fun _ => op_divAll) oi_div (ei_var 2) (ei_var 3))) (bi_cons (si_par (i := 2) (j := 3) (fun _ => rfl) sc_column_beside.nd rfl rfl (by decide) (fun _ => rfl) (fun _ => rfl) (ai_cons (ei_var 3) (ai_cons (ei_bin (fun _ => op_sub) oi_sub (ei_var 2) (ei_bin (fun _ => op_mulAll) oi_mul (ei_var 8) (ei_var 3))) ai_nil)) (fun _ => rfl)) (bi_cons (si_par (i := 4) (j := 5) (fun _ => rfl) sc_column_beside.nd rfl rfl (by decide) (fun _ => rfl) (fun _ => rfl) (ai_cons (ei_var 5) (ai_cons (ei_bin (fun _ => op_sub) oi_sub (ei_var 4) (ei_bin (fun _ => op_mulAll) oi_mul (ei_var 8) (ei_var 5))) ai_nil)) (fun _ => rfl)) (bi_one (si_par (i := 6) (j := 7) (fun _ => rfl) sc_column_beside.nd rfl rfl (by decide) (fun _ => rfl) (fun _ => rfl) (ai_cons (ei_var 7) (ai_cons (ei_bin (fun _ => op_sub) oi_sub (ei_var 6) (ei_bin (fun _ => op_mulAll) oi_mul (ei_var 8) (ei_var 7))) ai_nil)) (fun _ => rfl))))))) (bi_one (si_ret (ei_tup (ai_cons (ei_bin (fun _ => op_mulAll) oi_mul (ei_neg (ei_var 6)) (ei_var 2)) (ai_cons (ei_bin (fun _ => op_mulAll) oi_mul (ei_var 4) (ei_var 2)) ai_nil)))))))))
/-! ### matrix_to -/
abbrev s_matrix_to : Stmt := top 31
abbrev n_matrix_to : List Str := ["fraction", "beside"]
theorem sc_matrix_to : FnScope n_matrix_to ["fraction"] (defScope s_matrix_to) := ⟨rfl, rfl, rfl, by decide +kernel, rfl, by decide +kernel, by decide +kernel⟩
theorem d_matrix_to {B : Cb} {a : Addr} {fd : FuncData} (F : FunD B.K "matrix_to" "matrix_to" (defArgs s_matrix_to) (defBody s_matrix_to) (defScope s_matrix_to) [] [] a fd) (hm : B.mg "matrix_to" = some (.ref a)) (D_column_beside : Def B 1 "column_beside" 2 f_column_beside) : Def B 2 "matrix_to" 1 f_matrix_to :=
  Def.mk' (N := n_matrix_to) (ps := ["fraction"]) F hm sc_matrix_to (fun _ _ _ _ _ _ us hl => match us, hl with | [_], _ => rfl) (fun cdv A outer s H E hr =>
    (bi_cons (si_set 1 sc_matrix_to.nd rfl (fun _ => .inl rfl) (fun _ => .inr rfl) (ei_call D_column_beside (fun _ => hr.mono (by decide)) (fun _ => cy_takes) (fun _ => rfl) rfl (ai_cons (ei_ix (ei_var 0) ei_int (fun _ _ => rfl)) (ai_cons (ei_ix (ei_var 0) ei_int (fun _ _ => rfl)) ai_nil)) (len_cons (len_cons (fun _ _ _ _ => len_nil))))) (bi_one (si_ret (ei_tup (ai_cons (ei_ix (ei_var 0) ei_int (fun _ _ => rfl)) (ai_cons (ei_ix (ei_var 1) ei_int (fun _ _ => rfl)) (ai_cons (ei_ix (ei_var 0) ei_int (fun _ _ => rfl)) (ai_cons (ei_ix (ei_var 1) ei_int (fun _ _ => rfl)) ai_nil)))))))))
/-! ### back_in -/
abbrev s_back_in : Stmt := top 32
abbrev n_back_in : List Str := ["matrix", "a", "b", "c", "d"]
theorem sc_back_in : FnScope n_back_in ["matrix"] (defScope s_back_in) := ⟨rfl, rfl, rfl, by decide +kernel, rfl, by decide +kernel, by decide +kernel⟩
theorem d_back_in {B : Cb} {a : Addr} {fd : FuncData} (F : FunD B.K "back_in" "back_in" (defArgs s_back_in) (defBody s_back_in) (defScope s_back_in) [] [] a fd) (hm : B.mg "back_in" = some (.ref a))  : Def B 1 "back_in" 1 f_back_in :=
  Def.mk' (N := n_back_in) (ps := ["matrix"]) F hm sc_back_in (fun _ _ _ _ _ _ us hl => match us, hl with | [_], _ => rfl) (fun cdv A outer s H E hr =>
    (bi_cons (si_asg (ei_var 0) (gi_tup (fun _ => rfl) (gis_cons (gi_name 1 sc_back_in.nd rfl (fun _ => .inl rfl) (fun _ => .inr rfl)) (gis_cons (gi_name 2 sc_back_in.nd rfl (fun _ => .inl rfl) (fun _ => .inr rfl)) (gis_cons (gi_name 3 sc_back_in.nd rfl (fun _ => .inl rfl) (fun _ => .inr rfl)) (gis_cons (gi_name 4 sc_back_in.nd rfl (fun _ => .inl rfl) (fun _ => .inr rfl)) gis_nil)))))) (bi_one (si_ret (ei_tup (ai_cons (ei_var 4) (ai_cons (ei_neg (ei_var 2)) (ai_cons (ei_neg (ei_var 3)) (ai_cons (ei_var 1) ai_nil)))))))))
/-! ### product_in -/
abbrev s_product_in : Stmt := top 21
abbrev n_product_in : List Str := ["one", "other", "a", "b", "c", "d", "p", "q", "r", "s"]
theorem sc_product_in : FnScope n_product_in ["one", "other"] (defScope s_product_in) := ⟨rfl, rfl, rfl, by decide +kernel, rfl, by decide +kernel, by decide +kernel⟩
theorem d_product_in {B : Cb} {a : Addr} {fd : FuncData} (F : FunD B.K "product_in" "product_in" (defArgs s_product_in) (defBody s_product_in) (defScope s_product_in) [] [] a fd) (hm : B.mg "product_in" = some (.ref a))  : Def B 1 "product_in" 2 f_product_in :=
  Def.mk' (N := n_product_in) (ps := ["one", "other"]) F hm sc_product_in (fun _ _ _ _ _ _ us hl => match us, hl with | [_, _], _ => rfl) (fun cdv A outer s H E hr =>
    (bi_cons (si_asg (ei_var 0) (gi_tup (fun _ => rfl) (gis_cons (gi_name 2 sc_product_in.nd rfl (fun _ => .inl rfl) (fun _ => .inr rfl)) (gis_cons (gi_name 3 sc_product_in.nd rfl (fun _ => .inl rfl) (fun _ => .inr rfl)) (gis_cons (gi_name 4 sc_product_in.nd rfl (fun _ => .inl rfl) (fun _ => .inr rfl)) (gis_cons (gi_name 5 sc_product_in.nd rfl (fun _ => .inl rfl) (fun _ => .inr rfl)) gis_nil)))))) (bi_cons (si_asg (ei_var 1) (gi_tup (fun _ => rfl) (gis_cons (gi_name 6 sc_product_in.nd rfl (fun _ => .inl rfl) (fun _ => .inr rfl)) (gis_cons (gi_name 7 sc_product_in.nd rfl (fun _ => .inl rfl) (fun _ => .inr rfl)) (gis_cons (gi_name 8 sc_product_in.nd rfl (fun _ => .inl rfl) (fun _ => .inr rfl)) (gis_cons (gi_name 9 sc_product_in.nd rfl (fun _ => .inl rfl) (fun _ => .inr rfl)) gis_nil)))))) (bi_one (si_ret (ei_tup (ai_cons (ei_bin (fun _ => op_addAll) oi_add (ei_bin (fun _ => op_mulAll) oi_mul (ei_var 2) (ei_var 6)) (ei_bin (fun _ => op_mulAll) oi_mul (ei_var 3) (ei_var 8))) (ai_cons (ei_bin (fun _ => op_addAll) oi_add (ei_bin (fun _ => op_mulAll) oi_mul (ei_var 2) (ei_var 7)) (ei_bin (fun _ => op_mulAll) oi_mul (ei_var 3) (ei_var 9))) (ai_cons (ei_bin (fun _ => op_addAll) oi_add (ei_bin (fun _ => op_mulAll) oi_mul (ei_var 4) (ei_var 6)) (ei_bin (fun _ => op_mulAll) oi_mul (ei_var 5) (ei_var 8))) (ai_cons (ei_bin (fun _ => op_addAll) oi_add (ei_bin (fun _ => op_mulAll) oi_mul (ei_var 4) (ei_var 7)) (ei_bin (fun _ => op_mulAll) oi_mul (ei_var 5) (ei_var 9))) ai_nil))))))))))
/-! ### rim_paper -/
abbrev s_rim_paper : Stmt := top 33
abbrev n_rim_paper : List Str := ["level", "one", "other", "shift", "back", "ahead", "found"]
theorem sc_rim_paper : FnScope n_rim_paper ["level", "one", "other"] (defScope s_rim_paper) := ⟨rfl, rfl, rfl, by decide +kernel, rfl, by decide +kernel, by decide +kernel⟩
theorem d_rim_paper {B : Cb} {a : Addr} {fd : FuncData} (F : FunD B.K "rim_paper" "rim_paper" (defArgs s_rim_paper) (defBody s_rim_paper) (defScope s_rim_paper) [] [] a fd) (hm : B.mg "rim_paper" = some (.ref a)) (D_require_two : Def B 5 "require_two" 3 f_require_two) (D_matrix_to : Def B 2 "matrix_to" 1 f_matrix_to) (D_back_in : Def B 1 "back_in" 1 f_back_in) (z_range : B.mg "range" = none) (D_product_in : Def B 1 "product_in" 2 f_product_in) : Def B 6 "rim_paper" 3 m_rim_paper :=
  Def.mk' (N := n_rim_paper) (ps := ["level", "one", "other"]) F hm sc_rim_paper (fun _ _ _ _ _ _ us hl => match us, hl with | [_, _, _], _ => rfl) (fun cdv A outer s H E hr =>
    (bi_cons (si_expr (ei_call D_require_two (fun _ => hr.mono (by decide)) (fun _ => cy_takes) (fun _ => rfl) rfl (ai_cons (ei_var 0) (ai_cons (ei_var 1) (ai_cons (ei_var 2) ai_nil))) (len_cons (len_cons (len_cons (fun _ _ _ _ => len_nil)))))) (bi_cons (si_par (i := 4) (j := 5) (fun _ => rfl) sc_rim_paper.nd rfl rfl (by decide) (fun _ => rfl) (fun _ => rfl) (ai_cons (ei_call D_back_in (fun _ => hr.mono (by decide)) (fun _ => cy_takes) (fun _ => rfl) rfl (ai_cons (ei_call D_matrix_to (fun _ => hr.mono (by decide)) (fun _ => cy_takes) (fun _ => rfl) rfl (ai_cons (ei_var 1) ai_nil) (len_cons (fun _ _ _ _ => len_nil))) ai_nil) (len_cons (fun _ _ _ _ => len_nil))) (ai_cons (ei_call D_matrix_to (fun _ => hr.mono (by decide)) (fun _ => cy_takes) (fun _ => rfl) rfl (ai_cons (ei_var 2) ai_nil) (len_cons (fun _ _ _ _ => len_nil))) ai_nil)) (fun _ => rfl)) (bi_cons (si_for (fun _ => cy_passes) (fun _ => rfl) (ii_range1 (fun _ => rfl) z_range (ai_cons (ei_var 0) ai_nil)) (gi_name 3 sc_rim_paper.nd rfl (fun _ => .inl rfl) (fun _ => .inr rfl)) (bi_cons (si_set 6 sc_rim_paper.nd rfl (fun _ => .inl rfl) (fun _ => .inr rfl) (ei_call D_product_in (fun _ => hr.mono (by decide)) (fun _ => cy_takes) (fun _ => rfl) rfl (ai_cons (ei_call D_product_in (fun _ => hr.mono (by decide)) (fun _ => cy_takes) (fun _ => rfl) rfl (ai_cons (ei_var 5) (ai_cons (ei_tup (ai_cons ei_int (ai_cons (ei_var 3) (ai_cons ei_int (ai_cons ei_int ai_nil))))) ai_nil)) (len_cons (len_cons (fun _ _ _ _ => len_nil)))) (ai_cons (ei_var 4) ai_nil)) (len_cons (len_cons (fun _ _ _ _ => len_nil))))) (bi_one (si_if (ti_cmp (fun _ => op_eqD hr.units) oi_eq (nomark _) (ei_bin (fun _ => op_modN) oi_mod (ei_ix (ei_var 6) ei_int (fun _ _ => rfl)) (ei_var 0)) ei_int) (bi_one (si_ret (ei_var 6))) bi_nil)))) (bi_one (si_ret ei_non))))))
/-! ### are_same_rim -/
abbrev s_are_same_rim : Stmt := top 29
abbrev n_are_same_rim : List Str := ["level", "one", "other"]
theorem sc_are_same_rim : FnScope n_are_same_rim ["level", "one", "other"] (defScope s_are_same_rim) := ⟨rfl, rfl, rfl, by decide +kernel, rfl, by decide +kernel, by decide +kernel⟩
theorem d_are_same_rim {B : Cb} {a : Addr} {fd : FuncData} (F : FunD B.K "are_same_rim" "are_same_rim" (defArgs s_are_same_rim) (defBody s_are_same_rim) (defScope s_are_same_rim) [] [] a fd) (hm : B.mg "are_same_rim" = some (.ref a)) (D_require_two : Def B 5 "require_two" 3 f_require_two) (D_rim_in : Def B 3 "rim_in" 2 f_rim_in) : Def B 6 "are_same_rim" 3 f_are_same_rim :=
  Def.mk' (N := n_are_same_rim) (ps := ["level", "one", "other"]) F hm sc_are_same_rim (fun _ _ _ _ _ _ us hl => match us, hl with | [_, _, _], _ => rfl) (fun cdv A outer s H E hr =>
    (bi_cons (si_expr (ei_call D_require_two (fun _ => hr.mono (by decide)) (fun _ => cy_takes) (fun _ => rfl) rfl (ai_cons (ei_var 0) (ai_cons (ei_var 1) (ai_cons (ei_var 2) ai_nil))) (len_cons (len_cons (len_cons (fun _ _ _ _ => len_nil)))))) (bi_one (si_ret (ei_cmp (fun _ => op_eqD hr.units) oi_eq (nomark _) (ei_call D_rim_in (fun _ => hr.mono (by decide)) (fun _ => cy_takes) (fun _ => rfl) rfl (ai_cons (ei_var 0) (ai_cons (ei_var 1) ai_nil)) (len_cons (len_cons (fun _ _ _ _ => len_nil)))) (ei_call D_rim_in (fun _ => hr.mono (by decide)) (fun _ => cy_takes) (fun _ => rfl) rfl (ai_cons (ei_var 0) (ai_cons (ei_var 2) ai_nil)) (len_cons (len_cons (fun _ _ _ _ => len_nil)))))))))
/-! ### _law_is_group -/
abbrev s__law_is_group : Stmt := top 48
abbrev n__law_is_group : List Str := ["_law_level", "_law_value", "_law_one"]
theorem sc__law_is_group : FnScope n__law_is_group ["_law_level", "_law_value"] (defScope s__law_is_group) := ⟨rfl, rfl, rfl, by decide +kernel, rfl, by decide +kernel, by decide +kernel⟩
theorem d__law_is_group {B : Cb} {a : Addr} {fd : FuncData} (F : FunD B.K "_law_is_group" "_law_is_group" (defArgs s__law_is_group) (defBody s__law_is_group) (defScope s__law_is_group) [] [] a fd) (hm : B.mg "_law_is_group" = some (.ref a)) (z_len : B.mg "len" = none) (z_isinstance : B.mg "isinstance" = none) (z_tuple : B.mg "tuple" = none) (z_bool : B.mg "bool" = none) (z_int : B.mg "int" = none) : Def B 1 "_law_is_group" 2 f__law_is_group :=
  Def.mk' (N := n__law_is_group) (ps := ["_law_level", "_law_value"]) F hm sc__law_is_group (fun _ _ _ _ _ _ us hl => match us, hl with | [_, _], _ => rfl) (fun cdv A outer s H E hr =>
    (bi_cons (si_if (WI.ti (wi_or (ti_not (ti_val (ei_callB (fun _ => call_isi) ci_isi (fun _ => rfl) z_isinstance (by decide +kernel) (ai_cons (ei_var 1) (ai_cons (ei_ty (fun _ => rfl) z_tuple (by decide +kernel)) ai_nil))))) (wi_or1 (ti_cmp (fun _ => op_neD hr.units) oi_ne (nomark _) (ei_callB (fun _ => call_lenA) ci_len (fun _ => rfl) z_len (by decide +kernel) (ai_cons (ei_var 1) ai_nil)) ei_int)))) (bi_one (si_ret ei_bl)) bi_nil) (bi_cons (si_if (ti_cmp (fun _ => op_neD hr.units) oi_ne (nomark _) (ei_lc (own := [("_law_one", 2)]) (fun _ => rfl) sc__law_is_group.nd (ii_seq (ei_var 1)) (fun _ => show blkC n__law_is_group (defScope s__law_is_group) _ [("_law_one", 2)] = true by decide +kernel) (gi_name 2 sc__law_is_group.nd rfl (fun _ => .inl rfl) (fun _ => .inr rfl)) (tsi_one (WI.ti (wi_or (ti_not (ti_val (ei_callB (fun _ => call_isi) ci_isi (fun _ => rfl) z_isinstance (by decide +kernel) (ai_cons (ei_var 2) (ai_cons (ei_ty (fun _ => rfl) z_int (by decide +kernel)) ai_nil))))) (wi_or1 (ti_val (ei_callB (fun _ => call_isi) ci_isi (fun _ => rfl) z_isinstance (by decide +kernel) (ai_cons (ei_var 2) (ai_cons (ei_ty (fun _ => rfl) z_bool (by decide +kernel)) ai_nil)))))))) (ei_var 2) (by decide)) (ei_lst ai_nil)) (bi_one (si_ret ei_bl)) bi_nil) (bi_one (si_ret (ei_and (ei_cmp (fun _ => op_eqD hr.units) oi_eq (nomark _) (ei_bin (fun _ => op_sub) oi_sub (ei_bin (fun _ => op_mulAll) oi_mul (ei_ix (ei_var 1) ei_int (fun _ _ => rfl)) (ei_ix (ei_var 1) ei_int (fun _ _ => rfl))) (ei_bin (fun _ => op_mulAll) oi_mul (ei_ix (ei_var 1) ei_int (fun _ _ => rfl)) (ei_ix (ei_var 1) ei_int (fun _ _ => rfl)))) ei_int) (ei_one (ei_cmp (fun _ => op_eqD hr.units) oi_eq (nomark _) (ei_bin (fun _ => op_modN) oi_mod (ei_ix (ei_var 1) ei_int (fun _ _ => rfl)) (ei_var 0)) ei_int))))))))
/-! ### _law_is_paper -/
abbrev s__law_is_paper : Stmt := top 49
abbrev n__law_is_paper : List Str := ["_law_level", "_law_one", "_law_other", "_law_value"]
theorem sc__law_is_paper : FnScope n__law_is_paper ["_law_level", "_law_one", "_law_other", "_law_value"] (defScope s__law_is_paper) := ⟨rfl, rfl, rfl, by decide +kernel, rfl, by decide +kernel, by decide +kernel⟩
theorem d__law_is_paper {B : Cb} {a : Addr} {fd : FuncData} (F : FunD B.K "_law_is_paper" "_law_is_paper" (defArgs s__law_is_paper) (defBody s__law_is_paper) (defScope s__law_is_paper) [] [] a fd) (hm : B.mg "_law_is_paper" = some (.ref a)) (D__law_matrix_led : Def B 3 "_law_matrix_led" 2 f__law_matrix_led) (D__law_is_group : Def B 1 "_law_is_group" 2 f__law_is_group) : Def B 4 "_law_is_paper" 4 m__law_is_paper :=
  Def.mk' (N := n__law_is_paper) (ps := ["_law_level", "_law_one", "_law_other", "_law_value"]) F hm sc__law_is_paper (fun _ _ _ _ _ _ us hl => match us, hl with | [_, _, _, _], _ => rfl) (fun cdv A outer s H E hr =>
    (bi_one (si_ret (ei_and (ei_call D__law_is_group (fun _ => hr.mono (by decide)) (fun _ => cy_takes) (fun _ => rfl) rfl (ai_cons (ei_var 0) (ai_cons (ei_var 3) ai_nil)) (len_cons (len_cons (fun _ _ _ _ => len_nil)))) (ei_one (ei_cmp (fun _ => op_eqD hr.units) oi_eq (nomark _) (ei_call D__law_matrix_led (fun _ => hr.mono (by decide)) (fun _ => cy_takes) (fun _ => rfl) rfl (ai_cons (ei_var 3) (ai_cons (ei_var 1) ai_nil)) (len_cons (len_cons (fun _ _ _ _ => len_nil)))) (ei_var 2)))))))
/-! ### _law_matrix_times -/
abbrev s__law_matrix_times : Stmt := top 44
abbrev n__law_matrix_times : List Str := ["_law_one", "_law_other", "_law_a", "_law_b", "_law_c", "_law_d", "_law_e", "_law_f", "_law_g", "_law_h"]
theorem sc__law_matrix_times : FnScope n__law_matrix_times ["_law_one", "_law_other"] (defScope s__law_matrix_times) := ⟨rfl, rfl, rfl, by decide +kernel, rfl, by decide +kernel, by decide +kernel⟩
theorem d__law_matrix_times {B : Cb} {a : Addr} {fd : FuncData} (F : FunD B.K "_law_matrix_times" "_law_matrix_times" (defArgs s__law_matrix_times) (defBody s__law_matrix_times) (defScope s__law_matrix_times) [] [] a fd) (hm : B.mg "_law_matrix_times" = some (.ref a))  : Def B 1 "_law_matrix_times" 2 f__law_matrix_times :=
  Def.mk' (N := n__law_matrix_times) (ps := ["_law_one", "_law_other"]) F hm sc__law_matrix_times (fun _ _ _ _ _ _ us hl => match us, hl with | [_, _], _ => rfl) (fun cdv A outer s H E hr =>
    (bi_cons (si_asg (ei_var 0) (gi_tup (fun _ => rfl) (gis_cons (gi_name 2 sc__law_matrix_times.nd rfl (fun _ => .inl rfl) (fun _ => .inr rfl)) (gis_cons (gi_name 3 sc__law_matrix_times.nd rfl (fun _ => .inl rfl) (fun _ => .inr rfl)) (gis_cons (gi_name 4 sc__law_matrix_times.nd rfl (fun _ => .inl rfl) (fun _ => .inr rfl)) (gis_cons (gi_name 5 sc__law_matrix_times.nd rfl (fun _ => .inl rfl) (fun _ => .inr rfl)) gis_nil)))))) (bi_cons (si_asg (ei_var 1) (gi_tup (fun _ => rfl) (gis_cons (gi_name 6 sc__law_matrix_times.nd rfl (fun _ => .inl rfl) (fun _ => .inr rfl)) (gis_cons (gi_name 7 sc__law_matrix_times.nd rfl (fun _ => .inl rfl) (fun _ => .inr rfl)) (gis_cons (gi_name 8 sc__law_matrix_times.nd rfl (fun _ => .inl rfl) (fun _ => .inr rfl)) (gis_cons (gi_name 9 sc__law_matrix_times.nd rfl (fun _ => .inl rfl) (fun _ => .inr rfl)) gis_nil)))))) (bi_one (si_ret (ei_tup (ai_cons (ei_bin (fun _ => op_addAll) oi_add (ei_bin (fun _ => op_mulAll) oi_mul (ei_var 2) (ei_var 6)) (ei_bin (fun _ => op_mulAll) oi_mul (ei_var 3) (ei_var 8))) (ai_cons (ei_bin (fun _ => op_addAll) oi_add (ei_bin (fun _ => op_mulAll) oi_mul (ei_var 2) (ei_var 7)) (ei_bin (fun _ => op_mulAll) oi_mul (ei_var 3) (ei_var 9))) (ai_cons (ei_bin (fun _ => op_addAll) oi_add (ei_bin (fun _ => op_mulAll) oi_mul (ei_var 4) (ei_var 6)) (ei_bin (fun _ => op_mulAll) oi_mul (ei_var 5) (ei_var 8))) (ai_cons (ei_bin (fun _ => op_addAll) oi_add (ei_bin (fun _ => op_mulAll) oi_mul (ei_var 4) (ei_var 7)) (ei_bin (fun _ => op_mulAll) oi_mul (ei_var 5) (ei_var 9))) ai_nil))))))))))
/-! ### _law_near -/
abbrev s__law_near : Stmt := top 52
abbrev n__law_near : List Str := ["_law_dice_here", "_law_level", "_law_one", "_law_matrix", "_law_found", "_law_shift", "_law_a", "_law_b", "_law_c", "_law_d"]
theorem sc__law_near : FnScope n__law_near ["_law_dice_here", "_law_level", "_law_one", "_law_matrix"] (defScope s__law_near) := ⟨rfl, rfl, rfl, by decide +kernel, rfl, by decide +kernel, by decide +kernel⟩
theorem d__law_near {B : Cb} {a : Addr} {fd : FuncData} (F : FunD B.K "_law_near" "_law_near" (defArgs s__law_near) (defBody s__law_near) (defScope s__law_near) [] [] a fd) (hm : B.mg "_law_near" = some (.ref a)) (z_list : B.mg "list" = none) (D__law_matrix_times : Def B 1 "_law_matrix_times" 2 f__law_matrix_times) (D__law_matrix_drawn : Def B 3 "_law_matrix_drawn" 3 f__law_matrix_drawn) (z_str : B.mg "str" = none) : Def B 4 "_law_near" 4 m__law_near :=
  Def.mk' (N := n__law_near) (ps := ["_law_dice_here", "_law_level", "_law_one", "_law_matrix"]) F hm sc__law_near (fun _ _ _ _ _ _ us hl => match us, hl with | [_, _, _, _], _ => rfl) (fun cdv A outer s H E hr =>
    (bi_cons (si_asg (ei_var 3) (gi_tup (fun _ => rfl) (gis_cons (gi_name 6 sc__law_near.nd rfl (fun _ => .inl rfl) (fun _ => .inr rfl)) (gis_cons (gi_name 7 sc__law_near.nd rfl (fun _ => .inl rfl) (fun _ => .inr rfl)) (gis_cons (gi_name 8 sc__law_near.nd rfl (fun _ => .inl rfl) (fun _ => .inr rfl)) (gis_cons (gi_name 9 sc__law_near.nd rfl (fun _ => .inl rfl) (fun _ => .inr rfl)) gis_nil)))))) (bi_cons (si_set 4 sc__law_near.nd rfl (fun _ => .inl rfl) (fun _ => .inr rfl) (ei_lst (ai_cons (ei_var 3) (ai_cons (ei_tup (ai_cons (ei_neg (ei_var 6)) (ai_cons (ei_neg (ei_var 7)) (ai_cons (ei_neg (ei_var 8)) (ai_cons (ei_neg (ei_var 9)) ai_nil))))) (ai_cons (ei_tup (ai_cons (ei_var 6) (ai_cons (ei_var 7) (ai_cons (ei_var 8) ai_nil)))) (ai_cons (ei_callTy (fun _ => call_list_of) ci_list (fun _ => rfl) z_list (by decide +kernel) (ai_cons (ei_var 3) ai_nil)) (ai_cons ei_non (ai_cons (ei_tup (ai_cons (ei_var 6) (ai_cons (ei_var 7) (ai_cons (ei_var 8) (ai_cons (ei_bin (fun _ => op_addAll) oi_add (ei_var 9) ei_int) ai_nil))))) (ai_cons (ei_tup (ai_cons (ei_var 6) (ai_cons (ei_var 7) (ai_cons (ei_bin (fun _ => op_addAll) oi_add (ei_var 8) (ei_var 1)) (ai_cons (ei_var 9) ai_nil))))) (ai_cons (ei_tup (ai_cons (ei_var 9) (ai_cons (ei_neg (ei_var 7)) (ai_cons (ei_neg (ei_var 8)) (ai_cons (ei_var 6) ai_nil))))) ai_nil)))))))))) (bi_cons (si_set 5 sc__law_near.nd rfl (fun _ => .inl rfl) (fun _ => .inr rfl) (ei_call D__law_matrix_times (fun _ => hr.mono (by decide)) (fun _ => cy_takes) (fun _ => rfl) rfl (ai_cons (ei_var 3) (ai_cons (ei_call D__law_matrix_drawn (fun _ => hr.mono (by decide)) (fun _ => cy_takes) (fun _ => rfl) rfl (ai_cons (ei_var 0) (ai_cons (ei_var 1) (ai_cons ei_int ai_nil))) (len_cons (len_cons (len_cons (fun _ _ _ _ => len_nil))))) ai_nil)) (len_cons (len_cons (fun _ _ _ _ => len_nil))))) (bi_one (si_ret (ei_bin (fun _ => op_addAll) oi_add (ei_var 4) (ei_lst (ai_cons (ei_var 5) (ai_cons (ei_tup (ai_cons (ei_var 6) (ai_cons (ei_var 7) (ai_cons (ei_var 8) (ai_cons ei_non ai_nil))))) (ai_cons (ei_tup (ai_cons (ei_var 6) (ai_cons (ei_var 7) (ai_cons (ei_var 8) (ai_cons (ei_callTy (fun _ => call_str_int) ci_str (fun _ => rfl) z_str (by decide +kernel) (ai_cons (ei_var 9) ai_nil)) ai_nil))))) (ai_cons (ei_bin (fun _ => op_addAll) oi_add (ei_var 3) (ei_tup (ai_cons ei_int ai_nil))) (ai_cons ei_dict0 (ai_cons (ei_call D__law_matrix_drawn (fun _ => hr.mono (by decide)) (fun _ => cy_takes) (fun _ => rfl) rfl (ai_cons (ei_var 0) (ai_cons (ei_var 1) (ai_cons ei_int ai_nil))) (len_cons (len_cons (len_cons (fun _ _ _ _ => len_nil))))) ai_nil))))))))))))))
/-! ### _law_head -/
abbrev s__law_head : Stmt := top 50
abbrev n__law_head : List Str := ["_law_fraction", "_law_x", "_law_y"]
theorem sc__law_head : FnScope n__law_head ["_law_fraction"] (defScope s__law_head) := ⟨rfl, rfl, rfl, by decide +kernel, rfl, by decide +kernel, by decide +kernel⟩
theorem d__law_head {B : Cb} {a : Addr} {fd : FuncData} (F : FunD B.K "_law_head" "_law_head" (defArgs s__law_head) (defBody s__law_head) (defScope s__law_head) [] [] a fd) (hm : B.mg "_law_head" = some (.ref a)) (D__law_bezout : Def B 1 "_law_bezout" 2 f__law_bezout) : Def B 2 "_law_head" 1 m__law_head :=
  Def.mk' (N := n__law_head) (ps := ["_law_fraction"]) F hm sc__law_head (fun _ _ _ _ _ _ us hl => match us, hl with | [_], _ => rfl) (fun cdv A outer s H E hr =>
    (bi_cons (si_asg (ei_call D__law_bezout (fun _ => hr.mono (by decide)) (fun _ => cy_takes) (fun _ => rfl) rfl (ai_cons (ei_ix (ei_var 0) ei_int (fun _ _ => rfl)) (ai_cons (ei_ix (ei_var 0) ei_int (fun _ _ => rfl)) ai_nil)) (len_cons (len_cons (fun _ _ _ _ => len_nil)))) (gi_tup (fun _ => rfl) (gis_cons (gi_name 1 sc__law_head.nd rfl (fun _ => .inl rfl) (fun _ => .inr rfl)) (gis_cons (gi_name 2 sc__law_head.nd rfl (fun _ => .inl rfl) (fun _ => .inr rfl)) gis_nil)))) (bi_one (si_ret (ei_tup (ai_cons (ei_ix (ei_var 0) ei_int (fun _ _ => rfl)) (ai_cons (ei_neg (ei_var 2)) (ai_cons (ei_ix (ei_var 0) ei_int (fun _ _ => rfl)) (ai_cons (ei_var 1) ai_nil)))))))))
/-! ### _law_between -/
abbrev s__law_between : Stmt := top 51
abbrev n__law_between : List Str := ["_law_one", "_law_other", "_law_many", "_law_a", "_law_b", "_law_c", "_law_d"]
theorem sc__law_between : FnScope n__law_between ["_law_one", "_law_other", "_law_many"] (defScope s__law_between) := ⟨rfl, rfl, rfl, by decide +kernel, rfl, by decide +kernel, by decide +kernel⟩
theorem d__law_between {B : Cb} {a : Addr} {fd : FuncData} (F : FunD B.K "_law_between" "_law_between" (defArgs s__law_between) (defBody s__law_between) (defScope s__law_between) [] [] a fd) (hm : B.mg "_law_between" = some (.ref a)) (D__law_head : Def B 2 "_law_head" 1 m__law_head) (D__law_matrix_times : Def B 1 "_law_matrix_times" 2 f__law_matrix_times) : Def B 3 "_law_between" 3 m__law_between :=
  Def.mk' (N := n__law_between) (ps := ["_law_one", "_law_other", "_law_many"]) F hm sc__law_between (fun _ _ _ _ _ _ us hl => match us, hl with | [_, _, _], _ => rfl) (fun cdv A outer s H E hr =>
    (bi_cons (si_asg (ei_call D__law_head (fun _ => hr.mono (by decide)) (fun _ => cy_takes) (fun _ => rfl) rfl (ai_cons (ei_var 0) ai_nil) (len_cons (fun _ _ _ _ => len_nil))) (gi_tup (fun _ => rfl) (gis_cons (gi_name 3 sc__law_between.nd rfl (fun _ => .inl rfl) (fun _ => .inr rfl)) (gis_cons (gi_name 4 sc__law_between.nd rfl (fun _ => .inl rfl) (fun _ => .inr rfl)) (gis_cons (gi_name 5 sc__law_between.nd rfl (fun _ => .inl rfl) (fun _ => .inr rfl)) (gis_cons (gi_name 6 sc__law_between.nd rfl (fun _ => .inl rfl) (fun _ => .inr rfl)) gis_nil)))))) (bi_one (si_ret (ei_call D__law_matrix_times (fun _ => hr.mono (by decide)) (fun _ => cy_takes) (fun _ => rfl) rfl (ai_cons (ei_call D__law_matrix_times (fun _ => hr.mono (by decide)) (fun _ => cy_takes) (fun _ => rfl) rfl (ai_cons (ei_call D__law_head (fun _ => hr.mono (by decide)) (fun _ => cy_takes) (fun _ => rfl) rfl (ai_cons (ei_var 1) ai_nil) (len_cons (fun _ _ _ _ => len_nil))) (ai_cons (ei_tup (ai_cons ei_int (ai_cons (ei_var 2) (ai_cons ei_int (ai_cons ei_int ai_nil))))) ai_nil)) (len_cons (len_cons (fun _ _ _ _ => len_nil)))) (ai_cons (ei_tup (ai_cons (ei_var 6) (ai_cons (ei_neg (ei_var 4)) (ai_cons (ei_neg (ei_var 5)) (ai_cons (ei_var 3) ai_nil))))) ai_nil)) (len_cons (len_cons (fun _ _ _ _ => len_nil))))))))
/-! ### is_rim_paper -/
abbrev s_is_rim_paper : Stmt := top 34
abbrev n_is_rim_paper : List Str := ["level", "one", "other", "value"]
theorem sc_is_rim_paper : FnScope n_is_rim_paper ["level", "one", "other", "value"] (defScope s_is_rim_paper) := ⟨rfl, rfl, rfl, by decide +kernel, rfl, by decide +kernel, by decide +kernel⟩
theorem d_is_rim_paper {B : Cb} {a : Addr} {fd : FuncData} (F : FunD B.K "is_rim_paper" "is_rim_paper" (defArgs s_is_rim_paper) (defBody s_is_rim_paper) (defScope s_is_rim_paper) [] [] a fd) (hm : B.mg "is_rim_paper" = some (.ref a)) (D_require_two : Def B 5 "require_two" 3 f_require_two) (D_determinant_in : Def B 1 "determinant_in" 1 f_determinant_in) (D_is_matrix : Def B 2 "is_matrix" 1 f_is_matrix) (D_fraction_led : Def B 3 "fraction_led" 2 f_fraction_led) : Def B 6 "is_rim_paper" 4 m_is_rim_paper :=
  Def.mk' (N := n_is_rim_paper) (ps := ["level", "one", "other", "value"]) F hm sc_is_rim_paper (fun _ _ _ _ _ _ us hl => match us, hl with | [_, _, _, _], _ => rfl) (fun cdv A outer s H E hr =>
    (bi_cons (si_expr (ei_call D_require_two (fun _ => hr.mono (by decide)) (fun _ => cy_takes) (fun _ => rfl) rfl (ai_cons (ei_var 0) (ai_cons (ei_var 1) (ai_cons (ei_var 2) ai_nil))) (len_cons (len_cons (len_cons (fun _ _ _ _ => len_nil)))))) (bi_cons (si_if (WI.ti (wi_or (ti_not (ti_val (ei_call D_is_matrix (fun _ => hr.mono (by decide)) (fun _ => cy_takes) (fun _ => rfl) rfl (ai_cons (ei_var 3) ai_nil) (len_cons (fun _ _ _ _ => len_nil))))) (wi_or (ti_cmp (fun _ => op_neD hr.units) oi_ne (nomark _) (ei_call D_determinant_in (fun _ => hr.mono (by decide)) (fun _ => cy_takes) (fun _ => rfl) rfl (ai_cons (ei_var 3) ai_nil) (len_cons (fun _ _ _ _ => len_nil))) ei_int) (wi_or1 (ti_cmp (fun _ => op_neD hr.units) oi_ne (nomark _) (ei_bin (fun _ => op_modN) oi_mod (ei_ix (ei_var 3) ei_int (fun _ _ => rfl)) (ei_var 0)) ei_int))))) (bi_one (si_ret ei_bl)) bi_nil) (bi_one (si_ret (ei_cmp (fun _ => op_eqD hr.units) oi_eq (nomark _) (ei_call D_fraction_led (fun _ => hr.mono (by decide)) (fun _ => cy_takes) (fun _ => rfl) rfl (ai_cons (ei_var 3) (ai_cons (ei_var 1) ai_nil)) (len_cons (len_cons (fun _ _ _ _ => len_nil)))) (ei_var 2)))))))
/-! ### _law_pair_right -/
abbrev s__law_pair_right : Stmt := top 53
abbrev n__law_pair_right : List Str := ["_law_dice_here", "_law_level", "_law_one", "_law_other", "_law_is_due", "_law_told", "_law_near_here", "_law_value", "_law_many"]
theorem sc__law_pair_right : FnScope n__law_pair_right ["_law_dice_here", "_law_level", "_law_one", "_law_other"] (defScope s__law_pair_right) := ⟨rfl, rfl, rfl, by decide +kernel, rfl, by decide +kernel, by decide +kernel⟩
theorem d__law_pair_right {B : Cb} {a : Addr} {fd : FuncData} (F : FunD B.K "_law_pair_right" "_law_pair_right" (defArgs s__law_pair_right) (defBody s__law_pair_right) (defScope s__law_pair_right) [] [] a fd) (hm : B.mg "_law_pair_right" = some (.ref a)) (D__law_rim_told : Def B 2 "_law_rim_told" 3 m__law_rim_told) (D_rim_paper : Def B 6 "rim_paper" 3 m_rim_paper) (D_are_same_rim : Def B 6 "are_same_rim" 3 f_are_same_rim) (D__law_is_paper : Def B 4 "_law_is_paper" 4 m__law_is_paper) (D__law_near : Def B 4 "_law_near" 4 m__law_near) (D__law_matrix_drawn : Def B 3 "_law_matrix_drawn" 3 f__law_matrix_drawn) (D__law_roll : Def B 1 "_law_roll" 2 f__law_roll) (D__law_between : Def B 3 "_law_between" 3 m__law_between) (z_repr : B.mg "repr" = none) (D_is_rim_paper : Def B 6 "is_rim_paper" 4 m_is_rim_paper) : Def B 7 "_law_pair_right" 4 m__law_pair_right :=
  Def.mk' (N := n__law_pair_right) (ps := ["_law_dice_here", "_law_level", "_law_one", "_law_other"]) F hm sc__law_pair_right (fun _ _ _ _ _ _ us hl => match us, hl with | [_, _, _, _], _ => rfl) (fun cdv A outer s H E hr =>
    (bi_cons (si_set 4 sc__law_pair_right.nd rfl (fun _ => .inl rfl) (fun _ => .inr rfl) (ei_cmp (fun _ => op_eqD hr.units) oi_eq (nomark _) (ei_call D__law_rim_told (fun _ => hr.mono (by decide)) (fun _ => cy_takes) (fun _ => rfl) rfl (ai_cons (ei_var 1) (ai_cons (ei_ix (ei_var 2) ei_int (fun _ _ => rfl)) (ai_cons (ei_ix (ei_var 2) ei_int (fun _ _ => rfl)) ai_nil))) (len_cons (len_cons (len_cons (fun _ _ _ _ => len_nil))))) (ei_call D__law_rim_told (fun _ => hr.mono (by decide)) (fun _ => cy_takes) (fun _ => rfl) rfl (ai_cons (ei_var 1) (ai_cons (ei_ix (ei_var 3) ei_int (fun _ _ => rfl)) (ai_cons (ei_ix (ei_var 3) ei_int (fun _ _ => rfl)) ai_nil))) (len_cons (len_cons (len_cons (fun _ _ _ _ => len_nil))))))) (bi_cons (si_set 5 sc__law_pair_right.nd rfl (fun _ => .inl rfl) (fun _ => .inr rfl) (ei_call D_rim_paper (fun _ => hr.mono (by decide)) (fun _ => cy_takes) (fun _ => rfl) rfl (ai_cons (ei_var 1) (ai_cons (ei_var 2) (ai_cons (ei_var 3) ai_nil))) (len_cons (len_cons (len_cons (fun _ _ _ _ => len_nil)))))) (bi_cons (si_if (WI.ti (wi_or (ti_cmp (fun _ => op_neD hr.units) oi_ne (nomark _) (ei_cmp (fun _ => op_notN) oi_isNot (nomark _) (ei_var 5) ei_non) (ei_var 4)) (wi_or1 (ti_cmp (fun _ => op_neD hr.units) oi_ne (nomark _) (ei_call D_are_same_rim (fun _ => hr.mono (by decide)) (fun _ => cy_takes) (fun _ => rfl) rfl (ai_cons (ei_var 1) (ai_cons (ei_var 2) (ai_cons (ei_var 3) ai_nil))) (len_cons (len_cons (len_cons (fun _ _ _ _ => len_nil))))) (ei_var 4))))) (bi_one (si_ret ei_bl)) bi_nil) (bi_cons (si_if (WI.ti (wi_and (ti_cmp (fun _ => op_notN) oi_isNot (nomark _) (ei_var 5) ei_non) (wi_and1 (ti_not (ti_val (ei_call D__law_is_paper (fun _ => hr.mono (by decide)) (fun _ => cy_takes) (fun _ => rfl) rfl (ai_cons (ei_var 1) (ai_cons (ei_var 2) (ai_cons (ei_var 3) (ai_cons (ei_var 5) ai_nil)))) (len_cons (len_cons (len_cons (len_cons (fun _ _ _ _ => len_nil))))))))))) (bi_one (si_ret ei_bl)) bi_nil) (bi_cons (si_set 6 sc__law_pair_right.nd rfl (fun _ => .inl rfl) (fun _ => .inr rfl) (ei_call D__law_near (fun _ => hr.mono (by decide)) (fun _ => cy_takes) (fun _ => rfl) rfl (ai_cons (ei_var 0) (ai_cons (ei_var 1) (ai_cons (ei_var 2) (ai_cons (ei_ifExp (ti_cmp (fun _ => op_notN) oi_isNot (nomark _) (ei_var 5) ei_non) (ei_var 5) (ei_call D__law_matrix_drawn (fun _ => hr.mono (by decide)) (fun _ => cy_takes) (fun _ => rfl) rfl (ai_cons (ei_var 0) (ai_cons (ei_var 1) (ai_cons ei_int ai_nil))) (len_cons (len_cons (len_cons (fun _ _ _ _ => len_nil)))))) ai_nil)))) (len_cons (len_cons (len_cons (len_cons (fun _ _ _ _ => len_nil))))))) (bi_cons (si_set 6 sc__law_pair_right.nd rfl (fun _ => .inl rfl) (fun _ => .inr rfl) (ei_bin (fun _ => op_addAll) oi_add (ei_var 6) (ei_lc (own := [("_law_many", 8)]) (fun _ => rfl) sc__law_pair_right.nd (ii_seq (ei_tup (ai_cons ei_int (ai_cons ei_int (ai_cons (ei_fold (f := sNeg (sC (.int 1))) (ei_neg ei_int) (by kernel_rfl)) (ai_cons (ei_call D__law_roll (fun _ => hr.mono (by decide)) (fun _ => cy_takes) (fun _ => rfl) rfl (ai_cons (ei_var 0) (ai_cons ei_int ai_nil)) (len_cons (len_cons (fun _ _ _ _ => len_nil)))) ai_nil)))))) (fun _ => show blkC n__law_pair_right (defScope s__law_pair_right) _ [("_law_many", 8)] = true by decide +kernel) (gi_name 8 sc__law_pair_right.nd rfl (fun _ => .inl rfl) (fun _ => .inr rfl)) tsi_nil (ei_call D__law_between (fun _ => hr.mono (by decide)) (fun _ => takes0) (fun _ => rfl) rfl (ai_cons (ei_var 2) (ai_cons (ei_var 3) (ai_cons (ei_var 8) ai_nil))) (len_cons (len_cons (len_cons (fun _ _ _ _ => len_nil))))) (by decide)))) (bi_cons (si_for (fun _ => cy_passes) (fun _ => rfl) (ii_seq (ei_var 6)) (gi_name 7 sc__law_pair_right.nd rfl (fun _ => .inl rfl) (fun _ => .inr rfl)) (bi_one (si_if (ti_cmp (fun _ => op_neD hr.units) oi_ne (nomark _) (ei_callB (fun _ => call_reprS) ci_repr (fun _ => rfl) z_repr (by decide +kernel) (ai_cons (ei_call D_is_rim_paper (fun _ => hr.mono (by decide)) (fun _ => cy_takes) (fun _ => rfl) rfl (ai_cons (ei_var 1) (ai_cons (ei_var 2) (ai_cons (ei_var 3) (ai_cons (ei_var 7) ai_nil)))) (len_cons (len_cons (len_cons (len_cons (fun _ _ _ _ => len_nil)))))) ai_nil)) (ei_callB (fun _ => call_reprS) ci_repr (fun _ => rfl) z_repr (by decide +kernel) (ai_cons (ei_call D__law_is_paper (fun _ => hr.mono (by decide)) (fun _ => cy_takes) (fun _ => rfl) rfl (ai_cons (ei_var 1) (ai_cons (ei_var 2) (ai_cons (ei_var 3) (ai_cons (ei_var 7) ai_nil)))) (len_cons (len_cons (len_cons (len_cons (fun _ _ _ _ => len_nil)))))) ai_nil))) (bi_one (si_ret ei_bl)) bi_nil))) (bi_one (si_ret ei_bl))))))))))
/-! ### _law_right -/
abbrev s__law_right : Stmt := top 54
abbrev n__law_right : List Str := ["_law_dice_here", "_law_level", "_law_other", "_law_wide", "_law_third", "_law_one", "_law_matrix"]
theorem sc__law_right : FnScope n__law_right ["_law_dice_here"] (defScope s__law_right) := ⟨rfl, rfl, rfl, by decide +kernel, rfl, by decide +kernel, by decide +kernel⟩
theorem d__law_right {B : Cb} {a : Addr} {fd : FuncData} (F : FunD B.K "_law_right" "_law_right" (defArgs s__law_right) (defBody s__law_right) (defScope s__law_right) [] [] a fd) (hm : B.mg "_law_right" = some (.ref a)) (D__law_level_drawn : Def B 3 "_law_level_drawn" 2 f__law_level_drawn) (D__law_matrix_drawn : Def B 3 "_law_matrix_drawn" 3 f__law_matrix_drawn) (D__law_fraction_drawn : Def B 3 "_law_fraction_drawn" 2 f__law_fraction_drawn) (D__law_matrix_led : Def B 3 "_law_matrix_led" 2 f__law_matrix_led) (D_rim_of : Def B 5 "rim_of" 2 f_rim_of) (D_led_fraction : Def B 5 "led_fraction" 2 f_led_fraction) (D__law_pair_right : Def B 7 "_law_pair_right" 4 m__law_pair_right) (D_is_rim_paper : Def B 6 "is_rim_paper" 4 m_is_rim_paper) (D__law_roll : Def B 1 "_law_roll" 2 f__law_roll) : Def B 8 "_law_right" 1 m__law_right :=
  Def.mk' (N := n__law_right) (ps := ["_law_dice_here"]) F hm sc__law_right (fun _ _ _ _ _ _ us hl => match us, hl with | [_], _ => rfl) (fun cdv A outer s H E hr =>
    (bi_cons (si_set 1 sc__law_right.nd rfl (fun _ => .inl rfl) (fun _ => .inr rfl) (ei_call D__law_level_drawn (fun _ => hr.mono (by decide)) (fun _ => cy_takes) (fun _ => rfl) rfl (ai_cons (ei_var 0) (ai_cons ei_int ai_nil)) (len_cons (len_cons (fun _ _ _ _ => len_nil))))) (bi_cons (si_par (i := 5) (j := 6) (fun _ => rfl) sc__law_right.nd rfl rfl (by decide) (fun _ => rfl) (fun _ => rfl) (ai_cons (ei_call D__law_fraction_drawn (fun _ => hr.mono (by decide)) (fun _ => cy_takes) (fun _ => rfl) rfl (ai_cons (ei_var 0) (ai_cons ei_int ai_nil)) (len_cons (len_cons (fun _ _ _ _ => len_nil)))) (ai_cons (ei_call D__law_matrix_drawn (fun _ => hr.mono (by decide)) (fun _ => cy_takes) (fun _ => rfl) rfl (ai_cons (ei_var 0) (ai_cons (ei_var 1) (ai_cons ei_int ai_nil))) (len_cons (len_cons (len_cons (fun _ _ _ _ => len_nil))))) ai_nil)) (fun _ => rfl)) (bi_cons (si_set 2 sc__law_right.nd rfl (fun _ => .inl rfl) (fun _ => .inr rfl) (ei_call D__law_matrix_led (fun _ => hr.mono (by decide)) (fun _ => cy_takes) (fun _ => rfl) rfl (ai_cons (ei_var 6) (ai_cons (ei_var 5) ai_nil)) (len_cons (len_cons (fun _ _ _ _ => len_nil))))) (bi_cons (si_if (WI.ti (wi_or (ti_cmp (fun _ => op_neD hr.units) oi_ne (nomark _) (ei_call D_led_fraction (fun _ => hr.mono (by decide)) (fun _ => cy_takes) (fun _ => rfl) rfl (ai_cons (ei_var 6) (ai_cons (ei_var 5) ai_nil)) (len_cons (len_cons (fun _ _ _ _ => len_nil)))) (ei_var 2)) (wi_or1 (ti_cmp (fun _ => op_neD hr.units) oi_ne (nomark _) (ei_call D_rim_of (fun _ => hr.mono (by decide)) (fun _ => cy_takes) (fun _ => rfl) rfl (ai_cons (ei_var 1) (ai_cons (ei_var 2) ai_nil)) (len_cons (len_cons (fun _ _ _ _ => len_nil)))) (ei_call D_rim_of (fun _ => hr.mono (by decide)) (fun _ => cy_takes) (fun _ => rfl) rfl (ai_cons (ei_var 1) (ai_cons (ei_var 5) ai_nil)) (len_cons (len_cons (fun _ _ _ _ => len_nil)))))))) (bi_one (si_ret ei_bl)) bi_nil) (bi_cons (si_if (WI.ti (wi_or (ti_not (ti_val (ei_call D_is_rim_paper (fun _ => hr.mono (by decide)) (fun _ => cy_takes) (fun _ => rfl) rfl (ai_cons (ei_var 1) (ai_cons (ei_var 5) (ai_cons (ei_var 2) (ai_cons (ei_var 6) ai_nil)))) (len_cons (len_cons (len_cons (len_cons (fun _ _ _ _ => len_nil)))))))) (wi_or1 (ti_not (ti_val (ei_call D__law_pair_right (fun _ => hr.mono (by decide)) (fun _ => cy_takes) (fun _ => rfl) rfl (ai_cons (ei_var 0) (ai_cons (ei_var 1) (ai_cons (ei_var 5) (ai_cons (ei_var 2) ai_nil)))) (len_cons (len_cons (len_cons (len_cons (fun _ _ _ _ => len_nil))))))))))) (bi_one (si_ret ei_bl)) bi_nil) (bi_cons (si_set 3 sc__law_right.nd rfl (fun _ => .inl rfl) (fun _ => .inr rfl) (ei_tup (ai_cons (ei_bin (fun _ => op_addAll) oi_add ei_int (ei_call D__law_roll (fun _ => hr.mono (by decide)) (fun _ => cy_takes) (fun _ => rfl) rfl (ai_cons (ei_var 0) (ai_cons ei_int ai_nil)) (len_cons (len_cons (fun _ _ _ _ => len_nil))))) (ai_cons (ei_bin (fun _ => op_sub) oi_sub (ei_call D__law_roll (fun _ => hr.mono (by decide)) (fun _ => cy_takes) (fun _ => rfl) rfl (ai_cons (ei_var 0) (ai_cons ei_int ai_nil)) (len_cons (len_cons (fun _ _ _ _ => len_nil)))) ei_int) (ai_cons (ei_bin (fun _ => op_sub) oi_sub (ei_call D__law_roll (fun _ => hr.mono (by decide)) (fun _ => cy_takes) (fun _ => rfl) rfl (ai_cons (ei_var 0) (ai_cons ei_int ai_nil)) (len_cons (len_cons (fun _ _ _ _ => len_nil)))) ei_int) (ai_cons ei_int ai_nil)))))) (bi_cons (si_if (WI.ti (wi_and (ti_cmp (fun _ => op_neD hr.units) oi_ne (nomark _) (ei_bin (fun _ => op_mulAll) oi_mul (ei_ix (ei_var 3) ei_int (fun _ _ => rfl)) (ei_ix (ei_var 3) ei_int (fun _ _ => rfl))) ei_int) (wi_and1 (ti_cmp (fun _ => op_neD hr.units) oi_ne (nomark _) (ei_call D_led_fraction (fun _ => hr.mono (by decide)) (fun _ => cy_takes) (fun _ => rfl) rfl (ai_cons (ei_var 3) (ai_cons (ei_var 5) ai_nil)) (len_cons (len_cons (fun _ _ _ _ => len_nil)))) (ei_call D__law_matrix_led (fun _ => hr.mono (by decide)) (fun _ => cy_takes) (fun _ => rfl) rfl (ai_cons (ei_var 3) (ai_cons (ei_var 5) ai_nil)) (len_cons (len_cons (fun _ _ _ _ => len_nil)))))))) (bi_one (si_ret ei_bl)) bi_nil) (bi_cons (si_set 4 sc__law_right.nd rfl (fun _ => .inl rfl) (fun _ => .inr rfl) (ei_call D__law_fraction_drawn (fun _ => hr.mono (by decide)) (fun _ => cy_takes) (fun _ => rfl) rfl (ai_cons (ei_var 0) (ai_cons ei_int ai_nil)) (len_cons (len_cons (fun _ _ _ _ => len_nil))))) (bi_one (si_ret (ei_and (ei_call D__law_pair_right (fun _ => hr.mono (by decide)) (fun _ => cy_takes) (fun _ => rfl) rfl (ai_cons (ei_var 0) (ai_cons (ei_var 1) (ai_cons (ei_var 5) (ai_cons (ei_var 4) ai_nil)))) (len_cons (len_cons (len_cons (len_cons (fun _ _ _ _ => len_nil)))))) (ei_one (ei_call D__law_pair_right (fun _ => hr.mono (by decide)) (fun _ => cy_takes) (fun _ => rfl) rfl (ai_cons (ei_var 0) (ai_cons (ei_var 1) (ai_cons (ei_var 4) (ai_cons (ei_var 5) ai_nil)))) (len_cons (len_cons (len_cons (len_cons (fun _ _ _ _ => len_nil)))))))))))))))))))
/-! ### law -/
abbrev s_law : Stmt := top 55
abbrev n_law : List Str := ["_law_script", "_law_spot", "_law_told", "_law_dice_here"]
theorem sc_law : FnScope n_law ["_law_script"] (defScope s_law) := ⟨rfl, rfl, rfl, by decide +kernel, rfl, by decide +kernel, by decide +kernel⟩
theorem d_law {B : Cb} {a : Addr} {fd : FuncData} (F : FunD B.K "law" "law" (defArgs s_law) (defBody s_law) (defScope s_law) [] [] a fd) (hm : B.mg "law" = some (.ref a)) (z_range : B.mg "range" = none) (z_max : B.mg "max" = none) (z_min : B.mg "min" = none) (z_len : B.mg "len" = none) (D__law_dice : Def B 1 "_law_dice" 2 f__law_dice) (D__law_right : Def B 8 "_law_right" 1 m__law_right) (D_is_rim_paper : Def B 6 "is_rim_paper" 4 m_is_rim_paper) (D_are_same_rim : Def B 6 "are_same_rim" 3 f_are_same_rim) (D_led_fraction : Def B 5 "led_fraction" 2 f_led_fraction) (D_rim_paper : Def B 6 "rim_paper" 3 m_rim_paper) : Def B 9 "law" 1 m_law :=
  Def.mk' (N := n_law) (ps := ["_law_script"]) F hm sc_law (fun _ _ _ _ _ _ us hl => match us, hl with | [_], _ => rfl) (fun cdv A outer s H E hr =>
    (bi_cons (si_for (fun _ => cy_passes) (fun _ => rfl) (ii_range1 (fun _ => rfl) z_range (ai_cons (ei_callB (fun _ => (call_max2 rfl)) ci_max2 (fun _ => rfl) z_max (by decide +kernel) (ai_cons ei_int (ai_cons (ei_callB (fun _ => (call_min2 rfl)) ci_min2 (fun _ => rfl) z_min (by decide +kernel) (ai_cons ei_int (ai_cons (ei_callB (fun _ => call_lenA) ci_len (fun _ => rfl) z_len (by decide +kernel) (ai_cons (ei_var 0) ai_nil)) ai_nil))) ai_nil))) ai_nil)) (gi_name 1 sc_law.nd rfl (fun _ => .inl rfl) (fun _ => .inr rfl)) (bi_cons (si_set 3 sc_law.nd rfl (fun _ => .inl rfl) (fun _ => .inr rfl) (ei_call D__law_dice (fun _ => hr.mono (by decide)) (fun _ => cy_takes) (fun _ => rfl) rfl (ai_cons (ei_var 0) (ai_cons (ei_var 1) ai_nil)) (len_cons (len_cons (fun _ _ _ _ => len_nil))))) (bi_one (si_if (WI.ti (wi_or (ti_not (ti_val (ei_call D__law_right (fun _ => hr.mono (by decide)) (fun _ => cy_takes) (fun _ => rfl) rfl (ai_cons (ei_var 3) ai_nil) (len_cons (fun _ _ _ _ => len_nil))))) (wi_or1 (ti_not (ti_val (ei_call D__law_right (fun _ => hr.mono (by decide)) (fun _ => cy_takes) (fun _ => rfl) rfl (ai_cons (ei_var 3) ai_nil) (len_cons (fun _ _ _ _ => len_nil)))))))) (bi_one (si_ret ei_bl)) bi_nil)))) (bi_cons (si_if (WI.ti (wi_or (ti_not (ti_val (ei_call D_are_same_rim (fun _ => hr.mono (by decide)) (fun _ => cy_takes) (fun _ => rfl) rfl (ai_cons ei_int (ai_cons (ei_tup (ai_cons ei_int (ai_cons ei_int ai_nil))) (ai_cons (ei_tup (ai_cons ei_int (ai_cons ei_int ai_nil))) ai_nil))) (len_cons (len_cons (len_cons (fun _ _ _ _ => len_nil))))))) (wi_or1 (ti_not (ti_val (ei_call D_is_rim_paper (fun _ => hr.mono (by decide)) (fun _ => cy_takes) (fun _ => rfl) rfl (ai_cons ei_int (ai_cons (ei_tup (ai_cons ei_int (ai_cons ei_int ai_nil))) (ai_cons (ei_tup (ai_cons ei_int (ai_cons ei_int ai_nil))) (ai_cons (ei_tup (ai_cons ei_int (ai_cons (ei_fold (f := sNeg (sC (.int 1))) (ei_neg ei_int) (by kernel_rfl)) (ai_cons ei_int (ai_cons (ei_fold (f := sNeg (sC (.int 1))) (ei_neg ei_int) (by kernel_rfl)) ai_nil))))) ai_nil)))) (len_cons (len_cons (len_cons (len_cons (fun _ _ _ _ => len_nil))))))))))) (bi_one (si_ret ei_bl)) bi_nil) (bi_cons (si_set 2 sc_law.nd rfl (fun _ => .inl rfl) (fun _ => .inr rfl) (ei_lst (ai_cons (ei_call D_led_fraction (fun _ => hr.mono (by decide)) (fun _ => cy_takes) (fun _ => rfl) rfl (ai_cons (ei_tup (ai_cons ei_int (ai_cons (ei_fold (f := sNeg (sC (.int 1))) (ei_neg ei_int) (by kernel_rfl)) (ai_cons ei_int (ai_cons (ei_fold (f := sNeg (sC (.int 1))) (ei_neg ei_int) (by kernel_rfl)) ai_nil))))) (ai_cons (ei_tup (ai_cons ei_int (ai_cons ei_int ai_nil))) ai_nil)) (len_cons (len_cons (fun _ _ _ _ => len_nil)))) (ai_cons (ei_call D_led_fraction (fun _ => hr.mono (by decide)) (fun _ => cy_takes) (fun _ => rfl) rfl (ai_cons (ei_tup (ai_cons ei_int (ai_cons ei_int (ai_cons ei_int (ai_cons ei_int ai_nil))))) (ai_cons (ei_tup (ai_cons ei_int (ai_cons ei_int ai_nil))) ai_nil)) (len_cons (len_cons (fun _ _ _ _ => len_nil)))) (ai_cons (ei_call D_led_fraction (fun _ => hr.mono (by decide)) (fun _ => cy_takes) (fun _ => rfl) rfl (ai_cons (ei_tup (ai_cons ei_int (ai_cons (ei_fold (f := sNeg (sC (.int 1))) (ei_neg ei_int) (by kernel_rfl)) (ai_cons ei_int (ai_cons ei_int ai_nil))))) (ai_cons (ei_tup (ai_cons ei_int (ai_cons ei_int ai_nil))) ai_nil)) (len_cons (len_cons (fun _ _ _ _ => len_nil)))) ai_nil))))) (bi_one (si_ret (ei_and (ei_cmp (fun _ => op_eqD hr.units) oi_eq (nomark _) (ei_var 2) (ei_lst (ai_cons (ei_tup (ai_cons ei_int (ai_cons ei_int ai_nil))) (ai_cons (ei_tup (ai_cons ei_int (ai_cons ei_int ai_nil))) (ai_cons (ei_tup (ai_cons ei_int (ai_cons ei_int ai_nil))) ai_nil))))) (ei_one (ei_cmp (fun _ => op_isN) oi_is (nomark _) (ei_call D_rim_paper (fun _ => hr.mono (by decide)) (fun _ => cy_takes) (fun _ => rfl) rfl (ai_cons ei_int (ai_cons (ei_tup (ai_cons ei_int (ai_cons ei_int ai_nil))) (ai_cons (ei_tup (ai_cons ei_int (ai_cons ei_int ai_nil))) ai_nil))) (len_cons (len_cons (len_cons (fun _ _ _ _ => len_nil))))) ei_non)))))))))
/-! ### the head -/
def e__law_dice : He.DefD := ⟨("_law_dice", none), "_law_dice", "_law_dice", defArgs s__law_dice, defBody s__law_dice, defScope s__law_dice, [], []⟩
def e__law_roll : He.DefD := ⟨("_law_roll", none), "_law_roll", "_law_roll", defArgs s__law_roll, defBody s__law_roll, defScope s__law_roll, [], []⟩
def e__law_pick : He.DefD := ⟨("_law_pick", none), "_law_pick", "_law_pick", defArgs s__law_pick, defBody s__law_pick, defScope s__law_pick, [], []⟩
def e__law_level_drawn : He.DefD := ⟨("_law_level_drawn", none), "_law_level_drawn", "_law_level_drawn", defArgs s__law_level_drawn, defBody s__law_level_drawn, defScope s__law_level_drawn, [], []⟩
def e__law_gcd : He.DefD := ⟨("_law_gcd", none), "_law_gcd", "_law_gcd", defArgs s__law_gcd, defBody s__law_gcd, defScope s__law_gcd, [], []⟩
def e__law_bezout : He.DefD := ⟨("_law_bezout", none), "_law_bezout", "_law_bezout", defArgs s__law_bezout, defBody s__law_bezout, defScope s__law_bezout, [], []⟩
def e__law_matrix_drawn : He.DefD := ⟨("_law_matrix_drawn", none), "_law_matrix_drawn", "_law_matrix_drawn", defArgs s__law_matrix_drawn, defBody s__law_matrix_drawn, defScope s__law_matrix_drawn, [], []⟩
def e__law_lowest : He.DefD := ⟨("_law_lowest", none), "_law_lowest", "_law_lowest", defArgs s__law_lowest, defBody s__law_lowest, defScope s__law_lowest, [], []⟩
def e__law_fraction_drawn : He.DefD := ⟨("_law_fraction_drawn", none), "_law_fraction_drawn", "_law_fraction_drawn", defArgs s__law_fraction_drawn, defBody s__law_fraction_drawn, defScope s__law_fraction_drawn, [], []⟩
def e__law_matrix_led : He.DefD := ⟨("_law_matrix_led", none), "_law_matrix_led", "_law_matrix_led", defArgs s__law_matrix_led, defBody s__law_matrix_led, defScope s__law_matrix_led, [], []⟩
def e_is_whole : He.DefD := ⟨("is_whole", none), "is_whole", "is_whole", defArgs s_is_whole, defBody s_is_whole, defScope s_is_whole, [], []⟩
def e_is_level : He.DefD := ⟨("is_level", none), "is_level", "is_level", defArgs s_is_level, defBody s_is_level, defScope s_is_level, [], []⟩
def e_require_level : He.DefD := ⟨("require_level", none), "require_level", "require_level", defArgs s_require_level, defBody s_require_level, defScope s_require_level, [], []⟩
def e_is_integer : He.DefD := ⟨("is_integer", none), "is_integer", "is_integer", defArgs s_is_integer, defBody s_is_integer, defScope s_is_integer, [], []⟩
def e_common_of : He.DefD := ⟨("common_of", none), "common_of", "common_of", defArgs s_common_of, defBody s_common_of, defScope s_common_of, [], []⟩
def e_is_fraction : He.DefD := ⟨("is_fraction", none), "is_fraction", "is_fraction", defArgs s_is_fraction, defBody s_is_fraction, defScope s_is_fraction, [], []⟩
def e_require_fraction : He.DefD := ⟨("require_fraction", none), "require_fraction", "require_fraction", defArgs s_require_fraction, defBody s_require_fraction, defScope s_require_fraction, [], []⟩
def e_least_top : He.DefD := ⟨("least_top", none), "least_top", "least_top", defArgs s_least_top, defBody s_least_top, defScope s_least_top, [], []⟩
def e_rim_in : He.DefD := ⟨("rim_in", none), "rim_in", "rim_in", defArgs s_rim_in, defBody s_rim_in, defScope s_rim_in, [], []⟩
def e_rim_of : He.DefD := ⟨("rim_of", none), "rim_of", "rim_of", defArgs s_rim_of, defBody s_rim_of, defScope s_rim_of, [], []⟩
def e_determinant_in : He.DefD := ⟨("determinant_in", none), "determinant_in", "determinant_in", defArgs s_determinant_in, defBody s_determinant_in, defScope s_determinant_in, [], []⟩
def e_is_matrix : He.DefD := ⟨("is_matrix", none), "is_matrix", "is_matrix", defArgs s_is_matrix, defBody s_is_matrix, defScope s_is_matrix, [], []⟩
def e_is_short_matrix : He.DefD := ⟨("is_short_matrix", none), "is_short_matrix", "is_short_matrix", defArgs s_is_short_matrix, defBody s_is_short_matrix, defScope s_is_short_matrix, [], []⟩
def e_lowest : He.DefD := ⟨("lowest", none), "lowest", "lowest", defArgs s_lowest, defBody s_lowest, defScope s_lowest, [], []⟩
def e_fraction_led : He.DefD := ⟨("fraction_led", none), "fraction_led", "fraction_led", defArgs s_fraction_led, defBody s_fraction_led, defScope s_fraction_led, [], []⟩
def e_led_fraction : He.DefD := ⟨("led_fraction", none), "led_fraction", "led_fraction", defArgs s_led_fraction, defBody s_led_fraction, defScope s_led_fraction, [], []⟩
def e__law_rim_told : He.DefD := ⟨("_law_rim_told", none), "_law_rim_told", "_law_rim_told", defArgs s__law_rim_told, defBody s__law_rim_told, defScope s__law_rim_told, [], []⟩
def e_require_two : He.DefD := ⟨("require_two", none), "require_two", "require_two", defArgs s_require_two, defBody s_require_two, defScope s_require_two, [], []⟩
def e_column_beside : He.DefD := ⟨("column_beside", none), "column_beside", "column_beside", defArgs s_column_beside, defBody s_column_beside, defScope s_column_beside, [], []⟩
def e_matrix_to : He.DefD := ⟨("matrix_to", none), "matrix_to", "matrix_to", defArgs s_matrix_to, defBody s_matrix_to, defScope s_matrix_to, [], []⟩
def e_back_in : He.DefD := ⟨("back_in", none), "back_in", "back_in", defArgs s_back_in, defBody s_back_in, defScope s_back_in, [], []⟩
def e_product_in : He.DefD := ⟨("product_in", none), "product_in", "product_in", defArgs s_product_in, defBody s_product_in, defScope s_product_in, [], []⟩
def e_rim_paper : He.DefD := ⟨("rim_paper", none), "rim_paper", "rim_paper", defArgs s_rim_paper, defBody s_rim_paper, defScope s_rim_paper, [], []⟩
def e_are_same_rim : He.DefD := ⟨("are_same_rim", none), "are_same_rim", "are_same_rim", defArgs s_are_same_rim, defBody s_are_same_rim, defScope s_are_same_rim, [], []⟩
def e__law_is_group : He.DefD := ⟨("_law_is_group", none), "_law_is_group", "_law_is_group", defArgs s__law_is_group, defBody s__law_is_group, defScope s__law_is_group, [], []⟩
def e__law_is_paper : He.DefD := ⟨("_law_is_paper", none), "_law_is_paper", "_law_is_paper", defArgs s__law_is_paper, defBody s__law_is_paper, defScope s__law_is_paper, [], []⟩
def e__law_matrix_times : He.DefD := ⟨("_law_matrix_times", none), "_law_matrix_times", "_law_matrix_times", defArgs s__law_matrix_times, defBody s__law_matrix_times, defScope s__law_matrix_times, [], []⟩
def e__law_near : He.DefD := ⟨("_law_near", none), "_law_near", "_law_near", defArgs s__law_near, defBody s__law_near, defScope s__law_near, [], []⟩
def e__law_head : He.DefD := ⟨("_law_head", none), "_law_head", "_law_head", defArgs s__law_head, defBody s__law_head, defScope s__law_head, [], []⟩
def e__law_between : He.DefD := ⟨("_law_between", none), "_law_between", "_law_between", defArgs s__law_between, defBody s__law_between, defScope s__law_between, [], []⟩
def e_is_rim_paper : He.DefD := ⟨("is_rim_paper", none), "is_rim_paper", "is_rim_paper", defArgs s_is_rim_paper, defBody s_is_rim_paper, defScope s_is_rim_paper, [], []⟩
def e__law_pair_right : He.DefD := ⟨("_law_pair_right", none), "_law_pair_right", "_law_pair_right", defArgs s__law_pair_right, defBody s__law_pair_right, defScope s__law_pair_right, [], []⟩
def e__law_right : He.DefD := ⟨("_law_right", none), "_law_right", "_law_right", defArgs s__law_right, defBody s__law_right, defScope s__law_right, [], []⟩
def e_law : He.DefD := ⟨("law", none), "law", "law", defArgs s_law, defBody s_law, defScope s_law, [], []⟩
def fn : List He.DefD := [e__law_dice, e__law_roll, e__law_pick, e__law_level_drawn, e__law_gcd, e__law_bezout, e__law_matrix_drawn, e__law_lowest, e__law_fraction_drawn, e__law_matrix_led, e_is_whole, e_is_level, e_require_level, e_is_integer, e_common_of, e_is_fraction, e_require_fraction, e_least_top, e_rim_in, e_rim_of, e_determinant_in, e_is_matrix, e_is_short_matrix, e_lowest, e_fraction_led, e_led_fraction, e__law_rim_told, e_require_two, e_column_beside, e_matrix_to, e_back_in, e_product_in, e_rim_paper, e_are_same_rim, e__law_is_group, e__law_is_paper, e__law_matrix_times, e__law_near, e__law_head, e__law_between, e_is_rim_paper, e__law_pair_right, e__law_right, e_law]
def fa_0 : FaX := fun K => (He.Fa.glo "_law_dice").ok K
def fa_1 : FaX := fun K => (He.Fa.glo "_law_roll").ok K
def fa_2 : FaX := fun K => (He.Fa.glo "_law_pick").ok K
def fa_3 : FaX := fun K => (He.Fa.glo "_law_level_drawn").ok K
def fa_4 : FaX := fun K => (He.Fa.glo "_law_gcd").ok K
def fa_5 : FaX := fun K => (He.Fa.glo "_law_bezout").ok K
def fa_6 : FaX := fun K => (He.Fa.glo "_law_matrix_drawn").ok K
def fa_7 : FaX := fun K => (He.Fa.glo "_law_lowest").ok K
def fa_8 : FaX := fun K => (He.Fa.glo "_law_fraction_drawn").ok K
def fa_9 : FaX := fun K => (He.Fa.glo "_law_matrix_led").ok K
def fa_10 : FaX := fun K => (He.Fa.glo "is_whole").ok K
def fa_11 : FaX := fun K => (He.Fa.glo "is_level").ok K
def fa_12 : FaX := fun K => (He.Fa.glo "require_level").ok K
def fa_13 : FaX := fun K => (He.Fa.glo "is_integer").ok K
def fa_14 : FaX := fun K => (He.Fa.glo "common_of").ok K
def fa_15 : FaX := fun K => (He.Fa.glo "is_fraction").ok K
def fa_16 : FaX := fun K => (He.Fa.glo "require_fraction").ok K
def fa_17 : FaX := fun K => (He.Fa.glo "least_top").ok K
def fa_18 : FaX := fun K => (He.Fa.glo "rim_in").ok K
def fa_19 : FaX := fun K => (He.Fa.glo "rim_of").ok K
def fa_20 : FaX := fun K => (He.Fa.glo "determinant_in").ok K
def fa_21 : FaX := fun K => (He.Fa.glo "is_matrix").ok K
def fa_22 : FaX := fun K => (He.Fa.glo "is_short_matrix").ok K
def fa_23 : FaX := fun K => (He.Fa.glo "lowest").ok K
def fa_24 : FaX := fun K => (He.Fa.glo "fraction_led").ok K
def fa_25 : FaX := fun K => (He.Fa.glo "led_fraction").ok K
def fa_26 : FaX := fun K => (He.Fa.glo "_law_rim_told").ok K
def fa_27 : FaX := fun K => (He.Fa.glo "require_two").ok K
def fa_28 : FaX := fun K => (He.Fa.glo "column_beside").ok K
def fa_29 : FaX := fun K => (He.Fa.glo "matrix_to").ok K
def fa_30 : FaX := fun K => (He.Fa.glo "back_in").ok K
def fa_31 : FaX := fun K => (He.Fa.glo "product_in").ok K
def fa_32 : FaX := fun K => (He.Fa.glo "rim_paper").ok K
def fa_33 : FaX := fun K => (He.Fa.glo "are_same_rim").ok K
def fa_34 : FaX := fun K => (He.Fa.glo "_law_is_group").ok K
def fa_35 : FaX := fun K => (He.Fa.glo "_law_is_paper").ok K
def fa_36 : FaX := fun K => (He.Fa.glo "_law_matrix_times").ok K
def fa_37 : FaX := fun K => (He.Fa.glo "_law_near").ok K
def fa_38 : FaX := fun K => (He.Fa.glo "_law_head").ok K
def fa_39 : FaX := fun K => (He.Fa.glo "_law_between").ok K
def fa_40 : FaX := fun K => (He.Fa.glo "is_rim_paper").ok K
def fa_41 : FaX := fun K => (He.Fa.glo "_law_pair_right").ok K
def fa_42 : FaX := fun K => (He.Fa.glo "_law_right").ok K
def fa_43 : FaX := fun K => (He.Fa.glo "law").ok K
def fa_44 : FaX := fun K => (He.Fa.int "MAX_LEVEL" (100)).ok K
def fa_45 : FaX := fun K => (He.Fa.int "GREAT" (1000000000000000000000000000000000000000000000000000000000000)).ok K
def fa_46 : FaX := fun K => (He.Fa.int "MAX_PART" (100000000000000000000)).ok K
def fa_47 : FaX := fun K => (He.Fa.int "MATRIX_SIZE" (4)).ok K
def fa_48 : FaX := fun K => (He.Fa.free "abs").ok K
def fa_49 : FaX := fun K => (He.Fa.free "all").ok K
def fa_50 : FaX := fun K => (He.Fa.free "bool").ok K
def fa_51 : FaX := fun K => (He.Fa.free "int").ok K
def fa_52 : FaX := fun K => (He.Fa.free "isinstance").ok K
def fa_53 : FaX := fun K => (He.Fa.free "len").ok K
def fa_54 : FaX := fun K => (He.Fa.free "list").ok K
def fa_55 : FaX := fun K => (He.Fa.free "max").ok K
def fa_56 : FaX := fun K => (He.Fa.free "min").ok K
def fa_57 : FaX := fun K => (He.Fa.free "range").ok K
def fa_58 : FaX := fun K => (He.Fa.free "repr").ok K
def fa_59 : FaX := fun K => (He.Fa.free "str").ok K
def fa_60 : FaX := fun K => (He.Fa.free "tuple").ok K
def fa_61 : FaX := fun K => (He.Fa.free "zip").ok K
def fa : List FaX := [fa_0, fa_1, fa_2, fa_3, fa_4, fa_5, fa_6, fa_7, fa_8, fa_9, fa_10, fa_11, fa_12, fa_13, fa_14, fa_15, fa_16, fa_17, fa_18, fa_19, fa_20, fa_21, fa_22, fa_23, fa_24, fa_25, fa_26, fa_27, fa_28, fa_29, fa_30, fa_31, fa_32, fa_33, fa_34, fa_35, fa_36, fa_37, fa_38, fa_39, fa_40, fa_41, fa_42, fa_43, fa_44, fa_45, fa_46, fa_47, fa_48, fa_49, fa_50, fa_51, fa_52, fa_53, fa_54, fa_55, fa_56, fa_57, fa_58, fa_59, fa_60, fa_61]
abbrev Rw : PySem.W.OpenRow := PySem.W.OpenLaw.row PySem.Challenge.rw_levelroads_k14_whole_classes_by_matrices
abbrev hk : PySem.W.Hook := hookX 4 fa fn
def ob (s : PySem.W.SharedT) : He.AlD := obsXG 4 fa fn (HandSHeadRun.getT s)
theorem ob_eq (s : PySem.W.SharedT) : ob s = hk.obs s.abs := obsXG_eq (HandSHeadRun.getT_eq s)
def loose : List PySem.Str := (["RoadError", "InvalidLevel", "InvalidMatrix", "InvalidFraction", "MAX_LEVEL", "GREAT", "is_whole", "is_integer", "is_level", "MAX_PART", "MATRIX_SIZE", "require_level", "common_of", "is_fraction", "require_fraction", "is_matrix"] : List PySem.Str) ++ (["is_short_matrix", "determinant_in", "product_in", "lowest", "fraction_led", "led_fraction", "least_top", "rim_in", "rim_of", "require_two", "are_same_rim", "column_beside", "matrix_to", "back_in", "rim_paper", "is_rim_paper"] : List PySem.Str) ++ (["_law_dice", "_law_roll", "_law_pick", "_law_gcd", "_law_level_drawn", "_law_lowest", "_law_fraction_drawn", "_law_rim_told", "_law_matrix_times", "_law_matrix_led", "_law_bezout", "_law_matrix_drawn", "_law_is_group", "_law_is_paper", "_law_head", "_law_between"] : List PySem.Str) ++ (["_law_near", "_law_pair_right", "_law_right"] : List PySem.Str)
set_option maxHeartbeats 0 in
theorem run (w : World) : HandSHeadRun.RunEq Rw (PySem.W.view Rw.prog [55]) hk ob 6000 loose w := by
  intro os
  kernel_rfl
theorem facts {P : Program} {w : World} {K : PySem.W.Frag} {h : Heap} {mg : Str → Option Value} {f : Addr} (X : K.In h) (G : h.Ns mainGlobals mg) (hfa : mg ("law" : Str) = some (.ref f)) (c : SaysX fa fn K) :
    ∃ fd : FuncData, (∀ (s : Shared) (v : Value), BindsTo s fd ⟨[v], []⟩ [("_law_script", v)]) ∧ ∀ base : Heap, K.In base → base.Ns mainGlobals mg → FnOk P w K mg base CX0 9 f fd ["_law_script"] (fun vs H Q _ => spI K mg 1 m_law vs H Q fun _ _ _ => False) := by
  obtain ⟨fd__law_dice, F__law_dice⟩ := c.def_ 0 (d := e__law_dice) rfl
  obtain ⟨fd__law_roll, F__law_roll⟩ := c.def_ 1 (d := e__law_roll) rfl
  obtain ⟨fd__law_pick, F__law_pick⟩ := c.def_ 2 (d := e__law_pick) rfl
  obtain ⟨fd__law_level_drawn, F__law_level_drawn⟩ := c.def_ 3 (d := e__law_level_drawn) rfl
  obtain ⟨fd__law_gcd, F__law_gcd⟩ := c.def_ 4 (d := e__law_gcd) rfl
  obtain ⟨fd__law_bezout, F__law_bezout⟩ := c.def_ 5 (d := e__law_bezout) rfl
  obtain ⟨fd__law_matrix_drawn, F__law_matrix_drawn⟩ := c.def_ 6 (d := e__law_matrix_drawn) rfl
  obtain ⟨fd__law_lowest, F__law_lowest⟩ := c.def_ 7 (d := e__law_lowest) rfl
  obtain ⟨fd__law_fraction_drawn, F__law_fraction_drawn⟩ := c.def_ 8 (d := e__law_fraction_drawn) rfl
  obtain ⟨fd__law_matrix_led, F__law_matrix_led⟩ := c.def_ 9 (d := e__law_matrix_led) rfl
  obtain ⟨fd_is_whole, F_is_whole⟩ := c.def_ 10 (d := e_is_whole) rfl
  obtain ⟨fd_is_level, F_is_level⟩ := c.def_ 11 (d := e_is_level) rfl
  obtain ⟨fd_require_level, F_require_level⟩ := c.def_ 12 (d := e_require_level) rfl
  obtain ⟨fd_is_integer, F_is_integer⟩ := c.def_ 13 (d := e_is_integer) rfl
  obtain ⟨fd_common_of, F_common_of⟩ := c.def_ 14 (d := e_common_of) rfl
  obtain ⟨fd_is_fraction, F_is_fraction⟩ := c.def_ 15 (d := e_is_fraction) rfl
  obtain ⟨fd_require_fraction, F_require_fraction⟩ := c.def_ 16 (d := e_require_fraction) rfl
  obtain ⟨fd_least_top, F_least_top⟩ := c.def_ 17 (d := e_least_top) rfl
  obtain ⟨fd_rim_in, F_rim_in⟩ := c.def_ 18 (d := e_rim_in) rfl
  obtain ⟨fd_rim_of, F_rim_of⟩ := c.def_ 19 (d := e_rim_of) rfl
  obtain ⟨fd_determinant_in, F_determinant_in⟩ := c.def_ 20 (d := e_determinant_in) rfl
  obtain ⟨fd_is_matrix, F_is_matrix⟩ := c.def_ 21 (d := e_is_matrix) rfl
  obtain ⟨fd_is_short_matrix, F_is_short_matrix⟩ := c.def_ 22 (d := e_is_short_matrix) rfl
  obtain ⟨fd_lowest, F_lowest⟩ := c.def_ 23 (d := e_lowest) rfl
  obtain ⟨fd_fraction_led, F_fraction_led⟩ := c.def_ 24 (d := e_fraction_led) rfl
  obtain ⟨fd_led_fraction, F_led_fraction⟩ := c.def_ 25 (d := e_led_fraction) rfl
  obtain ⟨fd__law_rim_told, F__law_rim_told⟩ := c.def_ 26 (d := e__law_rim_told) rfl
  obtain ⟨fd_require_two, F_require_two⟩ := c.def_ 27 (d := e_require_two) rfl
  obtain ⟨fd_column_beside, F_column_beside⟩ := c.def_ 28 (d := e_column_beside) rfl
  obtain ⟨fd_matrix_to, F_matrix_to⟩ := c.def_ 29 (d := e_matrix_to) rfl
  obtain ⟨fd_back_in, F_back_in⟩ := c.def_ 30 (d := e_back_in) rfl
  obtain ⟨fd_product_in, F_product_in⟩ := c.def_ 31 (d := e_product_in) rfl
  obtain ⟨fd_rim_paper, F_rim_paper⟩ := c.def_ 32 (d := e_rim_paper) rfl
  obtain ⟨fd_are_same_rim, F_are_same_rim⟩ := c.def_ 33 (d := e_are_same_rim) rfl
  obtain ⟨fd__law_is_group, F__law_is_group⟩ := c.def_ 34 (d := e__law_is_group) rfl
  obtain ⟨fd__law_is_paper, F__law_is_paper⟩ := c.def_ 35 (d := e__law_is_paper) rfl
  obtain ⟨fd__law_matrix_times, F__law_matrix_times⟩ := c.def_ 36 (d := e__law_matrix_times) rfl
  obtain ⟨fd__law_near, F__law_near⟩ := c.def_ 37 (d := e__law_near) rfl
  obtain ⟨fd__law_head, F__law_head⟩ := c.def_ 38 (d := e__law_head) rfl
  obtain ⟨fd__law_between, F__law_between⟩ := c.def_ 39 (d := e__law_between) rfl
  obtain ⟨fd_is_rim_paper, F_is_rim_paper⟩ := c.def_ 40 (d := e_is_rim_paper) rfl
  obtain ⟨fd__law_pair_right, F__law_pair_right⟩ := c.def_ 41 (d := e__law_pair_right) rfl
  obtain ⟨fd__law_right, F__law_right⟩ := c.def_ 42 (d := e__law_right) rfl
  obtain ⟨fd_law, F_law⟩ := c.def_ 43 (d := e_law) rfl
  have e := hfa.symm.trans (He.glo_ok X G (show (He.Fa.glo "law").ok K = true from c.fact 43 (f := fa_43) rfl))
  cases e
  have b := FunD.bindsA (ps := ["_law_script"]) F_law fun _ _ _ _ _ _ us hl => match us, hl with | [_], _ => rfl
  refine ⟨fd_law, fun s v => b s [v] rfl, fun base _ _ => ?_⟩
  have c_MAX_LEVEL := He.int_ok X G (show (He.Fa.int "MAX_LEVEL" (100)).ok K = true from c.fact 44 (f := fa_44) rfl)
  have c_GREAT := He.int_ok X G (show (He.Fa.int "GREAT" (1000000000000000000000000000000000000000000000000000000000000)).ok K = true from c.fact 45 (f := fa_45) rfl)
  have c_MAX_PART := He.int_ok X G (show (He.Fa.int "MAX_PART" (100000000000000000000)).ok K = true from c.fact 46 (f := fa_46) rfl)
  have c_MATRIX_SIZE := He.int_ok X G (show (He.Fa.int "MATRIX_SIZE" (4)).ok K = true from c.fact 47 (f := fa_47) rfl)
  have z_abs := He.free_ok X G (show (He.Fa.free "abs").ok K = true from c.fact 48 (f := fa_48) rfl)
  have z_all := He.free_ok X G (show (He.Fa.free "all").ok K = true from c.fact 49 (f := fa_49) rfl)
  have z_bool := He.free_ok X G (show (He.Fa.free "bool").ok K = true from c.fact 50 (f := fa_50) rfl)
  have z_int := He.free_ok X G (show (He.Fa.free "int").ok K = true from c.fact 51 (f := fa_51) rfl)
  have z_isinstance := He.free_ok X G (show (He.Fa.free "isinstance").ok K = true from c.fact 52 (f := fa_52) rfl)
  have z_len := He.free_ok X G (show (He.Fa.free "len").ok K = true from c.fact 53 (f := fa_53) rfl)
  have z_list := He.free_ok X G (show (He.Fa.free "list").ok K = true from c.fact 54 (f := fa_54) rfl)
  have z_max := He.free_ok X G (show (He.Fa.free "max").ok K = true from c.fact 55 (f := fa_55) rfl)
  have z_min := He.free_ok X G (show (He.Fa.free "min").ok K = true from c.fact 56 (f := fa_56) rfl)
  have z_range := He.free_ok X G (show (He.Fa.free "range").ok K = true from c.fact 57 (f := fa_57) rfl)
  have z_repr := He.free_ok X G (show (He.Fa.free "repr").ok K = true from c.fact 58 (f := fa_58) rfl)
  have z_str := He.free_ok X G (show (He.Fa.free "str").ok K = true from c.fact 59 (f := fa_59) rfl)
  have z_tuple := He.free_ok X G (show (He.Fa.free "tuple").ok K = true from c.fact 60 (f := fa_60) rfl)
  have z_zip := He.free_ok X G (show (He.Fa.free "zip").ok K = true from c.fact 61 (f := fa_61) rfl)
  have D__law_dice : Def ⟨P, w, K, mg, base⟩ 1 "_law_dice" 2 f__law_dice := d__law_dice (B := ⟨P, w, K, mg, base⟩) F__law_dice (He.glo_ok X G (show (He.Fa.glo "_law_dice").ok K = true from c.fact 0 (f := fa_0) rfl)) z_len z_int z_max z_abs
  have D__law_roll : Def ⟨P, w, K, mg, base⟩ 1 "_law_roll" 2 f__law_roll := d__law_roll (B := ⟨P, w, K, mg, base⟩) F__law_roll (He.glo_ok X G (show (He.Fa.glo "_law_roll").ok K = true from c.fact 1 (f := fa_1) rfl)) z_int
  have D__law_pick : Def ⟨P, w, K, mg, base⟩ 2 "_law_pick" 2 f__law_pick := d__law_pick (B := ⟨P, w, K, mg, base⟩) F__law_pick (He.glo_ok X G (show (He.Fa.glo "_law_pick").ok K = true from c.fact 2 (f := fa_2) rfl)) D__law_roll z_len
  have D__law_level_drawn : Def ⟨P, w, K, mg, base⟩ 3 "_law_level_drawn" 2 f__law_level_drawn := d__law_level_drawn (B := ⟨P, w, K, mg, base⟩) F__law_level_drawn (He.glo_ok X G (show (He.Fa.glo "_law_level_drawn").ok K = true from c.fact 3 (f := fa_3) rfl)) D__law_roll D__law_pick
  have D__law_gcd : Def ⟨P, w, K, mg, base⟩ 1 "_law_gcd" 2 f__law_gcd := d__law_gcd (B := ⟨P, w, K, mg, base⟩) F__law_gcd (He.glo_ok X G (show (He.Fa.glo "_law_gcd").ok K = true from c.fact 4 (f := fa_4) rfl)) z_abs z_int
  have D__law_bezout : Def ⟨P, w, K, mg, base⟩ 1 "_law_bezout" 2 f__law_bezout := d__law_bezout (B := ⟨P, w, K, mg, base⟩) F__law_bezout (He.glo_ok X G (show (He.Fa.glo "_law_bezout").ok K = true from c.fact 5 (f := fa_5) rfl)) z_range z_tuple z_zip
  have D__law_matrix_drawn : Def ⟨P, w, K, mg, base⟩ 3 "_law_matrix_drawn" 3 f__law_matrix_drawn := d__law_matrix_drawn (B := ⟨P, w, K, mg, base⟩) F__law_matrix_drawn (He.glo_ok X G (show (He.Fa.glo "_law_matrix_drawn").ok K = true from c.fact 6 (f := fa_6) rfl)) D__law_roll D__law_pick z_range D__law_gcd D__law_bezout
  have D__law_lowest : Def ⟨P, w, K, mg, base⟩ 2 "_law_lowest" 2 f__law_lowest := d__law_lowest (B := ⟨P, w, K, mg, base⟩) F__law_lowest (He.glo_ok X G (show (He.Fa.glo "_law_lowest").ok K = true from c.fact 7 (f := fa_7) rfl)) D__law_gcd
  have D__law_fraction_drawn : Def ⟨P, w, K, mg, base⟩ 3 "_law_fraction_drawn" 2 f__law_fraction_drawn := d__law_fraction_drawn (B := ⟨P, w, K, mg, base⟩) F__law_fraction_drawn (He.glo_ok X G (show (He.Fa.glo "_law_fraction_drawn").ok K = true from c.fact 8 (f := fa_8) rfl)) D__law_roll D__law_lowest
  have D__law_matrix_led : Def ⟨P, w, K, mg, base⟩ 3 "_law_matrix_led" 2 f__law_matrix_led := d__law_matrix_led (B := ⟨P, w, K, mg, base⟩) F__law_matrix_led (He.glo_ok X G (show (He.Fa.glo "_law_matrix_led").ok K = true from c.fact 9 (f := fa_9) rfl)) D__law_lowest
  have D_is_whole : Def ⟨P, w, K, mg, base⟩ 1 "is_whole" 1 f_is_whole := d_is_whole (B := ⟨P, w, K, mg, base⟩) F_is_whole (He.glo_ok X G (show (He.Fa.glo "is_whole").ok K = true from c.fact 10 (f := fa_10) rfl)) z_isinstance z_bool z_int
  have D_is_level : Def ⟨P, w, K, mg, base⟩ 2 "is_level" 1 f_is_level := d_is_level (B := ⟨P, w, K, mg, base⟩) F_is_level (He.glo_ok X G (show (He.Fa.glo "is_level").ok K = true from c.fact 11 (f := fa_11) rfl)) c_MAX_LEVEL D_is_whole
  have D_require_level : Def ⟨P, w, K, mg, base⟩ 3 "require_level" 1 f_require_level := d_require_level (B := ⟨P, w, K, mg, base⟩) F_require_level (He.glo_ok X G (show (He.Fa.glo "require_level").ok K = true from c.fact 12 (f := fa_12) rfl)) D_is_level
  have D_is_integer : Def ⟨P, w, K, mg, base⟩ 2 "is_integer" 1 f_is_integer := d_is_integer (B := ⟨P, w, K, mg, base⟩) F_is_integer (He.glo_ok X G (show (He.Fa.glo "is_integer").ok K = true from c.fact 13 (f := fa_13) rfl)) c_GREAT D_is_whole
  have D_common_of : Def ⟨P, w, K, mg, base⟩ 1 "common_of" 2 f_common_of := d_common_of (B := ⟨P, w, K, mg, base⟩) F_common_of (He.glo_ok X G (show (He.Fa.glo "common_of").ok K = true from c.fact 14 (f := fa_14) rfl)) z_abs
  have D_is_fraction : Def ⟨P, w, K, mg, base⟩ 3 "is_fraction" 1 f_is_fraction := d_is_fraction (B := ⟨P, w, K, mg, base⟩) F_is_fraction (He.glo_ok X G (show (He.Fa.glo "is_fraction").ok K = true from c.fact 15 (f := fa_15) rfl)) z_all D_is_integer z_len z_isinstance z_tuple c_MAX_PART D_common_of
  have D_require_fraction : Def ⟨P, w, K, mg, base⟩ 4 "require_fraction" 1 f_require_fraction := d_require_fraction (B := ⟨P, w, K, mg, base⟩) F_require_fraction (He.glo_ok X G (show (He.Fa.glo "require_fraction").ok K = true from c.fact 16 (f := fa_16) rfl)) D_is_fraction
  have D_least_top : Def ⟨P, w, K, mg, base⟩ 2 "least_top" 3 f_least_top := d_least_top (B := ⟨P, w, K, mg, base⟩) F_least_top (He.glo_ok X G (show (He.Fa.glo "least_top").ok K = true from c.fact 17 (f := fa_17) rfl)) D_common_of
  have D_rim_in : Def ⟨P, w, K, mg, base⟩ 3 "rim_in" 2 f_rim_in := d_rim_in (B := ⟨P, w, K, mg, base⟩) F_rim_in (He.glo_ok X G (show (He.Fa.glo "rim_in").ok K = true from c.fact 18 (f := fa_18) rfl)) D_common_of D_least_top
  have D_rim_of : Def ⟨P, w, K, mg, base⟩ 5 "rim_of" 2 f_rim_of := d_rim_of (B := ⟨P, w, K, mg, base⟩) F_rim_of (He.glo_ok X G (show (He.Fa.glo "rim_of").ok K = true from c.fact 19 (f := fa_19) rfl)) D_require_level D_require_fraction D_rim_in
  have D_determinant_in : Def ⟨P, w, K, mg, base⟩ 1 "determinant_in" 1 f_determinant_in := d_determinant_in (B := ⟨P, w, K, mg, base⟩) F_determinant_in (He.glo_ok X G (show (He.Fa.glo "determinant_in").ok K = true from c.fact 20 (f := fa_20) rfl)) 
  have D_is_matrix : Def ⟨P, w, K, mg, base⟩ 2 "is_matrix" 1 f_is_matrix := d_is_matrix (B := ⟨P, w, K, mg, base⟩) F_is_matrix (He.glo_ok X G (show (He.Fa.glo "is_matrix").ok K = true from c.fact 21 (f := fa_21) rfl)) z_all D_is_whole z_len c_MATRIX_SIZE z_isinstance z_tuple
  have D_is_short_matrix : Def ⟨P, w, K, mg, base⟩ 3 "is_short_matrix" 1 f_is_short_matrix := d_is_short_matrix (B := ⟨P, w, K, mg, base⟩) F_is_short_matrix (He.glo_ok X G (show (He.Fa.glo "is_short_matrix").ok K = true from c.fact 22 (f := fa_22) rfl)) z_all D_is_integer D_is_matrix
  have D_lowest : Def ⟨P, w, K, mg, base⟩ 2 "lowest" 2 f_lowest := d_lowest (B := ⟨P, w, K, mg, base⟩) F_lowest (He.glo_ok X G (show (He.Fa.glo "lowest").ok K = true from c.fact 23 (f := fa_23) rfl)) D_common_of
  have D_fraction_led : Def ⟨P, w, K, mg, base⟩ 3 "fraction_led" 2 f_fraction_led := d_fraction_led (B := ⟨P, w, K, mg, base⟩) F_fraction_led (He.glo_ok X G (show (He.Fa.glo "fraction_led").ok K = true from c.fact 24 (f := fa_24) rfl)) D_lowest
  have D_led_fraction : Def ⟨P, w, K, mg, base⟩ 5 "led_fraction" 2 f_led_fraction := d_led_fraction (B := ⟨P, w, K, mg, base⟩) F_led_fraction (He.glo_ok X G (show (He.Fa.glo "led_fraction").ok K = true from c.fact 25 (f := fa_25) rfl)) D_determinant_in D_is_short_matrix D_require_fraction D_fraction_led
  have D__law_rim_told : Def ⟨P, w, K, mg, base⟩ 2 "_law_rim_told" 3 m__law_rim_told := d__law_rim_told (B := ⟨P, w, K, mg, base⟩) F__law_rim_told (He.glo_ok X G (show (He.Fa.glo "_law_rim_told").ok K = true from c.fact 26 (f := fa_26) rfl)) D__law_gcd z_range
  have D_require_two : Def ⟨P, w, K, mg, base⟩ 5 "require_two" 3 f_require_two := d_require_two (B := ⟨P, w, K, mg, base⟩) F_require_two (He.glo_ok X G (show (He.Fa.glo "require_two").ok K = true from c.fact 27 (f := fa_27) rfl)) D_require_level D_require_fraction
  have D_column_beside : Def ⟨P, w, K, mg, base⟩ 1 "column_beside" 2 f_column_beside := d_column_beside (B := ⟨P, w, K, mg, base⟩) F_column_beside (He.glo_ok X G (show (He.Fa.glo "column_beside").ok K = true from c.fact 28 (f := fa_28) rfl)) 
  have D_matrix_to : Def ⟨P, w, K, mg, base⟩ 2 "matrix_to" 1 f_matrix_to := d_matrix_to (B := ⟨P, w, K, mg, base⟩) F_matrix_to (He.glo_ok X G (show (He.Fa.glo "matrix_to").ok K = true from c.fact 29 (f := fa_29) rfl)) D_column_beside
  have D_back_in : Def ⟨P, w, K, mg, base⟩ 1 "back_in" 1 f_back_in := d_back_in (B := ⟨P, w, K, mg, base⟩) F_back_in (He.glo_ok X G (show (He.Fa.glo "back_in").ok K = true from c.fact 30 (f := fa_30) rfl)) 
  have D_product_in : Def ⟨P, w, K, mg, base⟩ 1 "product_in" 2 f_product_in := d_product_in (B := ⟨P, w, K, mg, base⟩) F_product_in (He.glo_ok X G (show (He.Fa.glo "product_in").ok K = true from c.fact 31 (f := fa_31) rfl)) 
  have D_rim_paper : Def ⟨P, w, K, mg, base⟩ 6 "rim_paper" 3 m_rim_paper := d_rim_paper (B := ⟨P, w, K, mg, base⟩) F_rim_paper (He.glo_ok X G (show (He.Fa.glo "rim_paper").ok K = true from c.fact 32 (f := fa_32) rfl)) D_require_two D_matrix_to D_back_in z_range D_product_in
  have D_are_same_rim : Def ⟨P, w, K, mg, base⟩ 6 "are_same_rim" 3 f_are_same_rim := d_are_same_rim (B := ⟨P, w, K, mg, base⟩) F_are_same_rim (He.glo_ok X G (show (He.Fa.glo "are_same_rim").ok K = true from c.fact 33 (f := fa_33) rfl)) D_require_two D_rim_in
  have D__law_is_group : Def ⟨P, w, K, mg, base⟩ 1 "_law_is_group" 2 f__law_is_group := d__law_is_group (B := ⟨P, w, K, mg, base⟩) F__law_is_group (He.glo_ok X G (show (He.Fa.glo "_law_is_group").ok K = true from c.fact 34 (f := fa_34) rfl)) z_len z_isinstance z_tuple z_bool z_int
  have D__law_is_paper : Def ⟨P, w, K, mg, base⟩ 4 "_law_is_paper" 4 m__law_is_paper := d__law_is_paper (B := ⟨P, w, K, mg, base⟩) F__law_is_paper (He.glo_ok X G (show (He.Fa.glo "_law_is_paper").ok K = true from c.fact 35 (f := fa_35) rfl)) D__law_matrix_led D__law_is_group
  have D__law_matrix_times : Def ⟨P, w, K, mg, base⟩ 1 "_law_matrix_times" 2 f__law_matrix_times := d__law_matrix_times (B := ⟨P, w, K, mg, base⟩) F__law_matrix_times (He.glo_ok X G (show (He.Fa.glo "_law_matrix_times").ok K = true from c.fact 36 (f := fa_36) rfl)) 
  have D__law_near : Def ⟨P, w, K, mg, base⟩ 4 "_law_near" 4 m__law_near := d__law_near (B := ⟨P, w, K, mg, base⟩) F__law_near (He.glo_ok X G (show (He.Fa.glo "_law_near").ok K = true from c.fact 37 (f := fa_37) rfl)) z_list D__law_matrix_times D__law_matrix_drawn z_str
  have D__law_head : Def ⟨P, w, K, mg, base⟩ 2 "_law_head" 1 m__law_head := d__law_head (B := ⟨P, w, K, mg, base⟩) F__law_head (He.glo_ok X G (show (He.Fa.glo "_law_head").ok K = true from c.fact 38 (f := fa_38) rfl)) D__law_bezout
  have D__law_between : Def ⟨P, w, K, mg, base⟩ 3 "_law_between" 3 m__law_between := d__law_between (B := ⟨P, w, K, mg, base⟩) F__law_between (He.glo_ok X G (show (He.Fa.glo "_law_between").ok K = true from c.fact 39 (f := fa_39) rfl)) D__law_head D__law_matrix_times
  have D_is_rim_paper : Def ⟨P, w, K, mg, base⟩ 6 "is_rim_paper" 4 m_is_rim_paper := d_is_rim_paper (B := ⟨P, w, K, mg, base⟩) F_is_rim_paper (He.glo_ok X G (show (He.Fa.glo "is_rim_paper").ok K = true from c.fact 40 (f := fa_40) rfl)) D_require_two D_determinant_in D_is_matrix D_fraction_led
  have D__law_pair_right : Def ⟨P, w, K, mg, base⟩ 7 "_law_pair_right" 4 m__law_pair_right := d__law_pair_right (B := ⟨P, w, K, mg, base⟩) F__law_pair_right (He.glo_ok X G (show (He.Fa.glo "_law_pair_right").ok K = true from c.fact 41 (f := fa_41) rfl)) D__law_rim_told D_rim_paper D_are_same_rim D__law_is_paper D__law_near D__law_matrix_drawn D__law_roll D__law_between z_repr D_is_rim_paper
  have D__law_right : Def ⟨P, w, K, mg, base⟩ 8 "_law_right" 1 m__law_right := d__law_right (B := ⟨P, w, K, mg, base⟩) F__law_right (He.glo_ok X G (show (He.Fa.glo "_law_right").ok K = true from c.fact 42 (f := fa_42) rfl)) D__law_level_drawn D__law_matrix_drawn D__law_fraction_drawn D__law_matrix_led D_rim_of D_led_fraction D__law_pair_right D_is_rim_paper D__law_roll
  exact fn_cx0 (def_ok (B := ⟨P, w, K, mg, base⟩) (N := n_law) F_law sc_law (fun cdv A outer s H E hr =>
    (bi_cons (si_for (fun _ => cy_passes) (fun _ => rfl) (ii_range1 (fun _ => rfl) z_range (ai_cons (ei_callB (fun _ => (call_max2 rfl)) ci_max2 (fun _ => rfl) z_max (by decide +kernel) (ai_cons ei_int (ai_cons (ei_callB (fun _ => (call_min2 rfl)) ci_min2 (fun _ => rfl) z_min (by decide +kernel) (ai_cons ei_int (ai_cons (ei_callB (fun _ => call_lenA) ci_len (fun _ => rfl) z_len (by decide +kernel) (ai_cons (ei_var 0) ai_nil)) ai_nil))) ai_nil))) ai_nil)) (gi_name 1 sc_law.nd rfl (fun _ => .inl rfl) (fun _ => .inr rfl)) (bi_cons (si_set 3 sc_law.nd rfl (fun _ => .inl rfl) (fun _ => .inr rfl) (ei_call D__law_dice (fun _ => hr.mono (by decide)) (fun _ => cy_takes) (fun _ => rfl) rfl (ai_cons (ei_var 0) (ai_cons (ei_var 1) ai_nil)) (len_cons (len_cons (fun _ _ _ _ => len_nil))))) (bi_one (si_if (WI.ti (wi_or (ti_not (ti_val (ei_call D__law_right (fun _ => hr.mono (by decide)) (fun _ => cy_takes) (fun _ => rfl) rfl (ai_cons (ei_var 3) ai_nil) (len_cons (fun _ _ _ _ => len_nil))))) (wi_or1 (ti_not (ti_val (ei_call D__law_right (fun _ => hr.mono (by decide)) (fun _ => cy_takes) (fun _ => rfl) rfl (ai_cons (ei_var 3) ai_nil) (len_cons (fun _ _ _ _ => len_nil)))))))) (bi_one (si_ret ei_bl)) bi_nil)))) (bi_cons (si_if (WI.ti (wi_or (ti_not (ti_val (ei_call D_are_same_rim (fun _ => hr.mono (by decide)) (fun _ => cy_takes) (fun _ => rfl) rfl (ai_cons ei_int (ai_cons (ei_tup (ai_cons ei_int (ai_cons ei_int ai_nil))) (ai_cons (ei_tup (ai_cons ei_int (ai_cons ei_int ai_nil))) ai_nil))) (len_cons (len_cons (len_cons (fun _ _ _ _ => len_nil))))))) (wi_or1 (ti_not (ti_val (ei_call D_is_rim_paper (fun _ => hr.mono (by decide)) (fun _ => cy_takes) (fun _ => rfl) rfl (ai_cons ei_int (ai_cons (ei_tup (ai_cons ei_int (ai_cons ei_int ai_nil))) (ai_cons (ei_tup (ai_cons ei_int (ai_cons ei_int ai_nil))) (ai_cons (ei_tup (ai_cons ei_int (ai_cons (ei_fold (f := sNeg (sC (.int 1))) (ei_neg ei_int) (by kernel_rfl)) (ai_cons ei_int (ai_cons (ei_fold (f := sNeg (sC (.int 1))) (ei_neg ei_int) (by kernel_rfl)) ai_nil))))) ai_nil)))) (len_cons (len_cons (len_cons (len_cons (fun _ _ _ _ => len_nil))))))))))) (bi_one (si_ret ei_bl)) bi_nil) (bi_cons (si_set 2 sc_law.nd rfl (fun _ => .inl rfl) (fun _ => .inr rfl) (ei_lst (ai_cons (ei_call D_led_fraction (fun _ => hr.mono (by decide)) (fun _ => cy_takes) (fun _ => rfl) rfl (ai_cons (ei_tup (ai_cons ei_int (ai_cons (ei_fold (f := sNeg (sC (.int 1))) (ei_neg ei_int) (by kernel_rfl)) (ai_cons ei_int (ai_cons (ei_fold (f := sNeg (sC (.int 1))) (ei_neg ei_int) (by kernel_rfl)) ai_nil))))) (ai_cons (ei_tup (ai_cons ei_int (ai_cons ei_int ai_nil))) ai_nil)) (len_cons (len_cons (fun _ _ _ _ => len_nil)))) (ai_cons (ei_call D_led_fraction (fun _ => hr.mono (by decide)) (fun _ => cy_takes) (fun _ => rfl) rfl (ai_cons (ei_tup (ai_cons ei_int (ai_cons ei_int (ai_cons ei_int (ai_cons ei_int ai_nil))))) (ai_cons (ei_tup (ai_cons ei_int (ai_cons ei_int ai_nil))) ai_nil)) (len_cons (len_cons (fun _ _ _ _ => len_nil)))) (ai_cons (ei_call D_led_fraction (fun _ => hr.mono (by decide)) (fun _ => cy_takes) (fun _ => rfl) rfl (ai_cons (ei_tup (ai_cons ei_int (ai_cons (ei_fold (f := sNeg (sC (.int 1))) (ei_neg ei_int) (by kernel_rfl)) (ai_cons ei_int (ai_cons ei_int ai_nil))))) (ai_cons (ei_tup (ai_cons ei_int (ai_cons ei_int ai_nil))) ai_nil)) (len_cons (len_cons (fun _ _ _ _ => len_nil)))) ai_nil))))) (bi_one (si_ret (ei_and (ei_cmp (fun _ => op_eqD hr.units) oi_eq (nomark _) (ei_var 2) (ei_lst (ai_cons (ei_tup (ai_cons ei_int (ai_cons ei_int ai_nil))) (ai_cons (ei_tup (ai_cons ei_int (ai_cons ei_int ai_nil))) (ai_cons (ei_tup (ai_cons ei_int (ai_cons ei_int ai_nil))) ai_nil))))) (ei_one (ei_cmp (fun _ => op_isN) oi_is (nomark _) (ei_call D_rim_paper (fun _ => hr.mono (by decide)) (fun _ => cy_takes) (fun _ => rfl) rfl (ai_cons ei_int (ai_cons (ei_tup (ai_cons ei_int (ai_cons ei_int ai_nil))) (ai_cons (ei_tup (ai_cons ei_int (ai_cons ei_int ai_nil))) ai_nil))) (len_cons (len_cons (len_cons (fun _ _ _ _ => len_nil))))) ei_non))))))))))
end L14
open PySem PySem.W PySem.Calls PyProof.Rows in
set_option maxHeartbeats 0 in
theorem L14.holds_of (left : L14.Left) : PySem.Challenge.rw_levelroads_k14_whole_classes_by_matrices.Holds := by
  w_on; o_law
  refine HandSHeadRun.head_any (r := OpenLaw.row PySem.Challenge.rw_levelroads_k14_whole_classes_by_matrices) (q := view (OpenLaw.row PySem.Challenge.rw_levelroads_k14_whole_classes_by_matrices).prog [55]) (H := L14.hk) (ob := L14.ob) (M := 6000) (loose := L14.loose) (d := HandSHeadRun.topDef (OpenLaw.row PySem.Challenge.rw_levelroads_k14_whole_classes_by_matrices).prog 55) (kwd := []) L14.ob_eq
    (by kernel_rfl) (fun s => by kernel_rfl) L14.run (by kernel_rfl) (by kernel_rfl) (by kernel_rfl) (by rfl) (by first | assumption | decide +kernel) (by decide +kernel) ⟨rfl, rfl, rfl, rfl, rfl, by decide +kernel⟩ ?hw ?hc
  case hw => w_witness2
  case hc =>
    refine L2.walk_ofE (l := PySem.Challenge.rw_levelroads_k14_whole_classes_by_matrices) (n := 63) (k := 9) (x := "_law_script") (CX := L2.CX0) rfl (by decide) (by kernel_rfl) ⟨rfl, by decide, by decide⟩ ?F (fun _ _ _ _ z => z)
    intro w mg fa h Y G hmg0
    obtain ⟨K, KX, c⟩ := Y
    have hmg : mg ("law" : PySem.Str) = some (.ref fa) := by
      have e : (HandSHeadRun.topDef (OpenLaw.row PySem.Challenge.rw_levelroads_k14_whole_classes_by_matrices).prog 55).name = ("law" : PySem.Str) := by kernel_rfl
      rw [← e]
      exact hmg0
    obtain ⟨fd, hb, hF⟩ := L14.facts (P := (PySem.Challenge.rw_levelroads_k14_whole_classes_by_matrices).prog) (w := w) KX G hmg c
    exact ⟨K, fd, (fun vs H Q _ => Pd.spI K mg 1 L14.m_law vs H Q fun _ _ _ => False), KX, hb, fun H a ns hl _ hS => Pd.law_sp hS (left ns hl), hF⟩

theorem PySem.Challenge.cw_levelroads_k14_whole_classes_by_matrices_holds : PySem.Challenge.rw_levelroads_k14_whole_classes_by_matrices.Holds := by
  exact L14.holds_of L14.left
