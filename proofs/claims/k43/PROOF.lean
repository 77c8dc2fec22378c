import PyProof.Rows.All
import Wide.All
import OpenK.AllK
import Wide.FinOn
import HandS.ForMost
import HandS.ForExc
import HandS.Evl
import HandS.Wide
import HandS.IsInst
import HandS.TupAny
import HandS.Deep
import HandS.Defaults
import HandS.Style
import HandS.Zip
import HandS.Codes
import HandS.RaiseMore
import HandS.Iter
import HandS.Head0
import HandS.Head1
import HandS.Head2
import HandS.HeadEnd
import HandS.HeadHook1
import HandS.HeadHook2
import PySem.Challenge.RW_levelroads_k43_whole_reducing
set_option Elab.async false
set_option linter.all false
set_option maxRecDepth 100000
set_option maxHeartbeats 4000000
/-! Pd: plain data. What a piece of Python does, told by a function on trees of data and a list of objects that may change. -/
namespace Pd
open PySem L2 Evl

/-! ### data -/
/-- data: none, bools, ints, texts, tuples, lists that change no more (lst: made by the call; seq: only read), things that may change (ref: an index into the objects), defs and classes of the text by name, built-in types -/
inductive D where
  | non | bl (b : Bool) | int (i : Int) | str (x : Str)
  | tup (xs : List D) | lst (xs : List D) | seq (xs : List D)
  | ref (n : Nat)
  | glo (x : Str) | ty (n : String)
/-- objects that may change -/
inductive PO where
  | lst (xs : List D)
  | dK (kvs : List (Key × D))
  | dT (kvs : List (List Key × D))
  | ins (c : Str) (fs : List (Str × D))
  | dead
abbrev Ph := List PO
abbrev Pe := List (Option D)
/-- an end: a value; an exception of the class with that name, and what it keeps; none that is served -/
inductive R (α : Type) where
  | ok (a : α) (h : Ph)
  | exc (c : Str) (fs : Option (List (Str × D))) (h : Ph)
  | bad
def R.bind {α β : Type} (r : R α) (k : α → Ph → R β) : R β := match r with
  | .ok a h => k a h
  | .exc c fs h => .exc c fs h
  | .bad => .bad
/-- the end of a statement -/
inductive F where
  | nx (e : Pe) (h : Ph) | ret (d : D) (h : Ph) | brk (e : Pe) (h : Ph) | cnt (e : Pe) (h : Ph)
  | exc (c : Str) (fs : Option (List (Str × D))) (e : Pe) (h : Ph)
  | bad
abbrev SE := Pe → Ph → R D
abbrev ST := Pe → Ph → R Bool
abbrev SA := Pe → Ph → R (List D)
abbrev SS := Pe → Ph → F
def R.toF {α : Type} (r : R α) (e : Pe) (k : α → Ph → F) : F := match r with
  | .ok a h => k a h
  | .exc c fs h => .exc c fs e h
  | .bad => .bad

/-! ### how data lie in memory -/
/-- the addresses of the objects that may change; what stands for good -/
structure Wd where
  ms : List Addr
  G : Hp
section
variable (K : PySem.W.Frag) (mg : Str → Option Value)
mutual
inductive Rep (w : Wd) : D → V → Prop
  | non : Rep w .non .non
  | bl (b : Bool) : Rep w (.bl b) (.bl b)
  | int (i : Int) : Rep w (.int i) (.int i)
  | str (x : Str) : Rep w (.str x) (.str x)
  | tup {a : Addr} {vs : List V} {xs : List D} : SqT K w.G a vs → Reps w xs vs → Rep w (.tup xs) (.ref a)
  | lst {a : Addr} {vs : List V} {xs : List D} : w.G a = some (.lst vs) → Reps w xs vs → Rep w (.lst xs) (.ref a)
  | seq {a : Addr} {vs : List V} {xs : List D} : SqL K w.G a vs → Reps w xs vs → Rep w (.seq xs) (.ref a)
  | ref {n : Nat} {a : Addr} : w.ms[n]? = some a → Rep w (.ref n) (.ref a)
  | glo {x : Str} {a : Addr} : mg x = some (.ref a) → Rep w (.glo x) (.ref a)
  | ty (n : String) : Rep w (.ty n) (.ty n)
inductive Reps (w : Wd) : List D → List V → Prop
  | nil : Reps w [] []
  | cons {d : D} {ds : List D} {v : V} {vs : List V} : Rep w d v → Reps w ds vs → Reps w (d :: ds) (v :: vs)
end
end
structure Le (w w' : Wd) : Prop where
  ms : ∃ l, w'.ms = w.ms ++ l
  ex : Ex w.G w'.G
theorem Le.refl (w : Wd) : Le w w := ⟨⟨[], by simp⟩, Ex.refl _⟩
theorem Le.trans {a b c : Wd} (h : Le a b) (k : Le b c) : Le a c := by
  obtain ⟨⟨l, e⟩, x⟩ := h
  obtain ⟨⟨m, f⟩, y⟩ := k
  exact ⟨⟨l ++ m, by rw [f, e, List.append_assoc]⟩, x.trans y⟩
theorem Le.at {w w' : Wd} (l : Le w w') {n : Nat} {a : Addr} (h : w.ms[n]? = some a) : w'.ms[n]? = some a := by
  obtain ⟨⟨m, e⟩, _⟩ := l
  rw [e, List.getElem?_append_left (List.getElem?_eq_some_iff.mp h).1]
  exact h
section
variable {K : PySem.W.Frag} {mg : Str → Option Value} {w w' : Wd}
mutual
theorem Rep.mono (l : Le w w') : ∀ {d : D} {v : V}, Rep K mg w d v → Rep K mg w' d v
  | _, _, .non => .non
  | _, _, .bl b => .bl b
  | _, _, .int i => .int i
  | _, _, .str x => .str x
  | _, _, .tup h r => .tup (ex_t l.ex h) (Reps.mono l r)
  | _, _, .lst h r => .lst (l.ex _ _ h) (Reps.mono l r)
  | _, _, .seq h r => .seq (ex_l l.ex h) (Reps.mono l r)
  | _, _, .ref h => .ref (l.at h)
  | _, _, .glo h => .glo h
  | _, _, .ty n => .ty n
theorem Reps.mono (l : Le w w') : ∀ {d : List D} {v : List V}, Reps K mg w d v → Reps K mg w' d v
  | _, _, .nil => .nil
  | _, _, .cons h r => .cons (Rep.mono l h) (Reps.mono l r)
end
theorem Reps.length : ∀ {d : List D} {v : List V}, Reps K mg w d v → d.length = v.length
  | _, _, .nil => rfl
  | _, _, .cons _ r => by rw [List.length_cons, List.length_cons, Reps.length r]
theorem Reps.append : ∀ {d : List D} {v : List V} {d' : List D} {v' : List V}, Reps K mg w d v → Reps K mg w d' v' → Reps K mg w (d ++ d') (v ++ v')
  | _, _, _, _, .nil, s => s
  | _, _, _, _, .cons h r, s => .cons h (Reps.append r s)
theorem Reps.get : ∀ {d : List D} {v : List V} {i : Nat} {x : D}, Reps K mg w d v → d[i]? = some x → ∃ y, v[i]? = some y ∧ Rep K mg w x y
  | _, _, _, _, .nil, e => by simp at e
  | _, _, 0, _, .cons h _, e => by simp at e; subst e; exact ⟨_, rfl, h⟩
  | _, _, i + 1, x, .cons _ r, e => by
    obtain ⟨y, h1, h2⟩ := Reps.get (i := i) (x := x) r (by simpa using e)
    exact ⟨y, by simpa using h1, h2⟩
theorem Reps.getV : ∀ {d : List D} {v : List V} {i : Nat} {y : V}, Reps K mg w d v → v[i]? = some y → ∃ x, d[i]? = some x ∧ Rep K mg w x y
  | _, _, _, _, .nil, e => by simp at e
  | _, _, 0, _, .cons h _, e => by simp at e; subst e; exact ⟨_, rfl, h⟩
  | _, _, i + 1, x, .cons _ r, e => by
    obtain ⟨y, h1, h2⟩ := Reps.getV (i := i) (y := x) r (by simpa using e)
    exact ⟨y, by simpa using h1, h2⟩
theorem Reps.set {x : D} {y : V} (h : Rep K mg w x y) : ∀ {d : List D} {v : List V} (i : Nat), Reps K mg w d v → Reps K mg w (d.set i x) (v.set i y)
  | _, _, _, .nil => .nil
  | _, _, 0, .cons _ r => .cons h r
  | _, _, i + 1, .cons q r => .cons q (Reps.set h i r)
theorem Reps.drop : ∀ {d : List D} {v : List V} (n : Nat), Reps K mg w d v → Reps K mg w (d.drop n) (v.drop n)
  | _, _, 0, h => h
  | _, _, _ + 1, .nil => .nil
  | _, _, n + 1, .cons _ r => Reps.drop n r
theorem Reps.take : ∀ {d : List D} {v : List V} (n : Nat), Reps K mg w d v → Reps K mg w (d.take n) (v.take n)
  | _, _, 0, _ => .nil
  | _, _, _ + 1, .nil => .nil
  | _, _, n + 1, .cons h r => .cons h (Reps.take n r)
theorem Reps.reverse : ∀ {d : List D} {v : List V}, Reps K mg w d v → Reps K mg w d.reverse v.reverse
  | _, _, .nil => .nil
  | _, _, .cons h r => by
    rw [List.reverse_cons, List.reverse_cons]
    exact (Reps.reverse r).append (.cons h .nil)
end

/-- fields, entries -/
inductive RepF (K : PySem.W.Frag) (mg : Str → Option Value) (w : Wd) : List (Str × D) → List (Str × V) → Prop
  | nil : RepF K mg w [] []
  | cons {x : Str} {d : D} {v : V} {ds : List (Str × D)} {vs : List (Str × V)} : Rep K mg w d v → RepF K mg w ds vs → RepF K mg w ((x, d) :: ds) ((x, v) :: vs)
inductive RepK {κ : Type} (K : PySem.W.Frag) (mg : Str → Option Value) (w : Wd) : List (κ × D) → List (κ × V) → Prop
  | nil : RepK K mg w [] []
  | cons {x : κ} {d : D} {v : V} {ds : List (κ × D)} {vs : List (κ × V)} : Rep K mg w d v → RepK K mg w ds vs → RepK K mg w ((x, d) :: ds) ((x, v) :: vs)
inductive RepO (K : PySem.W.Frag) (mg : Str → Option Value) (w : Wd) : PO → HO → Prop
  | lst {xs : List D} {vs : List V} : Reps K mg w xs vs → RepO K mg w (.lst xs) (.lst vs)
  | dK {xs : List (Key × D)} {vs : List (Key × V)} : RepK K mg w xs vs → RepO K mg w (.dK xs) (.dK vs)
  | dT {xs : List (List Key × D)} {vs : List (List Key × V)} : RepK K mg w xs vs → RepO K mg w (.dT xs) (.dT vs)
  | ins {c : Str} {C dx : Addr} {xs : List (Str × D)} {vs : List (Str × V)} : mg c = some (.ref C) → RepF K mg w xs vs → RepO K mg w (.ins c xs) (.ins C dx vs)
  | dead {u : HO} : RepO K mg w .dead u
section
variable {K : PySem.W.Frag} {mg : Str → Option Value} {w w' : Wd}
theorem RepF.mono (l : Le w w') : ∀ {d : List (Str × D)} {v : List (Str × V)}, RepF K mg w d v → RepF K mg w' d v
  | _, _, .nil => .nil
  | _, _, .cons h r => .cons (h.mono l) (RepF.mono l r)
theorem RepK.mono {κ : Type} (l : Le w w') : ∀ {d : List (κ × D)} {v : List (κ × V)}, RepK K mg w d v → RepK K mg w' d v
  | _, _, .nil => .nil
  | _, _, .cons h r => .cons (h.mono l) (RepK.mono l r)
theorem RepO.mono (l : Le w w') {o : PO} {u : HO} (h : RepO K mg w o u) : RepO K mg w' o u := by
  cases h with
  | lst h => exact .lst (h.mono l)
  | dK h => exact .dK (h.mono l)
  | dT h => exact .dT (h.mono l)
  | ins h1 h => exact .ins h1 (h.mono l)
  | dead => exact .dead
end

/-- memory H bears the objects h by w -/
structure Lk (K : PySem.W.Frag) (mg : Str → Option Value) (w : Wd) (h : Ph) (H : Hp) : Prop where
  ex : Ex w.G H
  len : w.ms.length = h.length
  obj : ∀ (n : Nat) (a : Addr) (o : PO), w.ms[n]? = some a → h[n]? = some o → ∃ u, H a = some u ∧ RepO K mg w o u
  inj : ∀ (i j : Nat) (a : Addr), w.ms[i]? = some a → w.ms[j]? = some a → i = j
  out : ∀ (n : Nat) (a : Addr) (o : PO), w.ms[n]? = some a → h[n]? = some o → o ≠ .dead → w.G a = none
/-- what a run may do to memory -/
structure Step (w : Wd) (H : Hp) (w' : Wd) (H' : Hp) : Prop where
  le : Le w w'
  frm : ∀ a o, H a = some o → a ∉ w.ms → H' a = some o
  newM : ∀ a, a ∈ w'.ms → a ∈ w.ms ∨ H a = none
  newG : ∀ a, H a ≠ none → a ∉ w.ms → w'.G a = w.G a
theorem Step.refl (w : Wd) (H : Hp) : Step w H w H := ⟨Le.refl w, fun _ _ h _ => h, fun _ h => .inl h, fun _ _ _ => rfl⟩
theorem Step.trans {w w1 w2 : Wd} {H H1 H2 : Hp} (a : Step w H w1 H1) (b : Step w1 H1 w2 H2) : Step w H w2 H2 := by
  have nm : ∀ x, H x ≠ none → x ∉ w.ms → x ∉ w1.ms := fun x h1 h2 h3 => (a.newM x h3).elim h2 h1
  refine ⟨a.le.trans b.le, fun x o h1 h2 => b.frm x o (a.frm x o h1 h2) (nm x (by rw [h1]; simp) h2), fun x h1 => ?_, fun x h1 h2 => ?_⟩
  · rcases b.newM x h1 with h | h
    · exact a.newM x h
    · cases e : H x with
      | none => exact .inr rfl
      | some o =>
        by_cases hm : x ∈ w.ms
        · exact .inl hm
        · rw [a.frm x o e hm] at h
          cases h
  · cases e : H x with
    | none => exact absurd e h1
    | some o =>
      rw [b.newG x (by rw [a.frm x o e h2]; simp) (nm x h1 h2), a.newG x h1 h2]

section
variable {K : PySem.W.Frag} {mg : Str → Option Value} {w w' : Wd} {h : Ph} {H : Hp}
theorem Lk.there (L : Lk K mg w h H) {n : Nat} {a : Addr} (e : w.ms[n]? = some a) : ∃ o u, h[n]? = some o ∧ H a = some u ∧ RepO K mg w o u := by
  have hn : n < h.length := by rw [← L.len]; exact (List.getElem?_eq_some_iff.mp e).1
  obtain ⟨u, hu, r⟩ := L.obj n a h[n] e (by simp [hn])
  exact ⟨_, u, by simp [hn], hu, r⟩
theorem Lk.mem (L : Lk K mg w h H) {a : Addr} (e : a ∈ w.ms) : ∃ u, H a = some u := by
  obtain ⟨n, hn⟩ := List.getElem?_of_mem e
  obtain ⟨_, u, _, hu, _⟩ := L.there hn
  exact ⟨u, hu⟩
/-- a new object that changes no more -/
theorem Lk.lay (L : Lk K mg w h H) {p : Addr} (hp : H p = none) (o : HO) : Lk K mg ⟨w.ms, upd w.G p o⟩ h (upd H p o) ∧ Step w H ⟨w.ms, upd w.G p o⟩ (upd H p o) ∧ Le w ⟨w.ms, upd w.G p o⟩ := by
  have gp : w.G p = none := fresh_back L.ex hp
  have le : Le w ⟨w.ms, upd w.G p o⟩ := ⟨⟨[], by simp⟩, Ex.new gp⟩
  have nm : ∀ (n : Nat) (a : Addr), w.ms[n]? = some a → a ≠ p := fun n a e z => by
    obtain ⟨_, u, _, hu, _⟩ := L.there e
    rw [z, hp] at hu
    cases hu
  refine ⟨⟨fun a u e => ?_, L.len, fun n a o' e1 e2 => ?_, L.inj, fun n a o' e e2 e3 => ?_⟩, ⟨le, fun a u e _ => ?_, fun a e => .inl e, fun a e _ => ?_⟩, le⟩
  · by_cases z : a = p
    · subst z
      rw [show (⟨w.ms, upd w.G a o⟩ : Wd).G a = some o from upd_same] at e
      rw [upd_same]; exact e
    · rw [show (⟨w.ms, upd w.G p o⟩ : Wd).G a = w.G a from upd_ne z] at e
      rw [upd_ne z]; exact L.ex a u e
  · obtain ⟨u, hu, r⟩ := L.obj n a o' e1 e2
    exact ⟨u, by rw [upd_ne (nm n a e1)]; exact hu, r.mono le⟩
  · show upd w.G p o a = none
    rw [upd_ne (nm n a e)]
    exact L.out n a o' e e2 e3
  · rw [upd_ne (ne_of_none e hp)]; exact e
  · show upd w.G p o a = w.G a
    exact upd_ne fun z => e (by rw [z]; exact hp)
/-- a new object that may change -/
theorem Lk.new (L : Lk K mg w h H) {p : Addr} (hp : H p = none) (o : PO) (u : HO) (r : RepO K mg ⟨w.ms ++ [p], w.G⟩ o u) :
    Lk K mg ⟨w.ms ++ [p], w.G⟩ (h ++ [o]) (upd H p u) ∧ Step w H ⟨w.ms ++ [p], w.G⟩ (upd H p u) ∧ Le w ⟨w.ms ++ [p], w.G⟩ := by
  have gp : w.G p = none := fresh_back L.ex hp
  have le : Le w ⟨w.ms ++ [p], w.G⟩ := ⟨⟨[p], rfl⟩, Ex.refl _⟩
  have nm : ∀ a, a ∈ w.ms → a ≠ p := fun a e z => by
    obtain ⟨u, hu⟩ := L.mem e
    rw [z, hp] at hu
    cases hu
  have split : ∀ (n : Nat) (a : Addr), (w.ms ++ [p])[n]? = some a → (w.ms[n]? = some a ∧ n < h.length) ∨ (n = h.length ∧ a = p) := fun n a e => by
    by_cases hn : n < w.ms.length
    · rw [List.getElem?_append_left hn] at e
      exact .inl ⟨e, by rw [← L.len]; exact hn⟩
    · have q := (List.getElem?_eq_some_iff.mp e).1
      rw [List.length_append, List.length_singleton] at q
      have e1 : n = w.ms.length := by omega
      subst e1
      simp at e
      exact .inr ⟨L.len, e.symm⟩
  refine ⟨⟨fun a v e => ?_, ?_, fun n a o' e1 e2 => ?_, fun i j a e1 e2 => ?_, fun n a o' e e2 e3 => ?_⟩, ⟨le, fun a v e _ => ?_, fun a e => ?_, fun a _ _ => rfl⟩, le⟩
  · have e' : w.G a = some v := e
    rw [upd_ne (ne_of_none e' gp)]
    exact L.ex a v e'
  · show (w.ms ++ [p]).length = (h ++ [o]).length
    rw [List.length_append, List.length_append, L.len, List.length_singleton, List.length_singleton]
  · rcases split n a e1 with ⟨q, hn⟩ | ⟨rfl, rfl⟩
    · rw [List.getElem?_append_left hn] at e2
      obtain ⟨v, hv, r'⟩ := L.obj n a o' q e2
      exact ⟨v, by rw [upd_ne (nm a (List.mem_of_getElem? q))]; exact hv, r'.mono le⟩
    · simp at e2
      subst e2
      exact ⟨u, upd_same, r⟩
  · rcases split i a e1 with ⟨q, hi⟩ | ⟨rfl, rfl⟩
    · rcases split j a e2 with ⟨q', hj⟩ | ⟨rfl, rfl⟩
      · exact L.inj i j a q q'
      · exact absurd rfl (nm _ (List.mem_of_getElem? q))
    · rcases split j a e2 with ⟨q', hj⟩ | ⟨rfl, _⟩
      · exact absurd rfl (nm _ (List.mem_of_getElem? q'))
      · rfl
  · rcases split n a e with ⟨q, hn⟩ | ⟨_, rfl⟩
    · rw [List.getElem?_append_left hn] at e2
      exact L.out n a o' q e2 e3
    · exact gp
  · rw [upd_ne (ne_of_none e hp)]; exact e
  · rcases List.mem_append.mp e with q | q
    · exact .inl q
    · have : a = p := by simpa using q
      rw [this]; exact .inr hp
/-- an object is changed -/
theorem Lk.put (L : Lk K mg w h H) {n : Nat} {a : Addr} {o0 : PO} (e : w.ms[n]? = some a) (e0 : h[n]? = some o0) (hd : o0 ≠ .dead) (o : PO) (u : HO) (r : RepO K mg w o u) : Lk K mg w (h.set n o) (upd H a u) ∧ Step w H w (upd H a u) := by
  have ga := L.out n a o0 e e0 hd
  refine ⟨⟨fun b v q => ?_, by rw [List.length_set]; exact L.len, fun m b o' e1 e2 => ?_, L.inj, fun m b o' e1 e2 e3 => ?_⟩, ⟨Le.refl w, fun b v q nb => ?_, fun _ q => .inl q, fun _ _ _ => rfl⟩⟩
  · rw [upd_ne (ne_of_none q ga)]
    exact L.ex b v q
  · by_cases z : m = n
    · subst z
      rw [e] at e1
      cases e1
      rw [List.getElem?_set_self' ] at e2
      cases hm : h[m]? with
      | none => rw [hm] at e2; cases e2
      | some x =>
        rw [hm] at e2
        cases e2
        exact ⟨u, upd_same, r⟩
    · rw [List.getElem?_set_ne (Ne.symm z)] at e2
      obtain ⟨v, hv, r'⟩ := L.obj m b o' e1 e2
      refine ⟨v, ?_, r'⟩
      rw [upd_ne fun y => z (L.inj m n a (by rw [← y]; exact e1) e)]
      exact hv
  · by_cases z : m = n
    · subst z
      rw [e] at e1
      cases e1
      exact ga
    · rw [List.getElem?_set_ne (Ne.symm z)] at e2
      exact L.out m b o' e1 e2 e3
  · rw [upd_ne fun y => nb (by rw [y]; exact List.mem_of_getElem? e)]
    exact q
/-- a list that changes no more -/
theorem Lk.frz (L : Lk K mg w h H) {n : Nat} {a : Addr} {o0 : PO} {u : HO} (e : w.ms[n]? = some a) (e0 : h[n]? = some o0) (hd : o0 ≠ .dead) (hu : H a = some u) :
    Lk K mg ⟨w.ms, upd w.G a u⟩ (h.set n .dead) H ∧ Step w H ⟨w.ms, upd w.G a u⟩ H ∧ Le w ⟨w.ms, upd w.G a u⟩ := by
  have ga := L.out n a o0 e e0 hd
  have le : Le w ⟨w.ms, upd w.G a u⟩ := ⟨⟨[], by simp⟩, Ex.new ga⟩
  refine ⟨⟨fun b v q => ?_, by rw [List.length_set]; exact L.len, fun m b o' e1 e2 => ?_, L.inj, fun m b o' e1 e2 e3 => ?_⟩, ⟨le, fun b v q _ => q, fun _ q => .inl q, fun b q nb => ?_⟩, le⟩
  · by_cases z : b = a
    · subst z
      rw [show (⟨w.ms, upd w.G b u⟩ : Wd).G b = some u from upd_same] at q
      rw [hu]; exact q
    · rw [show (⟨w.ms, upd w.G a u⟩ : Wd).G b = w.G b from upd_ne z] at q
      exact L.ex b v q
  · by_cases z : m = n
    · subst z
      rw [e] at e1
      cases e1
      rw [List.getElem?_set_self', e0] at e2
      cases e2
      exact ⟨u, hu, .dead⟩
    · rw [List.getElem?_set_ne (Ne.symm z)] at e2
      obtain ⟨v, hv, r'⟩ := L.obj m b o' e1 e2
      exact ⟨v, hv, r'.mono le⟩
  · by_cases z : m = n
    · subst z
      rw [List.getElem?_set_self', e0] at e2
      cases e2
      exact absurd rfl e3
    · rw [List.getElem?_set_ne (Ne.symm z)] at e2
      show upd w.G a u b = none
      rw [upd_ne fun y => z (L.inj m n a (by rw [← y]; exact e1) e)]
      exact L.out m b o' e1 e2 e3
  · show upd w.G a u b = w.G b
    exact upd_ne fun y => nb (by rw [y]; exact List.mem_of_getElem? e)
end
/-! ### what follows -/
/-- the names of the frame -/
structure En (K : PySem.W.Frag) (mg : Str → Option Value) (w : Wd) (e : Pe) (σ : St) : Prop where
  len : e.length = σ.length
  get : ∀ (i : Nat) (d : D), e[i]? = some (some d) → ∃ v, σ[i]? = some (some v) ∧ Rep K mg w d v
theorem En.mono {K : PySem.W.Frag} {mg : Str → Option Value} {w w' : Wd} {e : Pe} {σ : St} (E : En K mg w e σ) (l : Le w w') : En K mg w' e σ := ⟨E.len, fun i d h => by
  obtain ⟨v, h1, h2⟩ := E.get i d h
  exact ⟨v, h1, h2.mono l⟩⟩
theorem En.set {K : PySem.W.Frag} {mg : Str → Option Value} {w : Wd} {e : Pe} {σ : St} (E : En K mg w e σ) {d : D} {v : V} (r : Rep K mg w d v) (i : Nat) : En K mg w (e.set i (some d)) (σ.set i (some v)) := by
  refine ⟨by rw [List.length_set, List.length_set]; exact E.len, fun j x h => ?_⟩
  by_cases hj : j = i
  · subst hj
    have hl : j < e.length := by
      have q := (List.getElem?_eq_some_iff.mp h).1
      rw [List.length_set] at q
      exact q
    rw [List.getElem?_set_self hl] at h
    cases h
    exact ⟨v, List.getElem?_set_self (by rw [← E.len]; exact hl), r⟩
  · rw [List.getElem?_set_ne (Ne.symm hj)] at h ⊢
    exact E.get j x h
theorem En.unset {K : PySem.W.Frag} {mg : Str → Option Value} {w : Wd} {e : Pe} {σ : St} (E : En K mg w e σ) (i : Nat) (o : Option V) : En K mg w (e.set i none) (σ.set i o) := by
  refine ⟨by rw [List.length_set, List.length_set]; exact E.len, fun j x h => ?_⟩
  by_cases hj : j = i
  · subst hj
    have hl : j < e.length := by
      have q := (List.getElem?_eq_some_iff.mp h).1
      rw [List.length_set] at q
      exact q
    rw [List.getElem?_set_self hl] at h
    cases h
  · rw [List.getElem?_set_ne (Ne.symm hj)] at h ⊢
    exact E.get j x h
/-- an exception as it is handed on: its class, its own dict -/
inductive RepX (K : PySem.W.Frag) (mg : Str → Option Value) (w : Wd) : Str → Option (List (Str × D)) → Value → Option Addr → Prop
  | plain {c : Str} {C : Addr} {dd : Option Addr} : mg c = some (.ref C) → RepX K mg w c none (.ref C) dd
  | kept {c : Str} {C d : Addr} {fs : List (Str × D)} {vs : List (Str × V)} : mg c = some (.ref C) → w.G d = some (.xd vs) → RepF K mg w fs vs → RepX K mg w c (some fs) (.ref C) (some d)
theorem RepX.mono {K : PySem.W.Frag} {mg : Str → Option Value} {w w' : Wd} (l : Le w w') {c : Str} {fs : Option (List (Str × D))} {C : Value} {d : Option Addr} (h : RepX K mg w c fs C d) : RepX K mg w' c fs C d := by
  cases h with
  | plain h => exact .plain h
  | kept h1 h2 h3 => exact .kept h1 (l.ex _ _ h2) (h3.mono l)

section
variable (K : PySem.W.Frag) (mg : Str → Option Value)
/-- what is to hold behind r for α = D, with W for exceptions -/
def Po {α β : Type} (Rp : Wd → α → β → Prop) (W : WX) (σ : St) (w : Wd) (H : Hp) (r : R α) (Q : β → Hp → Prop) : Prop := match r with
  | .ok a h' => ∀ w' H' v, Step w H w' H' → Lk K mg w' h' H' → Rp w' a v → Q v H'
  | .exc c fs h' => ∀ w' H' C d, Step w H w' H' → Lk K mg w' h' H' → RepX K mg w' c fs C d → W C d σ H'
  | .bad => False
def PoF (W : WX) (w : Wd) (H : Hp) (r : F) (D : Ends) : Prop := match r with
  | .nx e' h' => ∀ w' H' σ', Step w H w' H' → Lk K mg w' h' H' → En K mg w' e' σ' → D.nx σ' H'
  | .ret d h' => ∀ w' H' v, Step w H w' H' → Lk K mg w' h' H' → Rep K mg w' d v → D.rt v H'
  | .brk e' h' => ∀ w' H' σ', Step w H w' H' → Lk K mg w' h' H' → En K mg w' e' σ' → D.bk σ' H'
  | .cnt e' h' => ∀ w' H' σ', Step w H w' H' → Lk K mg w' h' H' → En K mg w' e' σ' → D.ct σ' H'
  | .exc c fs e' h' => ∀ w' H' σ' C d, Step w H w' H' → Lk K mg w' h' H' → En K mg w' e' σ' → RepX K mg w' c fs C d → W C d σ' H'
  | .bad => False
def RpB (_ : Wd) (a : Bool) (b : Bool) : Prop := a = b
abbrev PoE := Po (α := D) (β := V) K mg (Rep K mg)
abbrev PoT := Po (α := Bool) (β := Bool) K mg RpB
abbrev PoA := Po (α := List D) (β := List V) K mg (Reps K mg)
/-! ### what is sound -/
def SnE (W : WX) (t : TE) (f : SE) : Prop := ∀ (σ : St) (e : Pe) (w : Wd) (h : Ph) (H : Hp) (Q : VK), En K mg w e σ → Lk K mg w h H → PoE K mg W σ w H (f e h) Q → t σ H Q
def SnT (W : WX) (t : TT) (f : ST) : Prop := ∀ (σ : St) (e : Pe) (w : Wd) (h : Ph) (H : Hp) (Q : Bool → Hp → Prop), En K mg w e σ → Lk K mg w h H → PoT K mg W σ w H (f e h) Q → t σ H Q
def SnA (W : WX) (t : TA) (f : SA) : Prop := ∀ (σ : St) (e : Pe) (w : Wd) (h : Ph) (H : Hp) (Q : List V → Hp → Prop), En K mg w e σ → Lk K mg w h H → PoA K mg W σ w H (f e h) Q → t σ H Q
def SnS (W : WX) (t : TS) (f : SS) : Prop := ∀ (σ : St) (e : Pe) (w : Wd) (h : Ph) (H : Hp) (D : Ends), En K mg w e σ → Lk K mg w h H → PoF K mg W w H (f e h) D → t D σ H
end
section
variable {K : PySem.W.Frag} {mg : Str → Option Value} {W : WX} {σ : St} {w w1 : Wd} {H H1 : Hp}
theorem Po.step {α β : Type} {Rp : Wd → α → β → Prop} {r : R α} {Q : β → Hp → Prop} (st : Step w H w1 H1) (h : Po K mg Rp W σ w H r Q) : Po K mg Rp W σ w1 H1 r Q := by
  cases r with
  | ok a h' => exact fun w' H' v s => h w' H' v (st.trans s)
  | exc c fs h' => exact fun w' H' C d s => h w' H' C d (st.trans s)
  | bad => exact h
theorem PoF.step {r : F} {D : Ends} (st : Step w H w1 H1) (h : PoF K mg W w H r D) : PoF K mg W w1 H1 r D := by
  cases r with
  | nx e' h' => exact fun w' H' v s => h w' H' v (st.trans s)
  | ret e' h' => exact fun w' H' v s => h w' H' v (st.trans s)
  | brk e' h' => exact fun w' H' v s => h w' H' v (st.trans s)
  | cnt e' h' => exact fun w' H' v s => h w' H' v (st.trans s)
  | exc c fs e' h' => exact fun w' H' σ' C d s => h w' H' σ' C d (st.trans s)
  | bad => exact h
/-- one after the other -/
theorem Po.bind {α β γ δ : Type} {Rp : Wd → α → β → Prop} {Rq : Wd → γ → δ → Prop} {r : R α} {k : α → Ph → R γ} {Q : δ → Hp → Prop} {Q1 : β → Hp → Prop} (hp : Po K mg Rq W σ w H (r.bind k) Q)
    (hk : ∀ a h1 w1 H1 v, r = .ok a h1 → Step w H w1 H1 → Lk K mg w1 h1 H1 → Rp w1 a v → Po K mg Rq W σ w1 H1 (k a h1) Q → Q1 v H1) : Po K mg Rp W σ w H r Q1 := by
  cases r with
  | ok a h1 => exact fun w1 H1 v st L rp => hk a h1 w1 H1 v rfl st L rp (Po.step st hp)
  | exc c fs h1 => exact hp
  | bad => exact hp
theorem Po.toF {α β : Type} {Rp : Wd → α → β → Prop} {r : R α} {k : α → Ph → F} {e : Pe} {D : Ends} {Q1 : β → Hp → Prop} (E : En K mg w e σ) (hp : PoF K mg W w H (r.toF e k) D)
    (hk : ∀ a h1 w1 H1 v, r = .ok a h1 → Step w H w1 H1 → Lk K mg w1 h1 H1 → Rp w1 a v → PoF K mg W w1 H1 (k a h1) D → Q1 v H1) : Po K mg Rp W σ w H r Q1 := by
  cases r with
  | ok a h1 => exact fun w1 H1 v st L rp => hk a h1 w1 H1 v rfl st L rp (PoF.step st hp)
  | exc c fs h1 => exact fun w1 H1 C d st L rx => hp w1 H1 σ C d st L (E.mono st.le) rx
  | bad => exact hp
end

/-! ### the judgements -/
/-- what stays the same for the contexts of a def: program, world, written part, globals, base, names -/
structure Cz where
  P : Program
  w : World
  K : PySem.W.Frag
  mg : Str → Option Value
  base : Heap
  N : List Str
/-- what may differ -/
structure Cy where
  A : Around
  s_0 : Shared
  H_0 : Hp
  env : Env
  outer : List Env
  stack : List Env
  ex : List Addr
  fn : Str → Bool
  calm : Bool
  pn : List (Addr × Obj)
  xe : Value → Shared → Prop
abbrev cx (Z : Cz) (y : Cy) : Cx := { prog := Z.P, w := Z.w, K := Z.K, mg := Z.mg, base := Z.base, A := y.A, N := Z.N, s_0 := y.s_0, H_0 := y.H_0, env := y.env, outer := y.outer, stack := y.stack, ex := y.ex, fn := y.fn, calm := y.calm, pn := y.pn, xe := y.xe }
section
variable {ι : Type}
def EI (Z : Cz) (Y : ι → Cy) (W : WX) (e : Expr) (f : SE) : Prop := ∃ t, (∀ i, PE (cx Z (Y i)) e t) ∧ SnE Z.K Z.mg W t f
def TI (Z : Cz) (Y : ι → Cy) (W : WX) (e : Expr) (f : ST) : Prop := ∃ t, (∀ i, PT (cx Z (Y i)) e t) ∧ SnT Z.K Z.mg W t f
def AI (Z : Cz) (Y : ι → Cy) (W : WX) (es : List Expr) (f : SA) : Prop := ∃ t, (∀ i, PA (cx Z (Y i)) es t) ∧ SnA Z.K Z.mg W t f
def SI (Z : Cz) (Y : ι → Cy) (W : WX) (st : Stmt) (f : SS) : Prop := ∃ t, (∀ i, PS (cx Z (Y i)) st t) ∧ SnS Z.K Z.mg W t f
def BI (Z : Cz) (Y : ι → Cy) (W : WX) (st : List Stmt) (f : SS) : Prop := ∃ t, (∀ i, PSs (cx Z (Y i)) st t) ∧ SnS Z.K Z.mg W t f
variable {Z : Cz} {Y : ι → Cy} {W : WX}

/-! ### names, constants -/
def sVar (i : Nat) : SE := fun e h => match e[i]? with
  | some (some d) => .ok d h
  | _ => .bad
theorem ei_var (i : Nat) {x : Str} {pos : Pos} (hN : Z.N[i]? = some x := by rfl) (hv : ∀ i, Vis (Y i).env.scope x := by first | exact fun _ => Or.inl rfl | exact fun _ => Or.inr (Or.inl rfl) | exact fun _ => Or.inr (Or.inr rfl)) (hd : (x == ("__debug__" : Str)) = false := by decide)
    (hcd : (x == ("__classdict__" : Str)) = false := by decide) : EI Z Y W (.Name x pos) (sVar i) := by
  refine ⟨_, fun j => pe_var hN (hv j) hd hcd, fun σ e w h H Q E L hp => ?_⟩
  unfold sVar at hp
  cases he : e[i]? with
  | none => rw [he] at hp; exact hp.elim
  | some o =>
    cases o with
    | none => rw [he] at hp; exact hp.elim
    | some d =>
      rw [he] at hp
      obtain ⟨v, h1, h2⟩ := E.get i d he
      exact ⟨v, h1, hp w H v (Step.refl w H) L h2⟩
def sC (d : D) : SE := fun _ h => .ok d h
theorem sn_c {K : PySem.W.Frag} {mg : Str → Option Value} {d : D} {v : V} (r : ∀ w, Rep K mg w d v) : SnE K mg W (tC v) (sC d) := fun σ e w h H Q E L hp => hp w H v (Step.refl w H) L (r w)
theorem ei_int {i j pos} : EI Z Y W (.Constant (.int i) j pos) (sC (.int i)) := ⟨_, fun _ => pe_int, sn_c fun _ => .int i⟩
theorem ei_bl {b j pos} : EI Z Y W (.Constant (.bool b) j pos) (sC (.bl b)) := ⟨_, fun _ => pe_bl, sn_c fun _ => .bl b⟩
theorem ei_non {j pos} : EI Z Y W (.Constant .none j pos) (sC .non) := ⟨_, fun _ => pe_non, sn_c fun _ => .non⟩
theorem ei_str {x j pos} : EI Z Y W (.Constant (.str x) j pos) (sC (.str x)) := ⟨_, fun _ => pe_str, sn_c fun _ => .str x⟩
/-- a name of the module -/
def GlF (Y : ι → Cy) (x : Str) : Prop := ∀ i, (Y i).env.kindOf x = some .globalImplicit
/-- a constant of the module that is an int -/
theorem ei_gint {x : Str} {i : Int} {pos : Pos} (hg : GlF Y x) (hm : ∃ t, Z.mg x = some (.int i t)) (hd : (x == ("__debug__" : Str)) = false := by decide) : EI Z Y W (.Name x pos) (sC (.int i)) := by
  obtain ⟨t, hm⟩ := hm
  exact ⟨_, fun j => pe_glob (v := .int i) (hg j) hm ⟨t, rfl⟩ hd, sn_c fun _ => .int i⟩
/-- a def or a class of the text -/
theorem ei_glo {x : Str} {a : Addr} {pos : Pos} (hg : GlF Y x) (hm : Z.mg x = some (.ref a)) (hd : (x == ("__debug__" : Str)) = false := by decide) : EI Z Y W (.Name x pos) (sC (.glo x)) :=
  ⟨_, fun j => pe_glob (v := .ref a) (hg j) hm rfl hd, sn_c fun _ => .glo hm⟩
theorem ei_ty {x : Str} {n : String} {pos : Pos} (hg : GlF Y x) (hm : Z.mg x = none) (hv : bootBuiltins x = some (.type n)) (hn : x ≠ "__name__" := by decide) (hd : (x == ("__debug__" : Str)) = false := by decide) : EI Z Y W (.Name x pos) (sC (.ty n)) :=
  ⟨_, fun j => pe_bltn (v := .ty n) (hg j) hm hv rfl hn hd, sn_c fun _ => .ty n⟩

/-! ### operators -/
/-- a two-place operation by values -/
def sBin (g : D → D → Ph → R D) (fa fb : SE) : SE := fun e h => (fa e h).bind fun a h1 => (fb e h1).bind fun b h2 => g a b h2
def OpI (K : PySem.W.Frag) (mg : Str → Option Value) (r : R2) (g : D → D → Ph → R D) : Prop := ∀ (W : WX) (σ : St) (w : Wd) (h : Ph) (H : Hp) (a b : D) (x y : V) (Q : VK), Lk K mg w h H → Rep K mg w a x → Rep K mg w b y → PoE K mg W σ w H (g a b h) Q → r x y H Q
theorem sn_bin {K : PySem.W.Frag} {mg : Str → Option Value} {ta tb : TE} {r : R2} {g : D → D → Ph → R D} {fa fb : SE} (ho : OpI K mg r g) (ha : SnE K mg W ta fa) (hb : SnE K mg W tb fb) : SnE K mg W (tOp r ta tb) (sBin g fa fb) := fun σ e w h H Q E L hp =>
  ha σ e w h H _ E L (Po.bind (Rp := Rep K mg) hp fun a h1 w1 H1 x _ st1 L1 r1 hp1 => hb σ e w1 h1 H1 _ (E.mono st1.le) L1 (Po.bind (Rp := Rep K mg) hp1 fun b h2 w2 H2 y _ st2 L2 r2 hp2 =>
    ho W σ w2 h2 H2 a b x y Q L2 (r1.mono st2.le) r2 hp2))
/-- an operator's rule at each context -/
abbrev OpF (Z : Cz) (Y : ι → Cy) (f : Value → Value → Sem Value) (r : R2) : Prop := ∀ i, OpR (cx Z (Y i)) f r
theorem ei_bin {a b : Expr} {op : Operator} {r : R2} {g : D → D → Ph → R D} {fa fb : SE} {pos : Pos} (o : OpF Z Y (binaryOp op) r) (ho : OpI Z.K Z.mg r g) (ha : EI Z Y W a fa) (hb : EI Z Y W b fb) : EI Z Y W (.BinOp a op b pos) (sBin g fa fb) := by
  obtain ⟨ta, pa, sa⟩ := ha
  obtain ⟨tb, pb, sb⟩ := hb
  exact ⟨_, fun i => pe_op (o i) (pa i) (pb i), sn_bin ho sa sb⟩
theorem ei_cmp {a b : Expr} {op : CmpOp} {r : R2} {g : D → D → Ph → R D} {fa fb : SE} {pos : Pos} (o : OpF Z Y (compareOp op) r) (ho : OpI Z.K Z.mg r g) (hm : behindInMarks op b = false) (ha : EI Z Y W a fa) (hb : EI Z Y W b fb) : EI Z Y W (.Compare a [op] [b] pos) (sBin g fa fb) := by
  obtain ⟨ta, pa, sa⟩ := ha
  obtain ⟨tb, pb, sb⟩ := hb
  exact ⟨_, fun i => pe_cmpR (o i) (pa i) (pb i) hm, sn_bin ho sa sb⟩
/-- the same as a test -/
def D.tst (a : D) (h : Ph) : R Bool := match a with
  | .bl b => .ok b h
  | _ => .bad
def sTst (f : SE) : ST := fun e h => (f e h).bind fun a h1 => a.tst h1
/-- one of two ways -/
def br {α : Type} (b : Bool) (x y : α) : α := match b with
  | true => x
  | false => y
def D.br {α : Type} (a : D) (x y : R α) : R α := match a with
  | .bl b => Pd.br b x y
  | _ => .bad
theorem sn_tst {K : PySem.W.Frag} {mg : Str → Option Value} {t : TE} {f : SE} (h : SnE K mg W t f) : SnT K mg W (tTest t) (sTst f) := fun σ e w hh H Q E L hp =>
  h σ e w hh H _ E L (Po.bind (Rp := Rep K mg) hp fun a h1 w1 H1 x _ st1 L1 r1 hp1 => by
    cases r1 with
    | bl b => exact ⟨b, rfl, hp1 w1 H1 b (Step.refl _ _) L1 rfl⟩
    | _ => exact hp1.elim)
theorem ti_cmp {a b : Expr} {op : CmpOp} {r : R2} {g : D → D → Ph → R D} {fa fb : SE} {pos : Pos} (o : OpF Z Y (compareOp op) r) (ho : OpI Z.K Z.mg r g) (hm : behindInMarks op b = false) (ha : EI Z Y W a fa) (hb : EI Z Y W b fb) : TI Z Y W (.Compare a [op] [b] pos) (sTst (sBin g fa fb)) := by
  obtain ⟨ta, pa, sa⟩ := ha
  obtain ⟨tb, pb, sb⟩ := hb
  exact ⟨_, fun i => pt_cmpR (o i) (pa i) (pb i) hm, sn_tst (sn_bin ho sa sb)⟩
/-- an expression whose value is a bool -/
theorem ti_val {e : Expr} {f : SE} (h : EI Z Y W e f) (he : ∀ i whole, isTrue e (Y i).env whole = (do let v ← whole; standAt e.pos; holding [v] (truthy v)) := by intro _ _; rfl) : TI Z Y W e (sTst f) := by
  obtain ⟨t, p, s⟩ := h
  exact ⟨_, fun i => pt_val (p i) (he i), sn_tst s⟩
end
end Pd

namespace Pd
open PySem L2 Evl
section
variable {K : PySem.W.Frag} {mg : Str → Option Value} {X : Cx} {W : WX}
/-! ### small helps -/
theorem Po.here {α β : Type} {K : PySem.W.Frag} {mg : Str → Option Value} {Rp : Wd → α → β → Prop} {σ : St} {w : Wd} {H : Hp} {a : α} {h : Ph} {Q : β → Hp → Prop} {v : β} (L : Lk K mg w h H) (r : Rp w a v) (hp : Po K mg Rp W σ w H (.ok a h) Q) : Q v H := hp w H v (Step.refl w H) L r
theorem Reps.lay {K : PySem.W.Frag} {mg : Str → Option Value} {w : Wd} {H : Hp} {h : Ph} {p : Addr} (L : Lk K mg w h H) (hp : H p = none) {xs : List D} {vs : List V} (r : Reps K mg w xs vs) :
    Rep K mg ⟨w.ms, upd w.G p (.lst vs)⟩ (.lst xs) (.ref p) := .lst upd_same (r.mono (L.lay hp _).2.2)
/-- a new list, a new tuple is the answer -/
theorem Po.lst {K : PySem.W.Frag} {mg : Str → Option Value} {σ : St} {w : Wd} {H : Hp} {h : Ph} {xs : List D} {vs : List V} {Q : VK} {p : Addr} (L : Lk K mg w h H) (r : Reps K mg w xs vs) (hp : PoE K mg W σ w H (.ok (.lst xs) h) Q) (np : H p = none) : Q (.ref p) (upd H p (.lst vs)) := by
  obtain ⟨l1, l2, l3⟩ := L.lay np (.lst vs)
  exact hp _ _ _ l2 l1 (.lst upd_same (r.mono l3))
theorem Po.tup {K : PySem.W.Frag} {mg : Str → Option Value} {σ : St} {w : Wd} {H : Hp} {h : Ph} {xs : List D} {vs : List V} {Q : VK} {p : Addr} (L : Lk K mg w h H) (r : Reps K mg w xs vs) (hp : PoE K mg W σ w H (.ok (.tup xs) h) Q) (np : H p = none) : Q (.ref p) (upd H p (.tup vs)) := by
  obtain ⟨l1, l2, l3⟩ := L.lay np (.tup vs)
  exact hp _ _ _ l2 l1 (.tup (.inl (.inl upd_same)) (r.mono l3))
theorem SqT.ex {K : PySem.W.Frag} {mg : Str → Option Value} {w : Wd} {H : Hp} {h : Ph} (L : Lk K mg w h H) {a : Addr} {vs : List V} (q : SqT K w.G a vs) : SqT K H a vs := ex_t L.ex q
theorem SqL.ex {K : PySem.W.Frag} {mg : Str → Option Value} {w : Wd} {H : Hp} {h : Ph} (L : Lk K mg w h H) {a : Addr} {vs : List V} (q : SqL K w.G a vs) : SqL K H a vs := ex_l L.ex q

/-- a list that may be read, by its items -/
def lstOf (d : D) (h : Ph) : Option (List D) := match d with
  | .lst xs => some xs
  | .seq xs => some xs
  | .ref n => match h[n]? with
    | some (.lst xs) => some xs
    | _ => none
  | _ => none
theorem lstOf_ok {K : PySem.W.Frag} {mg : Str → Option Value} {w : Wd} {H : Hp} {h : Ph} (L : Lk K mg w h H) {d : D} {xs : List D} {v : V} (e : lstOf d h = some xs) (r : Rep K mg w d v) : ∃ a vs, v = .ref a ∧ SqL K H a vs ∧ Reps K mg w xs vs := by
  cases r with
  | lst q r => cases e; exact ⟨_, _, rfl, .inl (.inl (L.ex _ _ q)), r⟩
  | seq q r => cases e; exact ⟨_, _, rfl, ex_l L.ex q, r⟩
  | ref q =>
    obtain ⟨o, u, h1, h2, r'⟩ := L.there q
    unfold lstOf at e
    simp only [h1] at e
    cases r' with
    | lst r' => cases e; exact ⟨_, _, rfl, .inl (.inl h2), r'⟩
    | _ => cases e
  | _ => cases e
/-- a list of the call's own -/
def lsOf (d : D) (h : Ph) : Option (List D) := match d with
  | .lst xs => some xs
  | .ref n => match h[n]? with
    | some (.lst xs) => some xs
    | _ => none
  | _ => none
theorem lsOf_ok {K : PySem.W.Frag} {mg : Str → Option Value} {w : Wd} {H : Hp} {h : Ph} (L : Lk K mg w h H) {d : D} {xs : List D} {v : V} (e : lsOf d h = some xs) (r : Rep K mg w d v) : ∃ a vs, v = .ref a ∧ H a = some (.lst vs) ∧ Reps K mg w xs vs := by
  cases r with
  | lst q r => cases e; exact ⟨_, _, rfl, L.ex _ _ q, r⟩
  | ref q =>
    obtain ⟨o, u, h1, h2, r'⟩ := L.there q
    unfold lsOf at e
    simp only [h1] at e
    cases r' with
    | lst r' => cases e; exact ⟨_, _, rfl, h2, r'⟩
    | _ => cases e
  | _ => cases e
/-- an option -/
def R.opt {α γ : Type} (o : Option γ) (f : γ → R α) : R α := match o with
  | some x => f x
  | none => .bad
theorem R.opt_some {α γ : Type} (x : γ) (f : γ → R α) : R.opt (some x) f = f x := rfl
theorem Po.some {α β γ : Type} {K : PySem.W.Frag} {mg : Str → Option Value} {Rp : Wd → α → β → Prop} {σ : St} {w : Wd} {H : Hp} {Q : β → Hp → Prop} {o : Option γ} {f : γ → R α} (hp : Po K mg Rp W σ w H (R.opt o f) Q) :
    ∃ x, o = some x ∧ Po K mg Rp W σ w H (f x) Q := by
  cases o with
  | none => exact hp.elim
  | some x => exact ⟨x, rfl, hp⟩
theorem Po.ite {α β : Type} {K : PySem.W.Frag} {mg : Str → Option Value} {Rp : Wd → α → β → Prop} {σ : St} {w : Wd} {H : Hp} {Q : β → Hp → Prop} {c : Prop} [Decidable c] {f : R α} (hp : Po K mg Rp W σ w H (if c then f else .bad) Q) :
    c ∧ Po K mg Rp W σ w H f Q := by
  by_cases hc : c
  · rw [if_pos hc] at hp; exact ⟨hc, hp⟩
  · rw [if_neg hc] at hp; exact hp.elim

/-! ### + - * // % ** -/
/-- the most items of a list, signs of a text -/
def mostL : Nat := 16777216
theorem mostL_eq : mostL = sizeLine := by rw [sizeLine_eq]; rfl
theorem mostL_le {n : Nat} (h : n ≤ mostL) : n ≤ sizeLine := by rw [← mostL_eq]; exact h
def dCat (a b : D) (h : Ph) : R D := R.opt (lsOf a h) fun xs => R.opt (lsOf b h) fun ys => if xs.length + ys.length ≤ mostL then .ok (.lst (xs ++ ys)) h else .bad
def dAdd (a b : D) (h : Ph) : R D := match a, b with
  | .int i, .int j => .ok (.int (i + j)) h
  | .str x, .str y => if x.length + y.length ≤ mostL then .ok (.str (x ++ y)) h else .bad
  | .tup xs, .tup ys => if xs.length + ys.length ≤ mostL then .ok (.tup (xs ++ ys)) h else .bad
  | a, b => dCat a b h
def rAddAll (K : PySem.W.Frag) : R2 := fun x y H Q => (rI0 (fun i j => .int (i + j)) x y H Q) ∨ ((∃ i j, x = .str i ∧ y = .str j ∧ i.length + j.length ≤ sizeLine ∧ Q (.str (i ++ j)) H) ∨ (rCat x y H Q ∨ rCatA K x y H Q))
theorem oi_add : OpI K mg (rAddAll K) dAdd := by
  intro W σ w h H a b x y Q L ra rb hp
  have fall : PoE K mg W σ w H (dCat a b h) Q → rAddAll K x y H Q := fun hq => by
    obtain ⟨xs, e1, hq⟩ := Po.some hq
    obtain ⟨ys, e2, hq⟩ := Po.some hq
    obtain ⟨hl, hq⟩ := Po.ite hq
    obtain ⟨a1, vs, rfl, ha, r1⟩ := lsOf_ok L e1 ra
    obtain ⟨b1, us, rfl, hb, r2⟩ := lsOf_ok L e2 rb
    exact .inr (.inr (.inl ⟨a1, b1, vs, us, rfl, rfl, ha, hb, by rw [← r1.length, ← r2.length]; exact mostL_le hl, fun p np => Po.lst L (r1.append r2) hq np⟩))
  unfold dAdd at hp
  split at hp
  · cases ra; cases rb
    exact .inl ⟨_, _, rfl, rfl, Po.here L (.int _) hp⟩
  · cases ra; cases rb
    obtain ⟨hl, hp⟩ := Po.ite hp
    exact .inr (.inl ⟨_, _, rfl, rfl, mostL_le hl, Po.here L (.str _) hp⟩)
  · rename_i xs ys
    cases ra with
    | tup q1 r1 =>
      cases rb with
      | tup q2 r2 =>
        obtain ⟨hl, hp⟩ := Po.ite hp
        refine .inr (.inr (.inr ⟨_, _, _, _, rfl, rfl, SqT.ex L q1, SqT.ex L q2, by rw [← r1.length, ← r2.length]; exact mostL_le hl, fun z => ?_, fun _ z => ?_, fun _ _ p np => Po.tup L (r1.append r2) hp np⟩))
        · subst z
          cases r1
          exact Po.here L (.tup q2 r2) hp
        · subst z
          cases r2
          rw [List.append_nil] at hp
          exact Po.here L (.tup q1 r1) hp
  · exact fall hp
theorem op_addAll : OpR X (binaryOp .Add) (rAddAll X.K) := op_add.or (op_add_str.or (op_cat.or op_catA))
def dSub (a b : D) (h : Ph) : R D := match a, b with
  | .int i, .int j => .ok (.int (i - j)) h
  | _, _ => .bad
/-- an operation on ints, under a condition -/
theorem oi_int {C : Int → Int → Prop} {g : Int → Int → Int} {d : D → D → Ph → R D} (hd : ∀ (K : PySem.W.Frag) (mg : Str → Option Value) (W : WX) (σ : St) (w : Wd) (h : Ph) (H : Hp) (a b : D) (Q : VK), PoE K mg W σ w H (d a b h) Q → ∃ i j, a = .int i ∧ b = .int j ∧ C i j ∧ PoE K mg W σ w H (.ok (.int (g i j)) h) Q) :
    OpI K mg (rI C fun i j => .int (g i j)) d := by
  intro W σ w h H a b x y Q L ra rb hp
  obtain ⟨i, j, rfl, rfl, hc, hq⟩ := hd _ _ _ _ _ _ _ _ _ _ hp
  cases ra; cases rb
  exact ⟨i, j, rfl, rfl, hc, Po.here L (.int _) hq⟩
theorem oi_sub : OpI K mg (rI0 fun i j => .int (i - j)) dSub := by
  intro W σ w h H a b x y Q L ra rb hp
  unfold dSub at hp
  split at hp
  · cases ra; cases rb
    exact ⟨_, _, rfl, rfl, Po.here L (.int _) hp⟩
  · exact hp.elim
/-- the items so many times -/
def repL (k : Int) (xs : List D) : List D := (List.replicate k.toNat xs).flatten
theorem Reps.rep {K : PySem.W.Frag} {mg : Str → Option Value} {w : Wd} {xs : List D} {vs : List V} (r : Reps K mg w xs vs) : ∀ k : Nat, Reps K mg w (List.replicate k xs).flatten (List.replicate k vs).flatten
  | 0 => .nil
  | k + 1 => by
    rw [List.replicate_succ, List.replicate_succ, List.flatten_cons, List.flatten_cons]
    exact r.append (Reps.rep r k)
def dMul (a b : D) (h : Ph) : R D := match a, b with
  | .int i, .int j => if i.natAbs < 18446744073709551616 ∨ j.natAbs < 18446744073709551616 ∨ i.natAbs.log2 + j.natAbs.log2 < 1000000 then .ok (.int (i * j)) h else .bad
  | a, .int k => R.opt (lsOf a h) fun xs => if -(2 ^ 63) ≤ k ∧ k < 2 ^ 63 ∧ xs.length * k.toNat ≤ mostL then .ok (.lst (repL k xs)) h else .bad
  | _, _ => .bad
def rMulAll : R2 := fun x y H Q => (rI CMul (fun i j => .int (i * j)) x y H Q) ∨ ((rI CMulW (fun i j => .int (i * j)) x y H Q) ∨ rRep x y H Q)
theorem op_mulAll : OpR X (binaryOp .Mult) rMulAll := op_mul.or (op_mulW.or op_rep)
theorem oi_mul : OpI K mg rMulAll dMul := by
  intro W σ w h H a b x y Q L ra rb hp
  unfold dMul at hp
  split at hp
  · obtain ⟨hc, hp⟩ := Po.ite hp
    cases ra; cases rb
    rcases hc with hc | hc | hc
    · exact .inl ⟨_, _, rfl, rfl, .inl (by omega), Po.here L (.int _) hp⟩
    · exact .inl ⟨_, _, rfl, rfl, .inr (by omega), Po.here L (.int _) hp⟩
    · exact .inr (.inl ⟨_, _, rfl, rfl, hc, Po.here L (.int _) hp⟩)
  · obtain ⟨xs, e1, hp⟩ := Po.some hp
    obtain ⟨hc, hp⟩ := Po.ite hp
    obtain ⟨a1, vs, rfl, ha, r1⟩ := lsOf_ok L e1 ra
    cases rb
    exact .inr (.inr ⟨a1, _, vs, rfl, rfl, ha, hc.1, hc.2.1, by rw [← r1.length]; exact mostL_le hc.2.2, fun p np => Po.lst L (r1.rep _) hp np⟩)
  · exact hp.elim
/-- // : by a divisor above 0 of fewer than 9000 bits, or by a small one below 0 -/
def dDiv (a b : D) (h : Ph) : R D := match a, b with
  | .int i, .int j => if 0 < j then (if j.natAbs.log2 < 9000 then .ok (.int (i / j)) h else .bad) else (if j ≠ 0 ∧ j.natAbs < 1073741824 then .ok (.int (i.fdiv j)) h else .bad)
  | _, _ => .bad
def rDivAll : R2 := fun x y H Q => (rI CDivW (fun i j => .int (i / j)) x y H Q) ∨ (rI CDivN (fun i j => .int (i.fdiv j)) x y H Q)
theorem op_divAll : OpR X (binaryOp .FloorDiv) rDivAll := op_fdivW.or op_fdivN
theorem oi_div : OpI K mg rDivAll dDiv := by
  intro W σ w h H a b x y Q L ra rb hp
  unfold dDiv at hp
  split at hp
  · cases ra; cases rb
    rename_i i j
    by_cases hj : 0 < j
    · rw [if_pos hj] at hp
      obtain ⟨hc, hp⟩ := Po.ite hp
      exact .inl ⟨_, _, rfl, rfl, ⟨hj, hc⟩, Po.here L (.int _) hp⟩
    · rw [if_neg hj] at hp
      obtain ⟨hc, hp⟩ := Po.ite hp
      exact .inr ⟨_, _, rfl, rfl, hc, Po.here L (.int _) hp⟩
  · exact hp.elim
def dMod (a b : D) (h : Ph) : R D := match a, b with
  | .int i, .int j => if 0 < j then .ok (.int (i % j)) h else (if j ≠ 0 then .ok (.int (i.fmod j)) h else .bad)
  | _, _ => .bad
theorem oi_mod : OpI K mg (rI (fun _ j => j ≠ 0) fun i j => .int (i.fmod j)) dMod := by
  refine oi_int fun K mg W σ w h H a b Q hp => ?_
  unfold dMod at hp
  split at hp
  · rename_i i j
    by_cases hj : 0 < j
    · rw [if_pos hj] at hp
      exact ⟨i, j, rfl, rfl, by omega, by rw [Int.fmod_eq_emod_of_nonneg i (by omega)]; exact hp⟩
    · rw [if_neg hj] at hp
      obtain ⟨hc, hp⟩ := Po.ite hp
      exact ⟨i, j, rfl, rfl, hc, hp⟩
  · exact hp.elim
def dPow (a b : D) (h : Ph) : R D := match a, b with
  | .int i, .int j => if 0 ≤ j ∧ j ≤ 1000000 ∧ i.natAbs < 2 ^ 64 then .ok (.int (i ^ j.toNat)) h else .bad
  | _, _ => .bad
theorem oi_pow : OpI K mg (rI CPow fun i j => .int (i ^ j.toNat)) dPow := by
  refine oi_int fun K mg W σ w h H a b Q hp => ?_
  unfold dPow at hp
  split at hp
  · obtain ⟨hc, hp⟩ := Po.ite hp
    exact ⟨_, _, rfl, rfl, hc, hp⟩
  · exact hp.elim

/-! ### comparisons -/
def ltZ (xs ys : List Int) : Bool := HT.lexLt xs ys
/-- the ints of a list, where all are ints -/
def intsOf : List D → Option (List Int)
  | [] => some []
  | .int i :: r => (intsOf r).map (i :: ·)
  | _ => none
theorem intsOf_ok {K : PySem.W.Frag} {mg : Str → Option Value} {w : Wd} : ∀ {xs : List D} {ns : List Int} {vs : List V}, intsOf xs = some ns → Reps K mg w xs vs → vs = ns.map V.int
  | [], _, _, e, .nil => by cases e; rfl
  | .int i :: r, ns, _, e, .cons h t => by
    unfold intsOf at e
    cases q : intsOf r with
    | none => rw [q] at e; cases e
    | some ms =>
      rw [q] at e
      cases e
      cases h
      rw [intsOf_ok q t]
      rfl
  | .non :: _, _, _, e, _ => by cases e
  | .bl _ :: _, _, _, e, _ => by cases e
  | .str _ :: _, _, _, e, _ => by cases e
  | .tup _ :: _, _, _, e, _ => by cases e
  | .lst _ :: _, _, _, e, _ => by cases e
  | .seq _ :: _, _, _, e, _ => by cases e
  | .ref _ :: _, _, _, e, _ => by cases e
  | .glo _ :: _, _, _, e, _ => by cases e
  | .ty _ :: _, _, _, e, _ => by cases e
/-- < on ints and on tuples of ints -/
def dLt (a b : D) (h : Ph) : R D := match a, b with
  | .int i, .int j => .ok (.bl (decide (i < j))) h
  | .tup xs, .tup ys => R.opt (intsOf xs) fun ns => R.opt (intsOf ys) fun ms => .ok (.bl (HT.lexLt ns ms)) h
  | _, _ => .bad
def rLtAll (K : PySem.W.Frag) : R2 := fun x y H Q => (rI0 (fun i j => .bl (decide (i < j))) x y H Q) ∨ rLtT K x y H Q
theorem op_ltAll (hu : X.A.units < cLine) : OpR X (compareOp .Lt) (rLtAll X.K) := op_lt.or (op_ltT hu)
theorem oi_lt : OpI K mg (rLtAll K) dLt := by
  intro W σ w h H a b x y Q L ra rb hp
  unfold dLt at hp
  split at hp
  · cases ra; cases rb
    exact .inl ⟨_, _, rfl, rfl, Po.here L (.bl _) hp⟩
  · obtain ⟨ns, e1, hp⟩ := Po.some hp
    obtain ⟨ms, e2, hp⟩ := Po.some hp
    cases ra with
    | tup q1 r1 =>
      cases rb with
      | tup q2 r2 =>
        have z1 := intsOf_ok e1 r1
        have z2 := intsOf_ok e2 r2
        subst z1 z2
        exact .inr ⟨_, _, ns, ms, rfl, rfl, SqT.ex L q1, SqT.ex L q2, Po.here L (.bl _) hp⟩
  · exact hp.elim
theorem oi_i2 {g : Int → Int → Bool} {d : D → D → Ph → R D} (hd : ∀ a b h, d a b h = match a, b with
    | .int i, .int j => .ok (.bl (g i j)) h
    | _, _ => .bad) : OpI K mg (rI0 fun i j => .bl (g i j)) d := by
  intro W σ w h H a b x y Q L ra rb hp
  rw [hd] at hp
  split at hp
  · cases ra; cases rb
    exact ⟨_, _, rfl, rfl, Po.here L (.bl _) hp⟩
  · exact hp.elim
def dLe (a b : D) (h : Ph) : R D := match a, b with
  | .int i, .int j => .ok (.bl (decide (i ≤ j))) h
  | _, _ => .bad
def dGt (a b : D) (h : Ph) : R D := match a, b with
  | .int i, .int j => .ok (.bl (decide (j < i))) h
  | _, _ => .bad
def dGe (a b : D) (h : Ph) : R D := match a, b with
  | .int i, .int j => .ok (.bl (decide (j ≤ i))) h
  | _, _ => .bad
theorem oi_le : OpI K mg (rI0 fun i j => .bl (decide (i ≤ j))) dLe := oi_i2 fun _ _ _ => rfl
theorem oi_gt : OpI K mg (rI0 fun i j => .bl (decide (j < i))) dGt := oi_i2 fun _ _ _ => rfl
theorem oi_ge : OpI K mg (rI0 fun i j => .bl (decide (j ≤ i))) dGe := oi_i2 fun _ _ _ => rfl
/-- as the library's data: no refs within -/
def D.py : D → Option PyData
  | .non => some .none
  | .bl b => some (.bool b)
  | .int i => some (.int i)
  | .str x => some (.str x)
  | .tup xs => (pys xs).map .tuple
  | .lst xs => (pys xs).map .list
  | .seq xs => (pys xs).map .list
  | _ => none
where pys : List D → Option (List PyData)
  | [] => some []
  | x :: r => match x.py with
    | none => none
    | some d => (pys r).map (d :: ·)
/-- .. one that changes, itself -/
def pyOf (d : D) (h : Ph) : Option PyData := match d with
  | .ref n => match h[n]? with
    | some (.lst xs) => (D.py.pys xs).map .list
    | _ => none
  | d => d.py
section
variable {K : PySem.W.Frag} {mg : Str → Option Value} {w : Wd} {H : Hp}
mutual
theorem py_ok (ex : Ex w.G H) : ∀ {d : D} {p : PyData} {v : V}, d.py = some p → Rep K mg w d v → Dp K H v p
  | .non, _, _, e, .non => by cases e; exact .non
  | .bl _, _, _, e, .bl _ => by cases e; exact .bl _
  | .int _, _, _, e, .int _ => by cases e; exact .int _
  | .str _, _, _, e, .str _ => by cases e; exact .str _
  | .tup xs, _, _, e, .tup q r => by
    simp only [D.py] at e
    cases z : D.py.pys xs with
    | none => rw [z] at e; cases e
    | some ps =>
      rw [z] at e
      cases e
      exact .tup (ex_t ex q) (pys_ok ex z r)
  | .lst xs, _, _, e, .lst q r => by
    simp only [D.py] at e
    cases z : D.py.pys xs with
    | none => rw [z] at e; cases e
    | some ps =>
      rw [z] at e
      cases e
      exact .lst (.inl (.inl (ex _ _ q))) (pys_ok ex z r)
  | .seq xs, _, _, e, .seq q r => by
    simp only [D.py] at e
    cases z : D.py.pys xs with
    | none => rw [z] at e; cases e
    | some ps =>
      rw [z] at e
      cases e
      exact .lst (ex_l ex q) (pys_ok ex z r)
  | .ref _, _, _, e, _ => by simp only [D.py] at e; cases e
  | .glo _, _, _, e, _ => by simp only [D.py] at e; cases e
  | .ty _, _, _, e, _ => by simp only [D.py] at e; cases e
theorem pys_ok (ex : Ex w.G H) : ∀ {d : List D} {p : List PyData} {v : List V}, D.py.pys d = some p → Reps K mg w d v → DpAll K H v p
  | [], _, _, e, .nil => by cases e; exact .nil
  | x :: r, _, _, e, .cons h t => by
    simp only [D.py.pys] at e
    cases z : x.py with
    | none => rw [z] at e; cases e
    | some d =>
      rw [z] at e
      cases z2 : D.py.pys r with
      | none => rw [z2] at e; cases e
      | some ds =>
        rw [z2] at e
        cases e
        exact .cons (py_ok ex z h) (pys_ok ex z2 t)
end
theorem pyOf_ok {h : Ph} (L : Lk K mg w h H) {d : D} {p : PyData} {v : V} (e : pyOf d h = some p) (r : Rep K mg w d v) : Dp K H v p := by
  unfold pyOf at e
  split at e
  · cases r with
    | ref q =>
      obtain ⟨o, u, h1, h2, r'⟩ := L.there q
      simp only [h1] at e
      cases r' with
      | lst r' =>
        rename_i xs vs
        cases z : D.py.pys xs with
        | none => simp only [z] at e; cases e
        | some ps =>
          simp only [z] at e
          cases e
          exact .lst (.inl (.inl h2)) (pys_ok L.ex z r')
      | _ => cases e
  · exact py_ok L.ex e r
end
def dEq (a b : D) (h : Ph) : R D := R.opt (pyOf a h) fun p => R.opt (pyOf b h) fun q => if SeqAt.shaped p = true ∧ SeqAt.shaped q = true then .ok (.bl (PyData.eqv p q)) h else .bad
def dNe (a b : D) (h : Ph) : R D := R.opt (pyOf a h) fun p => R.opt (pyOf b h) fun q => if SeqAt.shaped p = true ∧ SeqAt.shaped q = true then .ok (.bl (!PyData.eqv p q)) h else .bad
theorem oi_eq : OpI K mg (rEqD K) dEq := by
  intro W σ w h H a b x y Q L ra rb hp
  obtain ⟨p, e1, hp⟩ := Po.some hp
  obtain ⟨q, e2, hp⟩ := Po.some hp
  obtain ⟨⟨s1, s2⟩, hp⟩ := Po.ite hp
  exact ⟨p, q, pyOf_ok L e1 ra, pyOf_ok L e2 rb, s1, s2, Po.here L (.bl _) hp⟩
theorem oi_ne : OpI K mg (rNeD K) dNe := by
  intro W σ w h H a b x y Q L ra rb hp
  obtain ⟨p, e1, hp⟩ := Po.some hp
  obtain ⟨q, e2, hp⟩ := Po.some hp
  obtain ⟨⟨s1, s2⟩, hp⟩ := Po.ite hp
  exact ⟨p, q, pyOf_ok L e1 ra, pyOf_ok L e2 rb, s1, s2, Po.here L (.bl _) hp⟩
/-- x is None, x is not None -/
def D.isNon : D → Bool
  | .non => true
  | _ => false
theorem isNon_ok {K : PySem.W.Frag} {mg : Str → Option Value} {w : Wd} {d : D} {v : V} (r : Rep K mg w d v) : decide (v = .non) = d.isNon := by
  cases r <;> simp [D.isNon]
def dIs (a b : D) (h : Ph) : R D := match b with
  | .non => .ok (.bl a.isNon) h
  | _ => .bad
def dIsNot (a b : D) (h : Ph) : R D := match b with
  | .non => .ok (.bl (!a.isNon)) h
  | _ => .bad
theorem oi_is : OpI K mg (fun x y H Q => y = .non ∧ Q (.bl (decide (x = .non))) H) dIs := by
  intro W σ w h H a b x y Q L ra rb hp
  unfold dIs at hp
  split at hp
  · cases rb
    refine ⟨rfl, ?_⟩
    rw [isNon_ok ra]
    exact Po.here L (.bl _) hp
  · exact hp.elim
theorem oi_isNot : OpI K mg (fun x y H Q => y = .non ∧ Q (.bl (!decide (x = .non))) H) dIsNot := by
  intro W σ w h H a b x y Q L ra rb hp
  unfold dIsNot at hp
  split at hp
  · cases rb
    refine ⟨rfl, ?_⟩
    rw [isNon_ok ra]
    exact Po.here L (.bl _) hp
  · exact hp.elim
/-- -x -/
def sNeg (f : SE) : SE := fun e h => (f e h).bind fun a h1 => match a with
  | .int i => .ok (.int (-i)) h1
  | _ => .bad
theorem ei_neg {ι : Type} {Z : Cz} {Y : ι → Cy} {a : Expr} {f : SE} {pos : Pos} (ha : EI Z Y W a f) : EI Z Y W (.UnaryOp .USub a pos) (sNeg f) := by
  obtain ⟨t, p, s⟩ := ha
  refine ⟨_, fun i => pe_un un_neg (p i), fun σ e w h H Q E L hp => s σ e w h H _ E L (Po.bind (Rp := Rep Z.K Z.mg) hp fun a h1 w1 H1 x _ st1 L1 r1 hp1 => ?_)⟩
  cases r1 with
  | int i => exact ⟨i, rfl, Po.here L1 (.int _) hp1⟩
  | _ => exact hp1.elim
end
end Pd

namespace Pd
open PySem L2 Evl
section
variable {ι : Type} {Z : Cz} {Y : ι → Cy} {W : WX}
/-! ### and, or, not, if as values -/
def sAnd (fa fb : SE) : SE := fun e h => (fa e h).bind fun a h1 => a.br (fb e h1) (.ok (.bl false) h1)
def sOr (fa fb : SE) : SE := fun e h => (fa e h).bind fun a h1 => a.br (.ok (.bl true) h1) (fb e h1)
def D.neg (a : D) (h : Ph) : R D := match a with
  | .bl b => .ok (.bl (!b)) h
  | _ => .bad
def sNot (fa : SE) : SE := fun e h => (fa e h).bind fun a h1 => a.neg h1
theorem ei_one {a : Expr} {op : BoolOp} {f : SE} {pos : Pos} (h : EI Z Y W a f) : EI Z Y W (.BoolOp op [a] pos) f := by
  obtain ⟨t, p, s⟩ := h
  exact ⟨_, fun i => pe_one (p i), s⟩
theorem ei_and {a b : Expr} {rest : List Expr} {fa fb : SE} {pos : Pos} (ha : EI Z Y W a fa) (hb : EI Z Y W (.BoolOp .And (b :: rest) pos) fb) : EI Z Y W (.BoolOp .And (a :: b :: rest) pos) (sAnd fa fb) := by
  obtain ⟨ta, pa, sa⟩ := ha
  obtain ⟨tb, pb, sb⟩ := hb
  refine ⟨_, fun i => pe_and (pa i) (pb i), fun σ e w h H Q E L hp => sa σ e w h H _ E L (Po.bind (Rp := Rep Z.K Z.mg) hp fun a h1 w1 H1 x _ st1 L1 r1 hp1 => ?_)⟩
  cases r1 with
  | bl c =>
    refine ⟨c, rfl, ?_⟩
    cases c with
    | true => exact sb σ e w1 h1 H1 _ (E.mono st1.le) L1 hp1
    | false => exact Po.here L1 (.bl _) hp1
  | _ => exact hp1.elim
theorem ei_or {a b : Expr} {rest : List Expr} {fa fb : SE} {pos : Pos} (ha : EI Z Y W a fa) (hb : EI Z Y W (.BoolOp .Or (b :: rest) pos) fb) : EI Z Y W (.BoolOp .Or (a :: b :: rest) pos) (sOr fa fb) := by
  obtain ⟨ta, pa, sa⟩ := ha
  obtain ⟨tb, pb, sb⟩ := hb
  refine ⟨_, fun i => pe_or (pa i) (pb i), fun σ e w h H Q E L hp => sa σ e w h H _ E L (Po.bind (Rp := Rep Z.K Z.mg) hp fun a h1 w1 H1 x _ st1 L1 r1 hp1 => ?_)⟩
  cases r1 with
  | bl c =>
    refine ⟨c, rfl, ?_⟩
    cases c with
    | false => exact sb σ e w1 h1 H1 _ (E.mono st1.le) L1 hp1
    | true => exact Po.here L1 (.bl _) hp1
  | _ => exact hp1.elim
theorem ei_not {a : Expr} {fa : SE} {pos : Pos} (ha : EI Z Y W a fa) : EI Z Y W (.UnaryOp .Not a pos) (sNot fa) := by
  obtain ⟨ta, pa, sa⟩ := ha
  refine ⟨_, fun i => pe_not (pa i), fun σ e w h H Q E L hp => sa σ e w h H _ E L (Po.bind (Rp := Rep Z.K Z.mg) hp fun a h1 w1 H1 x _ st1 L1 r1 hp1 => ?_)⟩
  cases r1 with
  | bl c => exact ⟨c, rfl, Po.here L1 (.bl _) hp1⟩
  | _ => exact hp1.elim
def sIf (c : ST) (fa fb : SE) : SE := fun e h => (c e h).bind fun b h1 => br b (fa e h1) (fb e h1)
theorem ei_ifExp {c a b : Expr} {fc : ST} {fa fb : SE} {pos : Pos} (hc : TI Z Y W c fc) (ha : EI Z Y W a fa) (hb : EI Z Y W b fb) : EI Z Y W (.IfExp c a b pos) (sIf fc fa fb) := by
  obtain ⟨tc, pc, sc⟩ := hc
  obtain ⟨ta, pa, sa⟩ := ha
  obtain ⟨tb, pb, sb⟩ := hb
  refine ⟨_, fun i => pe_ifExp (pc i) (pa i) (pb i), fun σ e w h H Q E L hp => sc σ e w h H _ E L (Po.bind (Rp := RpB) hp fun a h1 w1 H1 x _ st1 L1 r1 hp1 => ?_)⟩
  cases r1
  cases a with
  | true => exact sa σ e w1 h1 H1 _ (E.mono st1.le) L1 hp1
  | false => exact sb σ e w1 h1 H1 _ (E.mono st1.le) L1 hp1
/-! ### .. as tests -/
def qAnd (fa fb : ST) : ST := fun e h => (fa e h).bind fun a h1 => br a (fb e h1) (.ok false h1)
def qOr (fa fb : ST) : ST := fun e h => (fa e h).bind fun a h1 => br a (.ok true h1) (fb e h1)
def qNot (fa : ST) : ST := fun e h => (fa e h).bind fun a h1 => .ok (!a) h1
/-- a test whatever its whole is -/
def WI (Z : Cz) (Y : ι → Cy) (W : WX) (e : Expr) (f : ST) : Prop := ∃ t, (∀ i, PW (cx Z (Y i)) e t) ∧ SnT Z.K Z.mg W t f
theorem WI.ti {e : Expr} {f : ST} (h : WI Z Y W e f) : TI Z Y W e f := by
  obtain ⟨t, p, s⟩ := h
  exact ⟨t, fun i => (p i).pt, s⟩
theorem wi_and1 {a : Expr} {f : ST} {pos : Pos} (h : TI Z Y W a f) : WI Z Y W (.BoolOp .And [a] pos) f := by
  obtain ⟨t, p, s⟩ := h
  exact ⟨t, fun i => pw_and1 (p i), s⟩
theorem wi_or1 {a : Expr} {f : ST} {pos : Pos} (h : TI Z Y W a f) : WI Z Y W (.BoolOp .Or [a] pos) f := by
  obtain ⟨t, p, s⟩ := h
  exact ⟨t, fun i => pw_or1 (p i), s⟩
theorem wi_and {a b : Expr} {rest : List Expr} {fa fb : ST} {pos : Pos} (ha : TI Z Y W a fa) (hb : WI Z Y W (.BoolOp .And (b :: rest) pos) fb) : WI Z Y W (.BoolOp .And (a :: b :: rest) pos) (qAnd fa fb) := by
  obtain ⟨ta, pa, sa⟩ := ha
  obtain ⟨tb, pb, sb⟩ := hb
  refine ⟨_, fun i => pw_and (pa i) (pb i), fun σ e w h H Q E L hp => sa σ e w h H _ E L (Po.bind (Rp := RpB) hp fun a h1 w1 H1 x _ st1 L1 r1 hp1 => ?_)⟩
  cases r1
  cases a with
  | true => exact sb σ e w1 h1 H1 _ (E.mono st1.le) L1 hp1
  | false => exact Po.here L1 rfl hp1
theorem wi_or {a b : Expr} {rest : List Expr} {fa fb : ST} {pos : Pos} (ha : TI Z Y W a fa) (hb : WI Z Y W (.BoolOp .Or (b :: rest) pos) fb) : WI Z Y W (.BoolOp .Or (a :: b :: rest) pos) (qOr fa fb) := by
  obtain ⟨ta, pa, sa⟩ := ha
  obtain ⟨tb, pb, sb⟩ := hb
  refine ⟨_, fun i => pw_or (pa i) (pb i), fun σ e w h H Q E L hp => sa σ e w h H _ E L (Po.bind (Rp := RpB) hp fun a h1 w1 H1 x _ st1 L1 r1 hp1 => ?_)⟩
  cases r1
  cases a with
  | false => exact sb σ e w1 h1 H1 _ (E.mono st1.le) L1 hp1
  | true => exact Po.here L1 rfl hp1
theorem ti_not {a : Expr} {fa : ST} {pos : Pos} (ha : TI Z Y W a fa) : TI Z Y W (.UnaryOp .Not a pos) (qNot fa) := by
  obtain ⟨ta, pa, sa⟩ := ha
  refine ⟨_, fun i => pt_not (pa i), fun σ e w h H Q E L hp => sa σ e w h H _ E L (Po.bind (Rp := RpB) hp fun a h1 w1 H1 x _ st1 L1 r1 hp1 => ?_)⟩
  cases r1
  exact Po.here L1 rfl hp1
/-! ### chains of comparisons -/
def sChain (g g' : D → D → Ph → R D) (fa fb fc : SE) : SE := fun e h => (fa e h).bind fun a h1 => (fb e h1).bind fun b h2 => (g a b h2).bind fun z h3 => z.br ((fc e h3).bind fun c h4 => g' b c h4) (.ok (.bl false) h3)
theorem sn_chain {K : PySem.W.Frag} {mg : Str → Option Value} {ta tb tc : TE} {r r' : R2} {g g' : D → D → Ph → R D} {fa fb fc : SE} (ho : OpI K mg r g) (ho' : OpI K mg r' g') (ha : SnE K mg W ta fa) (hb : SnE K mg W tb fb) (hc : SnE K mg W tc fc) :
    SnE K mg W (tChain r r' ta tb tc) (sChain g g' fa fb fc) := fun σ e w h H Q E L hp =>
  ha σ e w h H _ E L (Po.bind (Rp := Rep K mg) hp fun a h1 w1 H1 x _ st1 L1 r1 hp1 => hb σ e w1 h1 H1 _ (E.mono st1.le) L1 (Po.bind (Rp := Rep K mg) hp1 fun b h2 w2 H2 y _ st2 L2 r2 hp2 =>
    ho W σ w2 h2 H2 a b x y _ L2 (r1.mono st2.le) r2 (Po.bind (Rp := Rep K mg) hp2 fun z h3 w3 H3 z' _ st3 L3 r3 hp3 => by
      cases r3 with
      | bl k =>
        refine ⟨k, rfl, ?_⟩
        cases k with
        | true => exact hc σ e w3 h3 H3 _ (E.mono ((st1.le.trans st2.le).trans st3.le)) L3 (Po.bind (Rp := Rep K mg) hp3 fun c h4 w4 H4 u _ st4 L4 r4 hp4 => ho' W σ w4 h4 H4 b c y u _ L4 (r2.mono (st3.le.trans st4.le)) r4 hp4)
        | false => exact Po.here L3 (.bl _) hp3
      | _ => exact hp3.elim)))
theorem ei_chain {a b c : Expr} {op op' : CmpOp} {r r' : R2} {g g' : D → D → Ph → R D} {fa fb fc : SE} {pos : Pos} (o : OpF Z Y (compareOp op) r) (ho : OpI Z.K Z.mg r g) (o' : OpF Z Y (compareOp op') r') (ho' : OpI Z.K Z.mg r' g')
    (ha : EI Z Y W a fa) (hb : EI Z Y W b fb) (hc : EI Z Y W c fc) (hm : lastMarks [op, op'] [b, c] = false := by with_unfolding_all rfl) : EI Z Y W (.Compare a [op, op'] [b, c] pos) (sChain g g' fa fb fc) := by
  obtain ⟨ta, pa, sa⟩ := ha
  obtain ⟨tb, pb, sb⟩ := hb
  obtain ⟨tc, pc, sc⟩ := hc
  exact ⟨_, fun i => pe_chain (o i) (o' i) (pa i) (pb i) (pc i) hm, sn_chain ho ho' sa sb sc⟩
theorem ti_chain {a b c : Expr} {op op' : CmpOp} {r r' : R2} {g g' : D → D → Ph → R D} {fa fb fc : SE} {pos : Pos} (o : OpF Z Y (compareOp op) r) (ho : OpI Z.K Z.mg r g) (o' : OpF Z Y (compareOp op') r') (ho' : OpI Z.K Z.mg r' g')
    (ha : EI Z Y W a fa) (hb : EI Z Y W b fb) (hc : EI Z Y W c fc) (hm : lastMarks [op, op'] [b, c] = false := by with_unfolding_all rfl) : TI Z Y W (.Compare a [op, op'] [b, c] pos) (sTst (sChain g g' fa fb fc)) := by
  obtain ⟨ta, pa, sa⟩ := ha
  obtain ⟨tb, pb, sb⟩ := hb
  obtain ⟨tc, pc, sc⟩ := hc
  exact ⟨_, fun i => pt_chain (o i) (o' i) (pa i) (pb i) (pc i) hm, sn_tst (sn_chain ho ho' sa sb sc)⟩
/-! ### arguments, displays -/
def sNil : SA := fun _ h => .ok [] h
def sCons (f : SE) (g : SA) : SA := fun e h => (f e h).bind fun a h1 => (g e h1).bind fun r h2 => .ok (a :: r) h2
theorem ai_nil : AI Z Y W [] sNil := ⟨_, fun _ => pa_nil, fun σ e w h H Q E L hp => hp w H _ (Step.refl w H) L .nil⟩
theorem ai_cons {a : Expr} {es : List Expr} {f : SE} {g : SA} (ha : EI Z Y W a f) (hr : AI Z Y W es g) (hs : ∀ i, starEach (a :: es) (Y i).env = (false, eval a (Y i).env) :: starEach es (Y i).env := by intro _; rfl) : AI Z Y W (a :: es) (sCons f g) := by
  obtain ⟨ta, pa, sa⟩ := ha
  obtain ⟨tr, pr, sr⟩ := hr
  exact ⟨_, fun i => pa_cons (pa i) (pr i) (hs i), fun σ e w h H Q E L hp => sa σ e w h H _ E L (Po.bind (Rp := Rep Z.K Z.mg) hp fun a h1 w1 H1 x _ st1 L1 r1 hp1 => sr σ e w1 h1 H1 _ (E.mono st1.le) L1 (Po.bind (Rp := Reps Z.K Z.mg) hp1 fun b h2 w2 H2 y _ st2 L2 r2 hp2 =>
    Po.here L2 (.cons (r1.mono st2.le) r2) hp2))⟩
def sTup (f : SA) : SE := fun e h => (f e h).bind fun xs h1 => if xs.length ≤ mostL then .ok (.tup xs) h1 else .bad
def sLst (f : SA) : SE := fun e h => (f e h).bind fun xs h1 => if xs.length ≤ mostL then .ok (.lst xs) h1 else .bad
/-- a list that will change -/
def sLstM (f : SA) : SE := fun e h => (f e h).bind fun xs h1 => if xs.length ≤ mostL then .ok (.ref h1.length) (h1 ++ [.lst xs]) else .bad
theorem ei_tup {es : List Expr} {f : SA} {x1} {pos : Pos} (ha : AI Z Y W es f) : EI Z Y W (.Tuple es x1 pos) (sTup f) := by
  obtain ⟨t, p, s⟩ := ha
  refine ⟨_, fun i => pe_tup (p i), fun σ e w h H Q E L hp => s σ e w h H _ E L (Po.bind (Rp := Reps Z.K Z.mg) hp fun xs h1 w1 H1 vs _ st1 L1 r1 hp1 => ?_)⟩
  obtain ⟨hl, hp1⟩ := Po.ite hp1
  exact ⟨by rw [← r1.length]; exact mostL_le hl, fun q nq => Po.tup L1 r1 hp1 nq⟩
theorem ei_lst {es : List Expr} {f : SA} {pos : Pos} (ha : AI Z Y W es f) : EI Z Y W (.List es pos) (sLst f) := by
  obtain ⟨t, p, s⟩ := ha
  refine ⟨_, fun i => pe_lst (p i), fun σ e w h H Q E L hp => s σ e w h H _ E L (Po.bind (Rp := Reps Z.K Z.mg) hp fun xs h1 w1 H1 vs _ st1 L1 r1 hp1 => ?_)⟩
  obtain ⟨hl, hp1⟩ := Po.ite hp1
  exact ⟨by rw [← r1.length]; exact mostL_le hl, fun q nq => Po.lst L1 r1 hp1 nq⟩
/-- a new object that may change is the answer -/
theorem po_newO {K : PySem.W.Frag} {mg : Str → Option Value} {σ : St} {w : Wd} {H : Hp} {h : Ph} {o : PO} {u : HO} {Q : VK} {p : Addr} (L : Lk K mg w h H) (np : H p = none) (r : RepO K mg w o u) (hp : PoE K mg W σ w H (.ok (.ref h.length) (h ++ [o])) Q) : Q (.ref p) (upd H p u) := by
  obtain ⟨l1, l2, l3⟩ := L.new np o u (r.mono (w' := ⟨w.ms ++ [p], w.G⟩) ⟨⟨[p], rfl⟩, Ex.refl _⟩)
  refine hp _ _ _ l2 l1 (.ref ?_)
  show (w.ms ++ [p])[h.length]? = some p
  rw [← L.len, List.getElem?_append_right (Nat.le_refl _), Nat.sub_self]
  rfl
theorem ei_lstM {es : List Expr} {f : SA} {pos : Pos} (ha : AI Z Y W es f) : EI Z Y W (.List es pos) (sLstM f) := by
  obtain ⟨t, p, s⟩ := ha
  refine ⟨_, fun i => pe_lst (p i), fun σ e w h H Q E L hp => s σ e w h H _ E L (Po.bind (Rp := Reps Z.K Z.mg) hp fun xs h1 w1 H1 vs _ st1 L1 r1 hp1 => ?_)⟩
  obtain ⟨hl, hp1⟩ := Po.ite hp1
  exact ⟨by rw [← r1.length]; exact mostL_le hl, fun q nq => po_newO L1 nq (.lst r1) hp1⟩
/-! ### items, slices -/
def strAt (x : Str) (c : Nat) : D := .str ⟨#[c]⟩
def dIx (a b : D) (h : Ph) : R D := match a, b with
  | .tup xs, .int i => R.opt (atI xs i) fun v => .ok v h
  | .str x, .int i => if x.length ≤ mostL then R.opt (atI x.cps.toList i) fun c => .ok (.str ⟨#[c]⟩) h else .bad
  | a, .int i => R.opt (lstOf a h) fun xs => R.opt (atI xs i) fun v => .ok v h
  | _, _ => .bad
theorem Reps.atI {K : PySem.W.Frag} {mg : Str → Option Value} {w : Wd} {xs : List D} {vs : List V} (r : Reps K mg w xs vs) {i : Int} {d : D} (e : L2.atI xs i = some d) : ∃ v, L2.atI vs i = some v ∧ Rep K mg w d v := by
  unfold L2.atI at e ⊢
  rw [← r.length]
  cases q : ixN xs.length i with
  | none => rw [q] at e; cases e
  | some j =>
    rw [q] at e
    exact r.get e
theorem oi_ix {K : PySem.W.Frag} {mg : Str → Option Value} : OpI K mg (rIx K) dIx := by
  intro W σ w h H a b x y Q L ra rb hp
  unfold dIx at hp
  split at hp
  · obtain ⟨v, e, hp⟩ := Po.some hp
    cases rb
    cases ra with
    | tup q r =>
      obtain ⟨u, e1, r1⟩ := r.atI e
      exact .inr (.inl ⟨_, _, _, u, rfl, rfl, SqT.ex L q, e1, Po.here L r1 hp⟩)
  · obtain ⟨hl, hp⟩ := Po.ite hp
    obtain ⟨c, e, hp⟩ := Po.some hp
    cases rb
    cases ra
    exact .inr (.inr ⟨_, _, c, rfl, rfl, mostL_le hl, e, Po.here L (.str _) hp⟩)
  · obtain ⟨xs, e1, hp⟩ := Po.some hp
    obtain ⟨v, e, hp⟩ := Po.some hp
    cases rb
    obtain ⟨a1, vs, rfl, hs, r⟩ := lstOf_ok L e1 ra
    obtain ⟨u, e2, r1⟩ := r.atI e
    exact .inl ⟨_, _, _, u, rfl, rfl, hs, e2, Po.here L r1 hp⟩
  · exact hp.elim
theorem ei_ix {a b : Expr} {fa fb : SE} {pos : Pos} (ha : EI Z Y W a fa) (hb : EI Z Y W b fb) (hs : PlainIx b) : EI Z Y W (.Subscript a b pos) (sBin dIx fa fb) := by
  obtain ⟨ta, pa, sa⟩ := ha
  obtain ⟨tb, pb, sb⟩ := hb
  exact ⟨_, fun i => pe_ix (X := cx Z (Y i)) (r := rIx Z.K) ix_seq (pa i) (pb i) hs, sn_bin oi_ix sa sb⟩
/-! ### calls of built-ins, by values -/
def CallI (K : PySem.W.Frag) (mg : Str → Option Value) (r : List V → Hp → VK → Prop) (g : List D → Ph → R D) : Prop := ∀ (W : WX) (σ : St) (w : Wd) (h : Ph) (H : Hp) (as : List D) (vs : List V) (Q : VK), Lk K mg w h H → Reps K mg w as vs → PoE K mg W σ w H (g as h) Q → r vs H Q
def sCall (g : List D → Ph → R D) (f : SA) : SE := fun e h => (f e h).bind fun as h1 => g as h1
abbrev CallF (Z : Cz) (Y : ι → Cy) (f : Value) (r : List V → Hp → VK → Prop) : Prop := ∀ i, CallR (cx Z (Y i)) f r
theorem sn_call {K : PySem.W.Frag} {mg : Str → Option Value} {r : List V → Hp → VK → Prop} {g : List D → Ph → R D} {t : TA} {f : SA} (hc : CallI K mg r g) (s : SnA K mg W t f) : SnE K mg W (tCB r t) (sCall g f) := fun σ e w h H Q E L hp =>
  s σ e w h H _ E L (Po.bind (Rp := Reps K mg) hp fun as h1 w1 H1 vs _ st1 L1 r1 hp1 => hc W σ w1 h1 H1 as vs Q L1 r1 hp1)
theorem ei_callB {id : String} {x : Str} {r : List V → Hp → VK → Prop} {g : List D → Ph → R D} {a : Expr} {es : List Expr} {f : SA} {p pos : Pos} (hr : CallF Z Y (.builtin id) r) (hc : CallI Z.K Z.mg r g) (hg : GlF Y x) (hm : Z.mg x = none) (hv : bootBuiltins x = some (.builtin id)) (ha : AI Z Y W (a :: es) f)
    (hn : x ≠ "__name__" := by decide) (hdb : (x == ("__debug__" : Str)) = false := by decide) (he : ∀ i, starEach (a :: es) (Y i).env = (false, eval a (Y i).env) :: starEach es (Y i).env := by intro _; rfl) (hpl : ∀ i, (backTo pos (starEach es (Y i).env)).any (·.1) = false := by intro _; rfl) :
    EI Z Y W (.Call (.Name x p) (a :: es) [] pos) (sCall g f) := by
  obtain ⟨t, pa, s⟩ := ha
  exact ⟨_, fun i => pe_callB (hr i) (hg i) hm hv (pa i) hn hdb (he i) (hpl i), sn_call hc s⟩
theorem ei_callTy {T : String} {x : Str} {r : List V → Hp → VK → Prop} {g : List D → Ph → R D} {a : Expr} {es : List Expr} {f : SA} {p pos : Pos} (hr : CallF Z Y (.type T) r) (hc : CallI Z.K Z.mg r g) (hg : GlF Y x) (hm : Z.mg x = none) (hv : bootBuiltins x = some (.type T)) (ha : AI Z Y W (a :: es) f)
    (hn : x ≠ "__name__" := by decide) (hdb : (x == ("__debug__" : Str)) = false := by decide) (he : ∀ i, starEach (a :: es) (Y i).env = (false, eval a (Y i).env) :: starEach es (Y i).env := by intro _; rfl) (hpl : ∀ i, (backTo pos (starEach es (Y i).env)).any (·.1) = false := by intro _; rfl) :
    EI Z Y W (.Call (.Name x p) (a :: es) [] pos) (sCall g f) := by
  obtain ⟨t, pa, s⟩ := ha
  exact ⟨_, fun i => pe_callTy (hr i) (hg i) hm hv (pa i) hn hdb (he i) (hpl i), sn_call hc s⟩
end
section
variable {K : PySem.W.Frag} {mg : Str → Option Value}
theorem Reps.one {w : Wd} {a : D} {vs : List V} (r : Reps K mg w [a] vs) : ∃ x, vs = [x] ∧ Rep K mg w a x := by
  cases r with
  | cons h t => cases t; exact ⟨_, rfl, h⟩
theorem Reps.two {w : Wd} {a b : D} {vs : List V} (r : Reps K mg w [a, b] vs) : ∃ x y, vs = [x, y] ∧ Rep K mg w a x ∧ Rep K mg w b y := by
  cases r with
  | cons h t =>
    obtain ⟨y, rfl, h2⟩ := t.one
    exact ⟨_, y, rfl, h, h2⟩
/-- a function of one value -/
def g1 (g : D → Ph → R D) : List D → Ph → R D := fun as h => match as with
  | [a] => g a h
  | _ => .bad
def g2 (g : D → D → Ph → R D) : List D → Ph → R D := fun as h => match as with
  | [a, b] => g a b h
  | _ => .bad
theorem ci_1 {r : List V → Hp → VK → Prop} {g : D → Ph → R D} (hg : ∀ (W : WX) (σ : St) (w : Wd) (h : Ph) (H : Hp) (a : D) (x : V) (Q : VK), Lk K mg w h H → Rep K mg w a x → PoE K mg W σ w H (g a h) Q → r [x] H Q) : CallI K mg r (g1 g) := by
  intro W σ w h H as vs Q L ra hp
  unfold g1 at hp
  split at hp
  · obtain ⟨x, rfl, r1⟩ := ra.one
    exact hg W σ w h H _ x Q L r1 hp
  · exact hp.elim
theorem ci_2 {r : List V → Hp → VK → Prop} {g : D → D → Ph → R D} (hg : ∀ (W : WX) (σ : St) (w : Wd) (h : Ph) (H : Hp) (a b : D) (x y : V) (Q : VK), Lk K mg w h H → Rep K mg w a x → Rep K mg w b y → PoE K mg W σ w H (g a b h) Q → r [x, y] H Q) : CallI K mg r (g2 g) := by
  intro W σ w h H as vs Q L ra hp
  unfold g2 at hp
  split at hp
  · obtain ⟨x, y, rfl, r1, r2⟩ := ra.two
    exact hg W σ w h H _ _ x y Q L r1 r2 hp
  · exact hp.elim
def dAbs (a : D) (h : Ph) : R D := match a with
  | .int i => .ok (.int (if i < 0 then -i else i)) h
  | _ => .bad
theorem ci_abs : CallI K mg (fun xs H Q => ∃ i, xs = [.int i] ∧ Q (.int (if i < 0 then -i else i)) H) (g1 dAbs) := ci_1 fun W σ w h H a x Q L ra hp => by
  unfold dAbs at hp
  split at hp
  · cases ra; exact ⟨_, rfl, Po.here L (.int _) hp⟩
  · exact hp.elim
def dMax2 (a b : D) (h : Ph) : R D := match a, b with
  | .int i, .int j => .ok (.int (if j > i then j else i)) h
  | _, _ => .bad
def dMin2 (a b : D) (h : Ph) : R D := match a, b with
  | .int i, .int j => .ok (.int (if j < i then j else i)) h
  | _, _ => .bad
theorem ci_max2 : CallI K mg (fun xs H Q => ∃ i j, xs = [.int i, .int j] ∧ Q (.int (if j > i then j else i)) H) (g2 dMax2) := ci_2 fun W σ w h H a b x y Q L ra rb hp => by
  unfold dMax2 at hp
  split at hp
  · cases ra; cases rb; exact ⟨_, _, rfl, Po.here L (.int _) hp⟩
  · exact hp.elim
theorem ci_min2 : CallI K mg (fun xs H Q => ∃ i j, xs = [.int i, .int j] ∧ Q (.int (if j < i then j else i)) H) (g2 dMin2) := ci_2 fun W σ w h H a b x y Q L ra rb hp => by
  unfold dMin2 at hp
  split at hp
  · cases ra; cases rb; exact ⟨_, _, rfl, Po.here L (.int _) hp⟩
  · exact hp.elim
def dInt (a : D) (h : Ph) : R D := match a with
  | .int i => .ok (.int i) h
  | .bl k => .ok (.int (if k then 1 else 0)) h
  | _ => .bad
theorem ci_int : CallI K mg (fun xs H Q => (∃ i, xs = [.int i] ∧ Q (.int i) H) ∨ ∃ k, xs = [.bl k] ∧ Q (.int (if k then 1 else 0)) H) (g1 dInt) := ci_1 fun W σ w h H a x Q L ra hp => by
  unfold dInt at hp
  split at hp
  · cases ra; exact .inl ⟨_, rfl, Po.here L (.int _) hp⟩
  · cases ra; exact .inr ⟨_, rfl, Po.here L (.int _) hp⟩
  · exact hp.elim
def dBool (a : D) (h : Ph) : R D := match a with
  | .int i => .ok (.bl (i != 0)) h
  | .bl k => .ok (.bl k) h
  | _ => .bad
theorem ci_bool : CallI K mg (fun xs H Q => (∃ i, xs = [.int i] ∧ Q (.bl (i != 0)) H) ∨ ∃ k, xs = [.bl k] ∧ Q (.bl k) H) (g1 dBool) := ci_1 fun W σ w h H a x Q L ra hp => by
  unfold dBool at hp
  split at hp
  · cases ra; exact .inl ⟨_, rfl, Po.here L (.bl _) hp⟩
  · cases ra; exact .inr ⟨_, rfl, Po.here L (.bl _) hp⟩
  · exact hp.elim
/-- str of an int -/
def dStr (a : D) (h : Ph) : R D := match a with
  | .int i => if i.natAbs.log2 < 1920 then .ok (.str (toString i)) h else .bad
  | _ => .bad
theorem ci_str : CallI K mg (fun xs H Q => ∃ i, xs = [.int i] ∧ i.natAbs.log2 < 1920 ∧ Q (.str (toString i)) H) (g1 dStr) := ci_1 fun W σ w h H a x Q L ra hp => by
  unfold dStr at hp
  split at hp
  · obtain ⟨hc, hp⟩ := Po.ite hp
    cases ra; exact ⟨_, rfl, hc, Po.here L (.str _) hp⟩
  · exact hp.elim
/-- len of lists, tuples, texts -/
def dLen (a : D) (h : Ph) : R D := match a with
  | .tup xs => .ok (.int xs.length) h
  | .str x => if x.length ≤ mostL then .ok (.int x.length) h else .bad
  | a => R.opt (lstOf a h) fun xs => .ok (.int xs.length) h
def rLenA (K : PySem.W.Frag) : List V → Hp → VK → Prop := fun xs H Q => (∃ p ys, xs = [.ref p] ∧ (SqL K H p ys ∨ SqT K H p ys) ∧ Q (.int ys.length) H) ∨ ∃ z, xs = [.str z] ∧ z.length ≤ sizeLine ∧ Q (.int z.length) H
theorem call_lenA {X : Cx} : CallR X (.builtin "len") (rLenA X.K) := call_len_seq.or call_len_str
theorem ci_len : CallI K mg (rLenA K) (g1 dLen) := ci_1 fun W σ w h H a x Q L ra hp => by
  unfold dLen at hp
  split at hp
  · cases ra with
    | tup q r =>
      refine .inl ⟨_, _, rfl, .inr (SqT.ex L q), ?_⟩
      rw [← r.length]
      exact Po.here L (.int _) hp
  · obtain ⟨hl, hp⟩ := Po.ite hp
    cases ra
    exact .inr ⟨_, rfl, mostL_le hl, Po.here L (.int _) hp⟩
  · obtain ⟨xs, e, hp⟩ := Po.some hp
    obtain ⟨a1, vs, rfl, hs, r⟩ := lstOf_ok L e ra
    refine .inl ⟨_, _, rfl, .inl hs, ?_⟩
    rw [← r.length]
    exact Po.here L (.int _) hp
/-- tuple(x) of a list or a tuple, list(x) -/
def seqOf (d : D) (h : Ph) : Option (List D) := match d with
  | .tup xs => some xs
  | d => lstOf d h
theorem seqOf_ok {w : Wd} {H : Hp} {h : Ph} (L : Lk K mg w h H) {d : D} {xs : List D} {v : V} (e : seqOf d h = some xs) (r : Rep K mg w d v) : ∃ a vs, v = .ref a ∧ (SqL K H a vs ∨ SqT K H a vs) ∧ Reps K mg w xs vs := by
  unfold seqOf at e
  split at e
  · cases e
    cases r with
    | tup q r => exact ⟨_, _, rfl, .inr (SqT.ex L q), r⟩
  · obtain ⟨a, vs, e1, h1, h2⟩ := lstOf_ok L e r
    exact ⟨a, vs, e1, .inl h1, h2⟩
def dTuple (a : D) (h : Ph) : R D := R.opt (seqOf a h) fun xs => .ok (.tup xs) h
theorem ci_tuple : CallI K mg (fun xs H Q => ∃ p ys, xs = [.ref p] ∧ ((SqL K H p ys ∧ ∀ l, H l = none → Q (.ref l) (upd H l (.tup ys))) ∨ (SqT K H p ys ∧ Q (.ref p) H))) (g1 dTuple) := ci_1 fun W σ w h H a x Q L ra hp => by
  obtain ⟨xs, e, hp⟩ := Po.some hp
  unfold seqOf at e
  split at e
  · cases e
    cases ra with
    | tup q r => exact ⟨_, _, rfl, .inr ⟨SqT.ex L q, Po.here L (.tup q r) hp⟩⟩
  · obtain ⟨a, vs, e1, h1, h2⟩ := lstOf_ok L e ra
    exact ⟨a, vs, by rw [e1], .inl ⟨h1, fun l hl => Po.tup L h2 hp hl⟩⟩
def dList (a : D) (h : Ph) : R D := R.opt (seqOf a h) fun xs => .ok (.lst xs) h
def dListM (a : D) (h : Ph) : R D := R.opt (seqOf a h) fun xs => .ok (.ref h.length) (h ++ [.lst xs])
def rList (K : PySem.W.Frag) : List V → Hp → VK → Prop := fun xs H Q => ∃ p ys, xs = [.ref p] ∧ (SqL K H p ys ∨ SqT K H p ys) ∧ ∀ l, H l = none → Q (.ref l) (upd H l (.lst ys))
theorem ci_list : CallI K mg (rList K) (g1 dList) := ci_1 fun W σ w h H a x Q L ra hp => by
  obtain ⟨xs, e, hp⟩ := Po.some hp
  obtain ⟨a, vs, e1, h1, h2⟩ := seqOf_ok L e ra
  exact ⟨a, vs, by rw [e1], h1, fun l hl => Po.lst L h2 hp hl⟩
theorem ci_listM : CallI K mg (rList K) (g1 dListM) := ci_1 fun W σ w h H a x Q L ra hp => by
  obtain ⟨xs, e, hp⟩ := Po.some hp
  obtain ⟨a, vs, e1, h1, h2⟩ := seqOf_ok L e ra
  exact ⟨a, vs, by rw [e1], h1, fun l hl => po_newO L hl (.lst h2) hp⟩
/-- the bools of a list -/
def blsOf : List D → Option (List Bool)
  | [] => some []
  | .bl i :: r => (blsOf r).map (i :: ·)
  | _ => none
theorem blsOf_ok {w : Wd} : ∀ {xs : List D} {ns : List Bool} {vs : List V}, blsOf xs = some ns → Reps K mg w xs vs → vs = ns.map V.bl
  | [], _, _, e, .nil => by cases e; rfl
  | .bl i :: r, ns, _, e, .cons h t => by
    unfold blsOf at e
    cases q : blsOf r with
    | none => rw [q] at e; cases e
    | some ms =>
      rw [q] at e
      cases e
      cases h
      rw [blsOf_ok q t]
      rfl
  | .non :: _, _, _, e, _ => by cases e
  | .int _ :: _, _, _, e, _ => by cases e
  | .str _ :: _, _, _, e, _ => by cases e
  | .tup _ :: _, _, _, e, _ => by cases e
  | .lst _ :: _, _, _, e, _ => by cases e
  | .seq _ :: _, _, _, e, _ => by cases e
  | .ref _ :: _, _, _, e, _ => by cases e
  | .glo _ :: _, _, _, e, _ => by cases e
  | .ty _ :: _, _, _, e, _ => by cases e
def dAll (a : D) (h : Ph) : R D := R.opt (lstOf a h) fun xs => R.opt (blsOf xs) fun bs => .ok (.bl (bs.all id)) h
def dAny (a : D) (h : Ph) : R D := R.opt (lstOf a h) fun xs => R.opt (blsOf xs) fun bs => .ok (.bl (bs.any id)) h
theorem ci_all : CallI K mg (rAll K) (g1 dAll) := ci_1 fun W σ w h H a x Q L ra hp => by
  obtain ⟨xs, e, hp⟩ := Po.some hp
  obtain ⟨bs, e2, hp⟩ := Po.some hp
  obtain ⟨a, vs, e1, h1, h2⟩ := lstOf_ok L e ra
  have z := blsOf_ok e2 h2
  subst z
  exact ⟨a, bs, by rw [e1], h1, Po.here L (.bl _) hp⟩
theorem ci_any : CallI K mg (rAny K) (g1 dAny) := ci_1 fun W σ w h H a x Q L ra hp => by
  obtain ⟨xs, e, hp⟩ := Po.some hp
  obtain ⟨bs, e2, hp⟩ := Po.some hp
  obtain ⟨a, vs, e1, h1, h2⟩ := lstOf_ok L e ra
  have z := blsOf_ok e2 h2
  subst z
  exact ⟨a, bs, by rw [e1], h1, Po.here L (.bl _) hp⟩
def dSum (a : D) (h : Ph) : R D := R.opt (lstOf a h) fun xs => R.opt (intsOf xs) fun bs => .ok (.int bs.sum) h
theorem ci_sum : CallI K mg (rSum K) (g1 dSum) := ci_1 fun W σ w h H a x Q L ra hp => by
  obtain ⟨xs, e, hp⟩ := Po.some hp
  obtain ⟨bs, e2, hp⟩ := Po.some hp
  obtain ⟨a, vs, e1, h1, h2⟩ := lstOf_ok L e ra
  have z := intsOf_ok e2 h2
  subst z
  exact ⟨a, bs, by rw [e1], h1, Po.here L (.int _) hp⟩
/-- the greatest, the least of a list of ints -/
def maxZ : Int → List Int → Int
  | m, [] => m
  | m, x :: r => maxZ (if x > m then x else m) r
def minZ : Int → List Int → Int
  | m, [] => m
  | m, x :: r => minZ (if x < m then x else m) r
theorem maxZ_ge : ∀ (r : List Int) (m : Int), m ≤ maxZ m r ∧ ∀ y ∈ r, y ≤ maxZ m r
  | [], m => ⟨Int.le_refl m, fun _ h => nomatch h⟩
  | x :: r, m => by
    obtain ⟨h1, h2⟩ := maxZ_ge r (if x > m then x else m)
    unfold maxZ
    have h3 : m ≤ (if x > m then x else m) ∧ x ≤ (if x > m then x else m) := by split <;> omega
    refine ⟨Int.le_trans h3.1 h1, fun y hy => ?_⟩
    rcases List.mem_cons.mp hy with q | hy
    · rw [q]; exact Int.le_trans h3.2 h1
    · exact h2 y hy
theorem minZ_le : ∀ (r : List Int) (m : Int), minZ m r ≤ m ∧ ∀ y ∈ r, minZ m r ≤ y
  | [], m => ⟨Int.le_refl m, fun _ h => nomatch h⟩
  | x :: r, m => by
    obtain ⟨h1, h2⟩ := minZ_le r (if x < m then x else m)
    unfold minZ
    have h3 : (if x < m then x else m) ≤ m ∧ (if x < m then x else m) ≤ x := by split <;> omega
    refine ⟨Int.le_trans h1 h3.1, fun y hy => ?_⟩
    rcases List.mem_cons.mp hy with q | hy
    · rw [q]; exact Int.le_trans h1 h3.2
    · exact h2 y hy
theorem maxZ_mem : ∀ (r : List Int) (m : Int), maxZ m r = m ∨ maxZ m r ∈ r
  | [], m => .inl rfl
  | x :: r, m => by
    unfold maxZ
    rcases maxZ_mem r (if x > m then x else m) with h | h
    · rw [h]
      by_cases c : x > m
      · rw [if_pos c]; exact .inr List.mem_cons_self
      · rw [if_neg c]; exact .inl rfl
    · exact .inr (List.mem_cons_of_mem _ h)
theorem minZ_mem : ∀ (r : List Int) (m : Int), minZ m r = m ∨ minZ m r ∈ r
  | [], m => .inl rfl
  | x :: r, m => by
    unfold minZ
    rcases minZ_mem r (if x < m then x else m) with h | h
    · rw [h]
      by_cases c : x < m
      · rw [if_pos c]; exact .inr List.mem_cons_self
      · rw [if_neg c]; exact .inl rfl
    · exact .inr (List.mem_cons_of_mem _ h)
def dMaxL (a : D) (h : Ph) : R D := R.opt (lstOf a h) fun xs => R.opt (intsOf xs) fun bs => match bs with
  | [] => .bad
  | m :: r => .ok (.int (maxZ m r)) h
def dMinL (a : D) (h : Ph) : R D := R.opt (lstOf a h) fun xs => R.opt (intsOf xs) fun bs => match bs with
  | [] => .bad
  | m :: r => .ok (.int (minZ m r)) h
theorem ci_maxL : CallI K mg (rMax K) (g1 dMaxL) := ci_1 fun W σ w h H a x Q L ra hp => by
  obtain ⟨xs, e, hp⟩ := Po.some hp
  obtain ⟨bs, e2, hp⟩ := Po.some hp
  obtain ⟨a, vs, e1, h1, h2⟩ := lstOf_ok L e ra
  have z := intsOf_ok e2 h2
  subst z
  cases bs with
  | nil => exact hp.elim
  | cons m r =>
    refine ⟨a, m :: r, by rw [e1], h1, Nat.succ_pos _, fun z hz hm => ?_⟩
    have : z = maxZ m r := by
      obtain ⟨k1, k2⟩ := maxZ_ge r m
      have a1 : z ≤ maxZ m r := by
        rcases List.mem_cons.mp hz with rfl | q
        · exact k1
        · exact k2 z q
      have a2 : maxZ m r ≤ z := hm _ (by
        rcases maxZ_mem r m with q | q
        · rw [q]; exact List.mem_cons_self
        · exact List.mem_cons_of_mem _ q)
      omega
    rw [this]
    exact Po.here L (.int _) hp
theorem ci_minL : CallI K mg (rMin K) (g1 dMinL) := ci_1 fun W σ w h H a x Q L ra hp => by
  obtain ⟨xs, e, hp⟩ := Po.some hp
  obtain ⟨bs, e2, hp⟩ := Po.some hp
  obtain ⟨a, vs, e1, h1, h2⟩ := lstOf_ok L e ra
  have z := intsOf_ok e2 h2
  subst z
  cases bs with
  | nil => exact hp.elim
  | cons m r =>
    refine ⟨a, m :: r, by rw [e1], h1, Nat.succ_pos _, fun z hz hm => ?_⟩
    have : z = minZ m r := by
      obtain ⟨k1, k2⟩ := minZ_le r m
      have a1 : minZ m r ≤ z := by
        rcases List.mem_cons.mp hz with rfl | q
        · exact k1
        · exact k2 z q
      have a2 : z ≤ minZ m r := hm _ (by
        rcases minZ_mem r m with q | q
        · rw [q]; exact List.mem_cons_self
        · exact List.mem_cons_of_mem _ q)
      omega
    rw [this]
    exact Po.here L (.int _) hp
/-! ### isinstance with a built-in type -/
def tyOf (d : D) (h : Ph) : Option String := match d with
  | .non => some "NoneType"
  | .bl _ => some "bool"
  | .int _ => some "int"
  | .str _ => some "str"
  | .tup _ => some "tuple"
  | .lst _ => some "list"
  | .ref n => match h[n]? with
    | some (.lst _) => some "list"
    | some (.dK _) => some "dict"
    | some (.dT _) => some "dict"
    | _ => none
  | _ => none
theorem tyOf_ok {w : Wd} {H : Hp} {h : Ph} (L : Lk K mg w h H) {d : D} {v : V} {t : String} (e : tyOf d h = some t) (r : Rep K mg w d v) : TyX K H v (.type t) := by
  cases r with
  | non => cases e; exact .base .non
  | bl b => cases e; exact .base (.bl b)
  | int i => cases e; exact .base (.int i)
  | str x => cases e; exact .base (.str x)
  | tup q r =>
    cases e
    rcases SqT.ex L q with (q | ⟨o, q⟩) | ⟨o, _, _, hk, hc, _⟩
    · exact .base (.tup q)
    · exact .fTuple q
    · exact .kTuple hk hc
  | lst q r => cases e; exact .base (.lst (L.ex _ _ q))
  | ref q =>
    obtain ⟨o, u, h1, h2, r'⟩ := L.there q
    unfold tyOf at e
    simp only [h1] at e
    cases r' with
    | lst _ => cases e; exact .base (.lst h2)
    | dK _ => cases e; exact .base (.dK h2)
    | dT _ => cases e; exact .base (.dT h2)
    | ins _ _ => cases e
    | dead => cases e
  | seq _ _ => cases e
  | glo _ => cases e
  | ty _ => cases e
def dIsi (a b : D) (h : Ph) : R D := match b with
  | .ty n => R.opt (tyOf a h) fun t => R.opt (kitB t n) fun k => .ok (.bl k) h
  | _ => .bad
theorem ci_isi : CallI K mg (rIsi K) (g2 dIsi) := ci_2 fun W σ w h H a b x y Q L ra rb hp => by
  unfold dIsi at hp
  split at hp
  · obtain ⟨t, e1, hp⟩ := Po.some hp
    obtain ⟨k, e2, hp⟩ := Po.some hp
    cases rb
    exact ⟨x, _, _, _, k, rfl, .ty _, tyOf_ok L e1 ra, kit_ty e2, Po.here L (.bl _) hp⟩
  · exact hp.elim
end
end Pd

namespace Pd
open PySem L2 Evl
/-! ### targets -/
abbrev SG := D → Pe → Ph → R Pe
abbrev SGs := List D → Pe → Ph → R Pe
/-- only the slots S are stored -/
def Only (S : List Nat) (σ σ' : St) : Prop := σ'.length = σ.length ∧ ∀ i, i ∉ S → σ'[i]? = σ[i]?
theorem Only.refl (S : List Nat) (σ : St) : Only S σ σ := ⟨rfl, fun _ _ => rfl⟩
theorem Only.trans {S S' : List Nat} {a b c : St} (h : Only S a b) (k : Only S' b c) : Only (S ++ S') a c := ⟨k.1.trans h.1, fun i hi => (k.2 i fun z => hi (List.mem_append_right _ z)).trans (h.2 i fun z => hi (List.mem_append_left _ z))⟩
theorem Only.set (i : Nat) (σ : St) (o : Option V) : Only [i] σ (σ.set i o) := ⟨by simp, fun j hj => by
  have : i ≠ j := fun z => hj (by simp [z])
  rw [List.getElem?_set_ne this]⟩
section
variable (K : PySem.W.Frag) (mg : Str → Option Value)
def PoG (S : List Nat) (σ : St) (w : Wd) (H : Hp) (r : R Pe) (Q : St → Hp → Prop) : Prop := match r with
  | .ok e' h' => ∀ w' H' σ', Step w H w' H' → Lk K mg w' h' H' → En K mg w' e' σ' → Only S σ σ' → Q σ' H'
  | _ => False
def SnG (S : List Nat) (t : TG) (g : SG) : Prop := ∀ (σ : St) (e : Pe) (w : Wd) (h : Ph) (H : Hp) (x : D) (v : V) (Q : St → Hp → Prop), En K mg w e σ → Lk K mg w h H → Rep K mg w x v → PoG K mg S σ w H (g x e h) Q → t v σ H Q
def SnGs (S : List Nat) (t : TGs) (g : SGs) : Prop := ∀ (σ : St) (e : Pe) (w : Wd) (h : Ph) (H : Hp) (x : List D) (v : List V) (Q : St → Hp → Prop), En K mg w e σ → Lk K mg w h H → Reps K mg w x v → PoG K mg S σ w H (g x e h) Q → t v σ H Q
end
theorem PoG.step {K : PySem.W.Frag} {mg : Str → Option Value} {S : List Nat} {σ : St} {w w1 : Wd} {H H1 : Hp} {r : R Pe} {Q : St → Hp → Prop} (st : Step w H w1 H1) (h : PoG K mg S σ w H r Q) : PoG K mg S σ w1 H1 r Q := by
  cases r with
  | ok a h' => exact fun w' H' v s => h w' H' v (st.trans s)
  | exc c fs h' => exact h
  | bad => exact h
section
variable {ι : Type} {Z : Cz} {Y : ι → Cy} {W : WX}
def GI (Z : Cz) (Y : ι → Cy) (S : List Nat) (tg : Expr) (g : SG) : Prop := ∃ t, (∀ i, PG (cx Z (Y i)) tg t) ∧ SnG Z.K Z.mg S t g
def GIs (Z : Cz) (Y : ι → Cy) (S : List Nat) (tg : List Expr) (g : SGs) : Prop := ∃ t, (∀ i, PGs (cx Z (Y i)) tg t) ∧ SnGs Z.K Z.mg S t g
def gNm (i : Nat) : SG := fun x e h => .ok (e.set i (some x)) h
theorem gi_name (i : Nat) {x : Str} {pos : Pos} (hN : Z.N.Nodup) (hi : Z.N[i]? = some x) (hx : ∀ i, Loc (Y i).env.scope x) (hf : ∀ i, (Y i).fn x = true ∨ (Y i).env.scope.names.lookup x = some .local) : GI Z Y [i] (.Name x pos) (gNm i) :=
  ⟨gName i, fun j => pg_name (X := cx Z (Y j)) hN hi (hx j) (hf j), fun σ e w h H x v Q E L r hp => hp w H _ (Step.refl w H) L (E.set r i) (Only.set i σ _)⟩
def gNilS : SGs := fun xs e h => match xs with
  | [] => .ok e h
  | _ => .bad
def gConsS (g : SG) (gs : SGs) : SGs := fun xs e h => match xs with
  | x :: r => (g x e h).bind fun e1 h1 => gs r e1 h1
  | [] => .bad
theorem gis_nil : GIs Z Y [] [] gNilS := ⟨gNil, fun _ => pgs_nil, fun σ e w h H x v Q E L r hp => by
  cases r with
  | nil => exact ⟨rfl, hp w H σ (Step.refl w H) L E (Only.refl _ _)⟩
  | cons _ _ => exact hp.elim⟩
theorem gis_cons {S S' : List Nat} {a : Expr} {es : List Expr} {g : SG} {gs : SGs} (h1 : GI Z Y S a g) (h2 : GIs Z Y S' es gs) (hs : ∀ i, (assignEach (a :: es) (Y i).env).map (·.2) = assign a (Y i).env :: (assignEach es (Y i).env).map (·.2) := by intro _; rfl) : GIs Z Y (S ++ S') (a :: es) (gConsS g gs) := by
  obtain ⟨t, p, s⟩ := h1
  obtain ⟨t', p', s'⟩ := h2
  refine ⟨_, fun i => pgs_cons (p i) (p' i) (hs i), fun σ e w h H x v Q E L r hp => ?_⟩
  cases r with
  | nil => exact hp.elim
  | cons r1 rr =>
    rename_i d ds u us
    refine ⟨_, _, rfl, s σ e w h H _ _ _ E L r1 ?_⟩
    have hp' : PoG Z.K Z.mg (S ++ S') σ w H ((g d e h).bind fun e1 h1 => gs ds e1 h1) Q := hp
    cases q : g d e h with
    | ok e1 h1 =>
      rw [q] at hp'
      intro w1 H1 σ1 st1 L1 E1 o1
      refine s' σ1 e1 w1 h1 H1 _ _ _ E1 L1 (rr.mono st1.le) ?_
      have hp1 : PoG Z.K Z.mg (S ++ S') σ w1 H1 (gs ds e1 h1) Q := PoG.step st1 hp'
      cases q2 : gs ds e1 h1 with
      | ok e2 h2 =>
        rw [q2] at hp1
        exact fun w2 H2 σ2 st2 L2 E2 o2 => hp1 w2 H2 σ2 st2 L2 E2 (o1.trans o2)
      | exc _ _ _ => rw [q2] at hp1; exact hp1.elim
      | bad => rw [q2] at hp1; exact hp1.elim
    | exc _ _ _ => rw [q] at hp'; exact hp'.elim
    | bad => rw [q] at hp'; exact hp'.elim
def gTp (n : Nat) (gs : SGs) : SG := fun x e h => match x with
  | .tup xs => if xs.length = n then gs xs e h else .bad
  | _ => .bad
theorem PoG.ite {K : PySem.W.Frag} {mg : Str → Option Value} {S : List Nat} {σ : St} {w : Wd} {H : Hp} {Q : St → Hp → Prop} {c : Prop} [Decidable c] {f : R Pe} (hp : PoG K mg S σ w H (if c then f else .bad) Q) : c ∧ PoG K mg S σ w H f Q := by
  by_cases hc : c
  · rw [if_pos hc] at hp; exact ⟨hc, hp⟩
  · rw [if_neg hc] at hp; exact hp.elim
theorem gi_tup {S : List Nat} {es : List Expr} {k : Nat} {pos : Pos} {n : Nat} {gs : SGs} (hc : ∀ i, (Y i).calm = true) (h : GIs Z Y S es gs) (hn : ∀ i, (assignEach es (Y i).env).length = n := by intro _; rfl) (hst : ∀ i, (assignEach es (Y i).env).findIdx? (·.1) = none := by intro _; rfl) : GI Z Y S (.Tuple es k pos) (gTp n gs) := by
  obtain ⟨t, p, s⟩ := h
  refine ⟨gTup Z.K n t, fun i => pg_tup (X := cx Z (Y i)) (hc i) (p i) (hn i) (hst i), fun σ e w h H x v Q E L r hp => ?_⟩
  unfold gTp at hp
  split at hp
  · obtain ⟨hl, hp⟩ := PoG.ite hp
    cases r with
    | tup q r => exact ⟨_, _, rfl, SqT.ex L q, by rw [← r.length]; exact hl, s σ e w h H _ _ _ E L r hp⟩
  · exact hp.elim
/-- o[i] = x, o a list that changes -/
def setIx (o i x : D) (h : Ph) : R Unit := match o, i with
  | .ref n, .int k => match h[n]? with
    | some (.lst xs) => match ixN xs.length k with
      | some j => .ok () (h.set n (.lst (xs.set j x)))
      | none => .bad
    | _ => .bad
  | _, _ => .bad
/-! ### statements -/
def R.toG (r : R Pe) : F := match r with
  | .ok e h => .nx e h
  | _ => .bad
def sAsg (f : SE) (g : SG) : SS := fun e h => (f e h).toF e fun x h1 => (g x e h1).toG
theorem PoG.of {K : PySem.W.Frag} {mg : Str → Option Value} {S : List Nat} {σ : St} {w : Wd} {H : Hp} {r : R Pe} {D : Ends} (hp : PoF K mg W w H r.toG D) : PoG K mg S σ w H r D.nx := by
  cases r with
  | ok e h => exact fun w' H' σ' st L E _ => hp w' H' σ' st L E
  | exc _ _ _ => exact hp
  | bad => exact hp
theorem sn_asg {K : PySem.W.Frag} {mg : Str → Option Value} {S : List Nat} {te : TE} {t : TG} {f : SE} {g : SG} (sf : SnE K mg W te f) (sg : SnG K mg S t g) : SnS K mg W (tAsg te t) (sAsg f g) := fun σ e w h H D E L hp =>
  sf σ e w h H _ E L (Po.toF (Rp := Rep K mg) E hp fun a h1 w1 H1 v _ st1 L1 r1 hp1 => sg σ e w1 h1 H1 a v D.nx (E.mono st1.le) L1 r1 (PoG.of hp1))
theorem si_asg {S : List Nat} {tg e : Expr} {f : SE} {g : SG} {pos : Pos} (hf : EI Z Y W e f) (hg : GI Z Y S tg g) (hs : ∀ i, swapsWithSole [tg] e pos.line (Y i).env = pure false := by intro _; rfl) (hw : ∀ i, swappedStores [tg] e (Y i).env = pure none := by intro _; rfl)
    (h1 : ∀ i, (assignEach [tg] (Y i).env).map (·.2) = [assign tg (Y i).env] := by intro _; rfl) : SI Z Y W (.Assign [tg] e pos) (sAsg f g) := by
  obtain ⟨te, pe, se⟩ := hf
  obtain ⟨tg', pg, sg⟩ := hg
  exact ⟨_, fun i => ps_asg (pe i) (pg i) (hs i) (hw i) (h1 i), sn_asg se sg⟩
theorem sn_name {K : PySem.W.Frag} {mg : Str → Option Value} (i : Nat) : SnG K mg [i] (gName i) (gNm i) := fun σ e w h H x v Q E L r hp => hp w H _ (Step.refl w H) L (E.set r i) (Only.set i σ _)
theorem si_set (i : Nat) {x : Str} {e : Expr} {f : SE} {pos pos' : Pos} (hN : Z.N.Nodup) (hi : Z.N[i]? = some x) (hx : ∀ i, Loc (Y i).env.scope x) (hfn : ∀ i, (Y i).fn x = true ∨ (Y i).env.scope.names.lookup x = some .local) (hf : EI Z Y W e f) (hs : ∀ i, swapsWith e (some (.Name x pos')) pos.line (Y i).env = pure false := by intro _; rfl) :
    SI Z Y W (.Assign [.Name x pos'] e pos) (sAsg f (gNm i)) := by
  obtain ⟨te, pe, se⟩ := hf
  exact ⟨_, fun j => ps_set (X := cx Z (Y j)) hN hi (hx j) (pe j) (hs j) (hfn j), sn_asg se (sn_name i)⟩
/-- a, b = x, y -/
def sPar (i j : Nat) (f : SA) : SS := fun e h => (f e h).toF e fun xs h1 => match xs with
  | [x, y] => .nx ((e.set i (some x)).set j (some y)) h1
  | _ => .bad
theorem si_par {i j : Nat} {x y : Str} {a b : Expr} {f : SA} {px py pt pt2 pos : Pos} {kt k2} (hc : ∀ i, (Y i).calm = true) (hN : Z.N.Nodup) (hi : Z.N[i]? = some x) (hj : Z.N[j]? = some y) (hij : i ≠ j)
    (hx : ∀ i, (Y i).env.scope.names.lookup x = some .local) (hy : ∀ i, (Y i).env.scope.names.lookup y = some .local) (ha : AI Z Y W [a, b] f)
    (hw : ∀ i, swappedStores [.Tuple [.Name x px, .Name y py] kt pt] (.Tuple [a, b] k2 pt2) (Y i).env = pure (some [x, y]))
    (hs : ∀ i, swapsWithSole [.Tuple [.Name x px, .Name y py] kt pt] (.Tuple [a, b] k2 pt2) pos.line (Y i).env = pure false := by intro _; rfl) :
    SI Z Y W (.Assign [.Tuple [.Name x px, .Name y py] kt pt] (.Tuple [a, b] k2 pt2) pos) (sPar i j f) := by
  obtain ⟨ta, pa, sa⟩ := ha
  refine ⟨_, fun q => ps_par (X := cx Z (Y q)) (hc q) hN hi hj hij (hx q) (hy q) (pa q) (hw q) (hs q), fun σ e w h H D E L hp => sa σ e w h H _ E L (Po.toF (Rp := Reps Z.K Z.mg) E hp fun xs h1 w1 H1 v _ st1 L1 r1 hp1 => ?_)⟩
  split at hp1
  · obtain ⟨u1, u2, rfl, q1, q2⟩ := r1.two
    exact ⟨u1, u2, rfl, hp1 w1 H1 _ (Step.refl _ _) L1 (((E.mono st1.le).set q1 i).set q2 j)⟩
  · exact hp1.elim
/-- x op= e -/
def sAug (i : Nat) (g : D → D → Ph → R D) (f : SE) : SS := fun e h => match e[i]? with
  | some (some a) => (f e h).toF e fun b h1 => (g a b h1).toF e fun c h2 => .nx (e.set i (some c)) h2
  | _ => .bad
theorem si_aug (i : Nat) {x : Str} {e : Expr} {f : SE} {g : D → D → Ph → R D} {op : Operator} {r : R2} {pos pos' : Pos} (hN : Z.N.Nodup) (hi : Z.N[i]? = some x) (hx : ∀ i, Loc (Y i).env.scope x) (hfn : ∀ i, (Y i).fn x = true ∨ (Y i).env.scope.names.lookup x = some .local)
    (o : OpF Z Y (inplaceOp op) r) (ho : OpI Z.K Z.mg r g) (hf : EI Z Y W e f) : SI Z Y W (.AugAssign (.Name x pos') op e pos) (sAug i g f) := by
  obtain ⟨te, pe, se⟩ := hf
  refine ⟨_, fun j => ps_aug (X := cx Z (Y j)) hN hi (hx j) (pe j) (o j) (hfn j), fun σ e w h H D E L hp => ?_⟩
  unfold sAug at hp
  split at hp
  · rename_i a he
    obtain ⟨v, h1, r1⟩ := E.get i a he
    refine ⟨v, h1, se σ e w h H _ E L (Po.toF (Rp := Rep Z.K Z.mg) E hp fun b h1 w1 H1 y _ st1 L1 r2 hp1 => ho W σ w1 h1 H1 a b v y _ L1 (r1.mono st1.le) r2 (Po.toF (Rp := Rep Z.K Z.mg) (E.mono st1.le) hp1 fun c h2 w2 H2 z _ st2 L2 r3 hp2 => ?_))⟩
    exact hp2 w2 H2 _ (Step.refl _ _) L2 ((E.mono (st1.le.trans st2.le)).set r3 i)
  · exact hp.elim
def sDrop (f : SE) : SS := fun e h => (f e h).toF e fun _ h1 => .nx e h1
theorem si_expr {e : Expr} {f : SE} {pos : Pos} (hf : EI Z Y W e f) (hs : ∀ i, swapsWith e none pos.line (Y i).env = pure false := by intro _; rfl) : SI Z Y W (.Expr e pos) (sDrop f) := by
  obtain ⟨te, pe, se⟩ := hf
  exact ⟨_, fun i => ps_expr (pe i) (hs i), fun σ e w h H D E L hp => se σ e w h H _ E L (Po.toF (Rp := Rep Z.K Z.mg) E hp fun a h1 w1 H1 v _ st1 L1 r1 hp1 => hp1 w1 H1 σ (Step.refl _ _) L1 (E.mono st1.le))⟩
def sRet (f : SE) : SS := fun e h => (f e h).toF e fun x h1 => .ret x h1
theorem si_ret {e : Expr} {f : SE} {pos : Pos} (hf : EI Z Y W e f) : SI Z Y W (.Return (some e) pos) (sRet f) := by
  obtain ⟨te, pe, se⟩ := hf
  exact ⟨_, fun i => ps_ret (pe i), fun σ e w h H D E L hp => se σ e w h H _ E L (Po.toF (Rp := Rep Z.K Z.mg) E hp fun a h1 w1 H1 v _ st1 L1 r1 hp1 => hp1 w1 H1 v (Step.refl _ _) L1 r1)⟩
def sRetN : SS := fun _ h => .ret .non h
theorem si_retN {pos : Pos} : SI Z Y W (.Return none pos) sRetN := ⟨_, fun _ => ps_retN, fun σ e w h H D E L hp => hp w H _ (Step.refl _ _) L .non⟩
def sNx : SS := fun e h => .nx e h
def sBrk : SS := fun e h => .brk e h
def sCnt : SS := fun e h => .cnt e h
def sBad : SS := fun _ _ => .bad
theorem si_pass {pos : Pos} : SI Z Y W (.Pass pos) sNx := ⟨_, fun _ => ps_pass, fun σ e w h H D E L hp => hp w H _ (Step.refl _ _) L E⟩
theorem si_break {pos : Pos} : SI Z Y W (.Break pos) sBrk := ⟨_, fun _ => ps_break, fun σ e w h H D E L hp => hp w H _ (Step.refl _ _) L E⟩
theorem si_continue {pos : Pos} : SI Z Y W (.Continue pos) sCnt := ⟨_, fun _ => ps_continue, fun σ e w h H D E L hp => hp w H _ (Step.refl _ _) L E⟩
theorem si_never {st : Stmt} : SI Z Y W st sBad := ⟨_, fun _ => ps_never, fun σ e w h H D E L hp => hp.elim⟩
theorem bi_nil : BI Z Y W [] sNx := ⟨_, fun _ => pss_nil, fun σ e w h H D E L hp => hp w H _ (Step.refl _ _) L E⟩
/-- one statement, then the rest -/
def F.seq (r : F) (k : Pe → Ph → F) : F := match r with
  | .nx e h => k e h
  | .ret d h => .ret d h
  | .brk e h => .brk e h
  | .cnt e h => .cnt e h
  | .exc c fs e h => .exc c fs e h
  | .bad => .bad
def sSeq (f g : SS) : SS := fun e h => (f e h).seq g
theorem PoF.seq {K : PySem.W.Frag} {mg : Str → Option Value} {w : Wd} {H : Hp} {r : F} {k : Pe → Ph → F} {D : Ends} {N : St → Hp → Prop} (hp : PoF K mg W w H (r.seq k) D)
    (hk : ∀ e h1 w1 H1 σ', r = .nx e h1 → Step w H w1 H1 → Lk K mg w1 h1 H1 → En K mg w1 e σ' → PoF K mg W w1 H1 (k e h1) D → N σ' H1) : PoF K mg W w H r { D with nx := N } := by
  cases r with
  | nx e h => exact fun w1 H1 σ' st L E => hk e h w1 H1 σ' rfl st L E (PoF.step st hp)
  | ret d h => exact hp
  | brk e h => exact hp
  | cnt e h => exact hp
  | exc c fs e h => exact hp
  | bad => exact hp
theorem bi_cons {st : Stmt} {rest : List Stmt} {f g : SS} (h1 : SI Z Y W st f) (h2 : BI Z Y W rest g) : BI Z Y W (st :: rest) (sSeq f g) := by
  obtain ⟨t, p, s⟩ := h1
  obtain ⟨t', p', s'⟩ := h2
  exact ⟨_, fun i => pss_cons (p i) (p' i), fun σ e w h H D E L hp => s σ e w h H _ E L (PoF.seq hp fun e1 h1 w1 H1 σ' _ st1 L1 E1 hp1 => s' σ' e1 w1 h1 H1 D E1 L1 hp1)⟩
theorem bi_one {st : Stmt} {f : SS} (h1 : SI Z Y W st f) : BI Z Y W [st] f := by
  obtain ⟨t, p, s⟩ := h1
  exact ⟨_, fun i => pss_one (p i), s⟩
def sIte (c : ST) (f g : SS) : SS := fun e h => (c e h).toF e fun b h1 => br b (f e h1) (g e h1)
theorem si_if {c : Expr} {a b : List Stmt} {fc : ST} {f g : SS} {pos : Pos} (hc : TI Z Y W c fc) (ha : BI Z Y W a f) (hb : BI Z Y W b g) : SI Z Y W (.If c a b pos) (sIte fc f g) := by
  obtain ⟨tc, pc, sc⟩ := hc
  obtain ⟨ta, pa, sa⟩ := ha
  obtain ⟨tb, pb, sb⟩ := hb
  refine ⟨_, fun i => ps_if (pc i) (pa i) (pb i), fun σ e w h H D E L hp => sc σ e w h H _ E L (Po.toF (Rp := RpB) E hp fun a h1 w1 H1 v _ st1 L1 r1 hp1 => ?_)⟩
  cases r1
  cases a with
  | true => exact sa σ e w1 h1 H1 D (E.mono st1.le) L1 hp1
  | false => exact sb σ e w1 h1 H1 D (E.mono st1.le) L1 hp1
/-! ### while -/
/-- behind a loop's turn: again, out, or an end -/
def F.turn (r : F) (again : Pe → Ph → F) : F := match r with
  | .nx e h => again e h
  | .cnt e h => again e h
  | .brk e h => .nx e h
  | .ret d h => .ret d h
  | .exc c fs e h => .exc c fs e h
  | .bad => .bad
def sWhile : Nat → ST → SS → SS
  | 0, _, _ => fun _ _ => .bad
  | n + 1, c, f => fun e h => (c e h).toF e fun b h1 => br b ((f e h1).turn fun e2 h2 => sWhile n c f e2 h2) (.nx e h1)
theorem PoF.turn {K : PySem.W.Frag} {mg : Str → Option Value} {w : Wd} {H : Hp} {r : F} {k : Pe → Ph → F} {D : Ends} {N : St → Hp → Prop} (hp : PoF K mg W w H (r.turn k) D)
    (hk : ∀ e h1 w1 H1 σ', Step w H w1 H1 → Lk K mg w1 h1 H1 → En K mg w1 e σ' → PoF K mg W w1 H1 (k e h1) D → N σ' H1) : PoF K mg W w H r { D with nx := N, ct := N, bk := D.nx } := by
  cases r with
  | nx e h => exact fun w1 H1 σ' st L E => hk e h w1 H1 σ' st L E (PoF.step st hp)
  | ret d h => exact hp
  | brk e h => exact hp
  | cnt e h => exact fun w1 H1 σ' st L E => hk e h w1 H1 σ' st L E (PoF.step st hp)
  | exc c fs e h => exact hp
  | bad => exact hp
theorem sn_while {K : PySem.W.Frag} {mg : Str → Option Value} {tc : TT} {tb : TS} {c : ST} {f : SS} (sc : SnT K mg W tc c) (sf : SnS K mg W tb f) (n : Nat) : SnS K mg W (tWhile tc tb) (sWhile n c f) := fun σ e w h H D E L hp => by
  refine ⟨fun m σ H => ∃ e w h, En K mg w e σ ∧ Lk K mg w h H ∧ PoF K mg W w H (sWhile m c f e h) D, ⟨n, e, w, h, E, L, hp⟩, ?_⟩
  rintro m σ H ⟨e, w, h, E, L, hp⟩
  cases m with
  | zero => exact hp.elim
  | succ m =>
    refine sc σ e w h H _ E L (Po.toF (Rp := RpB) E hp fun b h1 w1 H1 v _ st1 L1 r1 hp1 => ?_)
    cases r1
    cases b with
    | true =>
      rw [if_pos rfl]
      exact ⟨fun σ' H' => ∃ e w h, En K mg w e σ' ∧ Lk K mg w h H' ∧ PoF K mg W w H' (sWhile m c f e h) D, fun σ' H' ⟨e, w, h, q⟩ => ⟨m, Nat.lt_succ_self m, e, w, h, q⟩,
        sf σ e w1 h1 H1 _ (E.mono st1.le) L1 (PoF.turn hp1 fun e2 h2 w2 H2 σ' st2 L2 E2 hp2 => ⟨e2, w2, h2, E2, L2, hp2⟩)⟩
    | false =>
      rw [if_neg Bool.false_ne_true]
      exact hp1 w1 H1 σ (Step.refl _ _) L1 (E.mono st1.le)
theorem si_while (n : Nat) {c : Expr} {body : List Stmt} {fc : ST} {f : SS} {pos : Pos} (hp : ∀ i, PassesOwn (model Z.P Z.w) (Y i).A (Y i).env (Y i).xe) (hc : TI Z Y W c fc) (hb : BI Z Y W body f) : SI Z Y W (.While c body [] pos) (sWhile n fc f) := by
  obtain ⟨tc, pc, sc⟩ := hc
  obtain ⟨tb, pb, sb⟩ := hb
  exact ⟨_, fun i => ps_while (X := cx Z (Y i)) (hp i) (pc i) (pb i), sn_while sc sb n⟩
end
/-! ### what a loop walks -/
/-- an iterator that goes over xs, whatever happens -/
structure ItOk (K : PySem.W.Frag) (mg : Str → Option Value) (w : Wd) (J : It) (xs : List D) : Prop where
  go : ∀ (w' : Wd) (h' : Ph) (H' : Hp) (i : Nat) (d : D), Le w w' → Lk K mg w' h' H' → xs[i]? = some d → J.go i H' ∧ ∀ x H'', J.yld i H' x H'' → ∃ w'', Step w' H' w'' H'' ∧ Lk K mg w'' h' H'' ∧ Rep K mg w'' d x
  stop : ∀ (w' : Wd) (h' : Ph) (H' : Hp) (i : Nat), Le w w' → Lk K mg w' h' H' → xs.length ≤ i → J.stop i H'
abbrev SIt := Pe → Ph → R (List D)
section
variable (K : PySem.W.Frag) (mg : Str → Option Value)
abbrev PoI := Po (α := List D) (β := It) K mg (fun w xs J => ItOk K mg w J xs)
def SnI (W : WX) (t : L2.TI) (f : SIt) : Prop := ∀ (σ : St) (e : Pe) (w : Wd) (h : Ph) (H : Hp) (Q : It → Hp → Prop), En K mg w e σ → Lk K mg w h H → PoI K mg W σ w H (f e h) Q → t σ H Q
end
section
variable {ι : Type} {Z : Cz} {Y : ι → Cy} {W : WX}
def II (Z : Cz) (Y : ι → Cy) (W : WX) (tg iter : Expr) (f : SIt) : Prop := ∃ t, (∀ i, PI (cx Z (Y i)) tg iter t) ∧ SnI Z.K Z.mg W t f
/-- the items of a list that changes no more -/
def iLst (f : SE) : SIt := fun e h => (f e h).bind fun a h1 => match a with
  | .lst xs => .ok xs h1
  | .seq xs => .ok xs h1
  | _ => .bad
theorem itOk_list {K : PySem.W.Frag} {mg : Str → Option Value} {w : Wd} {a : Addr} {xs : List D} {vs : List V} (q : SqL K w.G a vs) (r : Reps K mg w xs vs) (inj : ∀ (H : Hp) (ys : List V), SqL K H a vs → SqL K H a ys → ys = vs) : ItOk K mg w (Itl K a) xs where
  go := fun w' h' H' i d le L e => by
    obtain ⟨v, hv, rv⟩ := r.get e
    have s := ex_l L.ex (ex_l le.ex q)
    refine ⟨⟨vs, v, s, hv⟩, fun x H'' y => ?_⟩
    obtain ⟨rfl, y⟩ := y
    have z := y vs s
    rw [hv] at z
    cases z
    exact ⟨w', Step.refl _ _, L, rv.mono le⟩
  stop := fun w' h' H' i le L hl => ⟨vs, ex_l L.ex (ex_l le.ex q), by rw [← r.length]; exact hl⟩
theorem ii_lst {tg l : Expr} {f : SE} (hf : EI Z Y W l f) : II Z Y W tg l (iLst f) := by
  obtain ⟨t, p, s⟩ := hf
  refine ⟨iList Z.K t, fun i => pi_list (X := cx Z (Y i)) (p i), fun σ e w h H Q E L hp => s σ e w h H _ E L (Po.bind (Rp := Rep Z.K Z.mg) hp fun a h1 w1 H1 x _ st1 L1 r1 hp1 => ?_)⟩
  have key : ∀ (a1 : Addr) (xs : List D) (vs : List V), SqL Z.K w1.G a1 vs → Reps Z.K Z.mg w1 xs vs → PoI Z.K Z.mg W σ w1 H1 (.ok xs h1) Q → ∃ a, (V.ref a1) = V.ref a ∧ (∃ xs, SqL Z.K H1 a xs) ∧ Q (Itl Z.K a) H1 := fun a1 xs vs q r hq =>
    ⟨a1, rfl, ⟨vs, ex_l L1.ex q⟩, hq w1 H1 _ (Step.refl _ _) L1 ⟨fun w' h' H' i d le L e => by
      obtain ⟨v, hv, rv⟩ := r.get e
      have s := ex_l L.ex (ex_l le.ex q)
      refine ⟨⟨vs, v, s, hv⟩, fun x H'' y => ?_⟩
      obtain ⟨rfl, y⟩ := y
      have z := y vs s
      rw [hv] at z
      cases z
      exact ⟨w', Step.refl _ _, L, rv.mono le⟩, fun w' h' H' i le L hl => ⟨vs, ex_l L.ex (ex_l le.ex q), by rw [← r.length]; exact hl⟩⟩⟩
  cases r1 with
  | lst q r => exact key _ _ _ (.inl (.inl q)) r hp1
  | seq q r => exact key _ _ _ q r hp1
  | _ => exact hp1.elim
def iTupS (f : SE) : SIt := fun e h => (f e h).bind fun a h1 => match a with
  | .tup xs => .ok xs h1
  | _ => .bad
theorem ii_tup {tg l : Expr} {f : SE} (hf : EI Z Y W l f) : II Z Y W tg l (iTupS f) := by
  obtain ⟨t, p, s⟩ := hf
  refine ⟨iTup Z.K t, fun i => pi_tup (X := cx Z (Y i)) (p i), fun σ e w h H Q E L hp => s σ e w h H _ E L (Po.bind (Rp := Rep Z.K Z.mg) hp fun a h1 w1 H1 x _ st1 L1 r1 hp1 => ?_)⟩
  cases r1 with
  | @tup a1 vs xs q r =>
    exact ⟨_, rfl, ⟨_, SqT.ex L1 q⟩, hp1 w1 H1 _ (Step.refl _ _) L1 ⟨fun w' h' H' i d le L e => by
      obtain ⟨v, hv, rv⟩ := r.get e
      have s := ex_t L.ex (ex_t le.ex q)
      refine ⟨⟨vs, v, s, hv⟩, fun x H'' y => ?_⟩
      obtain ⟨rfl, y⟩ := y
      have z := y vs s
      rw [hv] at z
      cases z
      exact ⟨w', Step.refl _ _, L, rv.mono le⟩, fun w' h' H' i le L hl => ⟨vs, ex_t L.ex (ex_t le.ex q), by rw [← r.length]; exact hl⟩⟩⟩
  | _ => exact hp1.elim
/-- lo, lo + 1, .. as data -/
def rangeD (lo : Int) (n : Nat) : List D := (List.range n).map fun (k : Nat) => D.int (lo + (k : Int))
theorem itOk_range {K : PySem.W.Frag} {mg : Str → Option Value} {w : Wd} (lo : Int) (n : Nat) : ItOk K mg w (Itr lo n) (rangeD lo n) where
  go := fun w' h' H' i d le L e => by
    unfold rangeD at e
    rw [List.getElem?_map] at e
    cases q : (List.range n)[i]? with
    | none => rw [q] at e; cases e
    | some j =>
      rw [q] at e
      cases e
      have hj := List.getElem?_eq_some_iff.mp q
      obtain ⟨h1, h2⟩ := hj
      rw [List.length_range] at h1
      have hij : i = j := by rw [← h2]; simp
      refine ⟨h1, fun x H'' y => ?_⟩
      obtain ⟨rfl, rfl⟩ := y
      subst hij
      exact ⟨w', Step.refl _ _, L, .int _⟩
  stop := fun w' h' H' i le L hl => by
    unfold rangeD at hl
    rw [List.length_map, List.length_range] at hl
    exact hl
def iRange1 (f : SA) : SIt := fun e h => (f e h).bind fun as h1 => match as with
  | [.int n] => if -(2 ^ 62) ≤ n ∧ n < 2 ^ 62 then .ok (rangeD 0 n.toNat) h1 else .bad
  | _ => .bad
def iRange2 (f : SA) : SIt := fun e h => (f e h).bind fun as h1 => match as with
  | [.int m, .int n] => if -(2 ^ 62) ≤ m ∧ m < 2 ^ 62 ∧ -(2 ^ 62) ≤ n ∧ n < 2 ^ 62 then .ok (rangeD m (n - m).toNat) h1 else .bad
  | _ => .bad
theorem ii_range1 {tg a : Expr} {f : SA} {p pos : Pos} (hg : GlF Y "range") (hm : Z.mg "range" = none) (ha : AI Z Y W [a] f) (hs : ∀ i, starEach [a] (Y i).env = [(false, eval a (Y i).env)] := by intro _; rfl) : II Z Y W tg (.Call (.Name "range" p) [a] [] pos) (iRange1 f) := by
  obtain ⟨t, pa, s⟩ := ha
  refine ⟨_, fun i => pi_range1 (X := cx Z (Y i)) (hg i) hm (pa i) (hs i), fun σ e w h H Q E L hp => s σ e w h H _ E L (Po.bind (Rp := Reps Z.K Z.mg) hp fun a h1 w1 H1 x _ st1 L1 r1 hp1 => ?_)⟩
  split at hp1
  · obtain ⟨hc, hp1⟩ := Po.ite hp1
    obtain ⟨y, rfl, r⟩ := r1.one
    cases r
    exact ⟨_, rfl, hc.1, hc.2, hp1 w1 H1 _ (Step.refl _ _) L1 (itOk_range 0 _)⟩
  · exact hp1.elim
theorem ii_range2 {tg a b : Expr} {f : SA} {p pos : Pos} (hg : GlF Y "range") (hm : Z.mg "range" = none) (ha : AI Z Y W [a, b] f) (hs : ∀ i, starEach [a, b] (Y i).env = [(false, eval a (Y i).env), (false, eval b (Y i).env)] := by intro _; rfl) (hs2 : ∀ i, starEach [b] (Y i).env = [(false, eval b (Y i).env)] := by intro _; rfl) :
    II Z Y W tg (.Call (.Name "range" p) [a, b] [] pos) (iRange2 f) := by
  obtain ⟨t, pa, s⟩ := ha
  refine ⟨_, fun i => pi_range2 (X := cx Z (Y i)) (hg i) hm (pa i) (hs i) (hs2 i), fun σ e w h H Q E L hp => s σ e w h H _ E L (Po.bind (Rp := Reps Z.K Z.mg) hp fun a h1 w1 H1 x _ st1 L1 r1 hp1 => ?_)⟩
  split at hp1
  · obtain ⟨hc, hp1⟩ := Po.ite hp1
    obtain ⟨y, z, rfl, r, r'⟩ := r1.two
    cases r; cases r'
    exact ⟨_, _, rfl, hc, hp1 w1 H1 _ (Step.refl _ _) L1 (itOk_range _ _)⟩
  · exact hp1.elim
/-! ### for -/
def forGo (g : SG) (f : SS) : List D → Pe → Ph → F
  | [], e, h => .nx e h
  | x :: r, e, h => match g x e h with
    | .ok e1 h1 => (f e1 h1).turn fun e2 h2 => forGo g f r e2 h2
    | _ => .bad
def sFor (it : SIt) (g : SG) (f : SS) : SS := fun e h => (it e h).toF e fun xs h1 => forGo g f xs e h1
theorem sn_for {K : PySem.W.Frag} {mg : Str → Option Value} {S : List Nat} {ti : L2.TI} {tg : TG} {tb : TS} {it : SIt} {g : SG} {f : SS} (si : SnI K mg W ti it) (sg : SnG K mg S tg g) (sf : SnS K mg W tb f) : SnS K mg W (tFor ti tg tb) (sFor it g f) := fun σ e w h H D E L hp => by
  refine si σ e w h H _ E L (Po.toF (Rp := fun w xs J => ItOk K mg w J xs) E hp fun xs h1 w1 H1 J _ st1 L1 ok hp1 => ?_)
  refine ⟨fun i m σ H => m = xs.length - i ∧ i ≤ xs.length ∧ ∃ e w h, Le w1 w ∧ En K mg w e σ ∧ Lk K mg w h H ∧ PoF K mg W w H (forGo g f (xs.drop i) e h) D, ⟨xs.length, rfl, Nat.zero_le _, e, w1, h1, Le.refl _, E.mono st1.le, L1, hp1⟩, ?_⟩
  rintro i m σ H ⟨rfl, hi, e, w, h, le, E, L, hp⟩
  by_cases hlt : i < xs.length
  · have hx : xs[i]? = some xs[i] := by simp [hlt]
    obtain ⟨go, yl⟩ := ok.go w h H i xs[i] le L hx
    refine .inr ⟨go, fun σ' H' => ∃ e w h, Le w1 w ∧ En K mg w e σ' ∧ Lk K mg w h H' ∧ PoF K mg W w H' (forGo g f (xs.drop (i + 1)) e h) D, fun σ' H' q => ⟨xs.length - (i + 1), by omega, rfl, hlt, q⟩, fun x H' y => ?_⟩
    obtain ⟨w2, st2, L2, r2⟩ := yl x H' y
    have ed : xs.drop i = xs[i] :: xs.drop (i + 1) := (List.drop_eq_getElem_cons hlt)
    rw [ed] at hp
    unfold forGo at hp
    refine sg σ e w2 h H' xs[i] x _ (E.mono st2.le) L2 r2 ?_
    cases q : g xs[i] e h with
    | ok e1 h3 =>
      rw [q] at hp
      intro w3 H3 σ3 st3 L3 E3 _
      exact sf σ3 e1 w3 h3 H3 _ E3 L3 (PoF.turn (PoF.step (st2.trans st3) hp) fun e4 h4 w4 H4 σ4 st4 L4 E4 hp4 => ⟨e4, w4, h4, ((le.trans st2.le).trans st3.le).trans st4.le, E4, L4, hp4⟩)
    | exc _ _ _ => rw [q] at hp; exact hp.elim
    | bad => rw [q] at hp; exact hp.elim
  · have e0 : xs.drop i = [] := List.drop_eq_nil_of_le (by omega)
    rw [e0] at hp
    exact .inl ⟨ok.stop w h H i le L (by omega), hp w H σ (Step.refl _ _) L E⟩
theorem si_for {S : List Nat} {tg iter : Expr} {body : List Stmt} {it : SIt} {g : SG} {f : SS} {pos : Pos} (hp : ∀ i, PassesOwn (model Z.P Z.w) (Y i).A (Y i).env (Y i).xe) (hc : ∀ i, (Y i).calm = true) (hi : II Z Y W tg iter it) (hg : GI Z Y S tg g) (hb : BI Z Y W body f)
    (hs : ∀ i x, foldedSetIterable iter (Y i).env x = pure x := by intro _ _; rfl) : SI Z Y W (.For tg iter body [] pos) (sFor it g f) := by
  obtain ⟨ti, pi, si⟩ := hi
  obtain ⟨tg', pg, sg⟩ := hg
  obtain ⟨tb, pb, sb⟩ := hb
  exact ⟨_, fun i => ps_for (X := cx Z (Y i)) (hp i) (hc i) (pi i) (pg i) (pb i) (hs i), sn_for si sg sb⟩
end
end Pd

namespace Pd
open PySem L2 Evl
open PyProof.Rows (envOfC)
/-! ### comprehensions -/
/-- the next, where no exception may come -/
def R.bd {α β : Type} (r : R α) (k : α → Ph → R β) : R β := match r with
  | .ok a h => k a h
  | _ => .bad
def compGo (g : SG) (tt : ST) (te : SE) : List D → Pe → Ph → R (List D)
  | [], _, h => .ok [] h
  | x :: r, e0, h => (g x e0 h).bd fun e1 h1 => (tt e1 h1).bd fun b h2 => br b ((te e1 h2).bd fun y h3 => (compGo g tt te r e0 h3).bd fun ys h4 => .ok (y :: ys) h4) (compGo g tt te r e0 h2)
def wipeD (e : Pe) : List Nat → Pe
  | [] => e
  | v :: vs => (wipeD e vs).set v none
/-- [te for g in it if tt] -/
def sLc (it : SIt) (g : SG) (tt : ST) (te : SE) (vs : List Nat) : SE := fun e h => (it e h).bind fun xs h1 => if xs.length ≤ mostL then (compGo g tt te xs (wipeD e vs) h1).bd fun ys h2 => .ok (.lst ys) h2 else .bad
abbrev WF : WX := fun _ _ _ _ => False
theorem En.wipe {K : PySem.W.Frag} {mg : Str → Option Value} {w : Wd} {e : Pe} {σ : St} (E : En K mg w e σ) : ∀ vs : List Nat, En K mg w (wipeD e vs) (L2.wipe σ vs)
  | [] => E
  | v :: vs => by
    unfold wipeD L2.wipe
    exact (En.wipe E vs).unset v none
theorem wipe_get {σ : St} {i : Nat} : ∀ {vs : List Nat}, (L2.wipe σ vs)[i]? = if i ∈ vs then (if i < σ.length then some none else none) else σ[i]?
  | [] => by simp [L2.wipe]
  | v :: vs => by
    unfold L2.wipe
    by_cases hi : v = i
    · subst hi
      rw [if_pos List.mem_cons_self]
      by_cases hv : v < σ.length
      · rw [if_pos hv, List.getElem?_set_self (by rw [wipe_length]; exact hv)]
      · rw [if_neg hv, List.getElem?_eq_none (by rw [List.length_set, wipe_length]; omega)]
    · rw [List.getElem?_set_ne hi, wipe_get]
      by_cases hm : i ∈ vs
      · rw [if_pos hm, if_pos (List.mem_cons_of_mem _ hm)]
      · rw [if_neg hm, if_neg (by simp only [List.mem_cons, not_or]; exact ⟨fun z => hi z.symm, hm⟩)]
theorem wipe_only {σ σ' : St} {S vs : List Nat} (o : Only S (L2.wipe σ vs) σ') (hS : ∀ i ∈ S, i ∈ vs) : L2.wipe σ' vs = L2.wipe σ vs := by
  apply List.ext_getElem?
  intro i
  rw [wipe_get, wipe_get, o.1, wipe_length]
  by_cases hm : i ∈ vs
  · rw [if_pos hm, if_pos hm]
  · rw [if_neg hm, if_neg hm, o.2 i (fun z => hm (hS i z)), wipe_get, if_neg hm]
section
variable {K : PySem.W.Frag} {mg : Str → Option Value} {w : Wd} {h : Ph} {H : Hp}
/-- an object that the world does not know changes -/
theorem Lk.aside (L : Lk K mg w h H) {p : Addr} (nm : p ∉ w.ms) (ng : w.G p = none) (o : HO) : Lk K mg w h (upd H p o) :=
  ⟨fun a u e => by rw [upd_ne (ne_of_none e ng)]; exact L.ex a u e, L.len, fun n a o' e1 e2 => by
    obtain ⟨u, hu, r⟩ := L.obj n a o' e1 e2
    exact ⟨u, by rw [upd_ne (fun z => nm (by rw [← z]; exact List.mem_of_getElem? e1))]; exact hu, r⟩, L.inj, L.out⟩
end
theorem Step.aside {w1 w : Wd} {H1 H : Hp} (st : Step w1 H1 w H) {p : Addr} (np : H1 p = none) (o : HO) : Step w1 H1 w (upd H p o) :=
  ⟨st.le, fun a u e m => by rw [upd_ne (ne_of_none e np)]; exact st.frm a u e m, st.newM, st.newG⟩
section
variable {K : PySem.W.Frag} {mg : Str → Option Value} {W : WX}
theorem sn_lc {S : List Nat} {ti : L2.TI} {tg : TG} {tt : TT} {te : TE} {vs : List Nat} {it : SIt} {g : SG} {ft : ST} {fe : SE} (si : SnI K mg W ti it) (sg : SnG K mg S tg g) (st : SnT K mg WF tt ft) (se : SnE K mg WF te fe) (hS : ∀ i ∈ S, i ∈ vs) :
    SnE K mg W (tLc ti tg tt te vs) (sLc it g ft fe vs) := fun σ e w h H Q E L hp => by
  refine si σ e w h H _ E L (Po.bind (Rp := fun w xs J => ItOk K mg w J xs) hp fun xs h1 w1 H1 J _ st1 L1 ok hp1 => ?_)
  obtain ⟨hlen, hp1⟩ := Po.ite hp1
  intro Dl hD
  have E0 : En K mg w1 (wipeD e vs) (L2.wipe σ vs) := (E.mono st1.le).wipe vs
  generalize hfull : ((compGo g ft fe xs (wipeD e vs) h1).bd fun ys h2 => R.ok (D.lst ys) h2) = full at hp1
  refine ⟨fun i m H => m = xs.length - i ∧ i ≤ xs.length ∧ ∃ acc us w h, Step w1 H1 w H ∧ Lk K mg w h H ∧ Dl ∉ w.ms ∧ w.G Dl = none ∧ H Dl = some (.lst us) ∧ Reps K mg w acc us ∧ acc.length ≤ i ∧
      ((compGo g ft fe (xs.drop i) (wipeD e vs) h).bd fun ys h2 => R.ok (D.lst (acc ++ ys)) h2) = full,
    ⟨xs.length, rfl, Nat.zero_le _, [], [], w1, h1, (Step.refl w1 H1).aside hD _, ?_⟩, ?_⟩
  · have nm : Dl ∉ w1.ms := fun z => by
      obtain ⟨u, hu⟩ := L1.mem z
      rw [hD] at hu; cases hu
    exact ⟨L1.aside nm (fresh_back L1.ex hD) _, nm, fresh_back L1.ex hD, upd_same, .nil, Nat.le_refl _, hfull⟩
  rintro i m H ⟨rfl, hi, acc, us, w, h, stp, L, nm, ng, hus, racc, hacc, hf⟩
  by_cases hlt : i < xs.length
  · have hx : xs[i]? = some xs[i] := by simp [hlt]
    obtain ⟨go, yl⟩ := ok.go w h H i xs[i] stp.le L hx
    refine .inr ⟨go, fun H' => ∃ acc us w h, Step w1 H1 w H' ∧ Lk K mg w h H' ∧ Dl ∉ w.ms ∧ w.G Dl = none ∧ H' Dl = some (.lst us) ∧ Reps K mg w acc us ∧ acc.length ≤ i + 1 ∧
      ((compGo g ft fe (xs.drop (i + 1)) (wipeD e vs) h).bd fun ys h2 => R.ok (D.lst (acc ++ ys)) h2) = full, fun H' q => ⟨xs.length - (i + 1), by omega, rfl, hlt, q⟩, fun x H' y => ?_⟩
    -- what stays of the new list through a step
    have keep : ∀ {wa wb : Wd} {Ha Hb : Hp} {us : List V}, Step wa Ha wb Hb → Dl ∉ wa.ms → wa.G Dl = none → Ha Dl = some (.lst us) → Dl ∉ wb.ms ∧ wb.G Dl = none ∧ Hb Dl = some (.lst us) := fun {wa wb Ha Hb us} s k1 k2 k3 =>
      ⟨fun z => (s.newM Dl z).elim k1 fun q => (by rw [k3] at q; cases q), by rw [s.newG Dl (by rw [k3]; simp) k1]; exact k2, s.frm Dl _ k3 k1⟩
    obtain ⟨w2, st2, L2', r2⟩ := yl x H' y
    obtain ⟨a1, a2, a3⟩ := keep st2 nm ng hus
    have ed : xs.drop i = xs[i] :: xs.drop (i + 1) := List.drop_eq_getElem_cons hlt
    rw [ed] at hf
    unfold compGo at hf
    refine sg (L2.wipe σ vs) (wipeD e vs) w2 h H' xs[i] x _ (E0.mono (stp.le.trans st2.le)) L2' r2 ?_
    have nofull : full ≠ .bad := fun z => by rw [z] at hp1; exact hp1
    cases q : g xs[i] (wipeD e vs) h with
    | ok e1 h3 =>
      rw [q] at hf
      intro w3 H3 σ3 st3 L3 E3 o3
      obtain ⟨b1, b2, b3⟩ := keep st3 a1 a2 a3
      refine ⟨wipe_only o3 hS, st σ3 e1 w3 h3 H3 _ E3 L3 ?_⟩
      have hf : (((ft e1 h3).bd fun b h2 => br b ((fe e1 h2).bd fun y h3 => (compGo g ft fe (xs.drop (i + 1)) (wipeD e vs) h3).bd fun ys h4 => .ok (y :: ys) h4) (compGo g ft fe (xs.drop (i + 1)) (wipeD e vs) h2)).bd fun ys h2 => R.ok (D.lst (acc ++ ys)) h2) = full := hf
      cases q2 : ft e1 h3 with
      | ok b h4 =>
        rw [q2] at hf
        intro w4 H4 b' st4 L4 rb
        cases rb
        obtain ⟨c1, c2, c3⟩ := keep st4 b1 b2 b3
        cases b with
        | false =>
          rw [if_neg Bool.false_ne_true]
          exact ⟨acc, us, w4, h4, ((stp.trans st2).trans st3).trans st4, L4, c1, c2, c3, racc.mono ((st2.le.trans st3.le).trans st4.le), by omega, hf⟩
        | true =>
          rw [if_pos rfl]
          have hf : (((fe e1 h4).bd fun y h3 => (compGo g ft fe (xs.drop (i + 1)) (wipeD e vs) h3).bd fun ys h4 => .ok (y :: ys) h4).bd fun ys h2 => R.ok (D.lst (acc ++ ys)) h2) = full := hf
          refine se σ3 e1 w4 h4 H4 _ (E3.mono st4.le) L4 ?_
          cases q3 : fe e1 h4 with
          | ok y h5 =>
            rw [q3] at hf
            intro w5 H5 yv st5 L5 ry
            obtain ⟨d1, d2, d3⟩ := keep st5 c1 c2 c3
            have racc5 := racc.mono (((st2.le.trans st3.le).trans st4.le).trans st5.le)
            refine ⟨us, d3, ?_, acc ++ [y], us ++ [yv], w5, h5, ((((stp.trans st2).trans st3).trans st4).trans st5).aside hD _, L5.aside d1 d2 _, d1, d2, upd_same, racc5.append (.cons ry .nil), by rw [List.length_append, List.length_singleton]; omega, ?_⟩
            · rw [← racc.length]
              have := mostL_eq
              omega
            · rw [← hf]
              show _ = (((compGo g ft fe (xs.drop (i + 1)) (wipeD e vs) h5).bd fun ys h4 => R.ok (y :: ys) h4).bd fun ys h2 => R.ok (D.lst (acc ++ ys)) h2)
              cases compGo g ft fe (xs.drop (i + 1)) (wipeD e vs) h5 with
              | ok ys h6 =>
                show R.ok (D.lst (acc ++ [y] ++ ys)) h6 = R.ok (D.lst (acc ++ y :: ys)) h6
                rw [List.append_assoc]
                rfl
              | exc _ _ _ => rfl
              | bad => rfl
          | exc _ _ _ => rw [q3] at hf; exact absurd hf.symm nofull
          | bad => rw [q3] at hf; exact absurd hf.symm nofull
      | exc _ _ _ => rw [q2] at hf; exact absurd hf.symm nofull
      | bad => rw [q2] at hf; exact absurd hf.symm nofull
    | exc _ _ _ => rw [q] at hf; exact absurd hf.symm nofull
    | bad => rw [q] at hf; exact absurd hf.symm nofull
  · have e0 : xs.drop i = [] := List.drop_eq_nil_of_le (by omega)
    rw [e0] at hf
    have hf : R.ok (D.lst (acc ++ [])) h = full := hf
    rw [List.append_nil] at hf
    rw [← hf] at hp1
    refine .inl ⟨ok.stop w h H i stp.le L (by omega), ?_⟩
    have lew : Le w ⟨w.ms, upd w.G Dl (.lst us)⟩ := ⟨⟨[], by simp⟩, Ex.new ng⟩
    refine hp1 ⟨w.ms, upd w.G Dl (.lst us)⟩ H _ ⟨stp.le.trans lew, stp.frm, stp.newM, fun a ha hm => ?_⟩ ⟨fun a u q => ?_, L.len, fun n a o q1 q2 => ?_, L.inj, fun n a o q q2 q3 => ?_⟩ (.lst upd_same (racc.mono lew))
    · show upd w.G Dl (.lst us) a = w1.G a
      rw [upd_ne (fun z => ha (by rw [z]; exact hD))]
      exact stp.newG a ha hm
    · by_cases z : a = Dl
      · subst z
        rw [show (⟨w.ms, upd w.G a (.lst us)⟩ : Wd).G a = some (.lst us) from upd_same] at q
        rw [hus]; exact q
      · rw [show (⟨w.ms, upd w.G Dl (.lst us)⟩ : Wd).G a = w.G a from upd_ne z] at q
        exact L.ex a u q
    · obtain ⟨u, hu, r⟩ := L.obj n a o q1 q2
      exact ⟨u, hu, r.mono lew⟩
    · show upd w.G Dl (.lst us) a = none
      rw [upd_ne (fun z => nm (by rw [← z]; exact List.mem_of_getElem? q))]
      exact L.out n a o q q2 q3
end
section
variable {ι : Type} {Z : Cz} {Y : ι → Cy} {W : WX}
/-- the contexts of a comprehension's block -/
abbrev BlkI (ι : Type) : Type := ι × (Shared × Hp × Addr × List (Str × Addr) × List Addr)
abbrev blkY (Z : Cz) (Y : ι → Cy) (scope : Scope) : BlkI ι → Cy := fun p => { A := (Y p.1).A, s_0 := p.2.1, H_0 := p.2.2.1, env := compEnvC scope p.2.2.2.2.1 p.2.2.2.1 (Y p.1).env, outer := (Y p.1).stack, stack := (Y p.1).stack, ex := p.2.2.2.2.2, fn := fun x => scope.names.lookup x == some .cell, calm := (Y p.1).calm, pn := [], xe := fun _ _ => False }
def TsI (Z : Cz) (Y : ι → Cy) (W : WX) (es : List Expr) (f : ST) : Prop := ∃ t, (∀ i, PTs (cx Z (Y i)) es t) ∧ SnT Z.K Z.mg W t f
def qYes : ST := fun _ h => .ok true h
theorem tsi_nil : TsI Z Y W [] qYes := ⟨_, fun _ => pts_nil, fun σ e w h H Q E L hp => Po.here L rfl hp⟩
theorem tsi_one {c : Expr} {f : ST} (h : TI Z Y W c f) : TsI Z Y W [c] f := by
  obtain ⟨t, p, s⟩ := h
  exact ⟨_, fun i => pts_one (p i), s⟩
theorem ei_lc {S : List Nat} {elt tg iter : Expr} {ifs : List Expr} {scope : Scope} {own : List (Str × Nat)} {pos : Pos} {it : SIt} {g : SG} {ft : ST} {fe : SE} (hc : ∀ i, (Y i).calm = true) (hN : Z.N.Nodup) (hi : II Z Y W tg iter it) (ok : ∀ i, blkC Z.N (Y i).env.scope scope own = true)
    (hg : GI Z (blkY Z Y scope) S tg g) (ht : TsI Z (blkY Z Y scope) WF ifs ft) (he : EI Z (blkY Z Y scope) WF elt fe) (hS : ∀ i ∈ S, i ∈ own.map (·.2)) (hs : ∀ i x, foldedSetIterable iter (Y i).env x = pure x := by intro _ _; rfl) :
    EI Z Y W (.ListComp elt [⟨tg, iter, ifs, 0⟩] scope pos) (sLc it g ft fe (own.map (·.2))) := by
  obtain ⟨ti, pi, si⟩ := hi
  obtain ⟨tg', pg, sg⟩ := hg
  obtain ⟨tt, pt, st⟩ := ht
  obtain ⟨te, pe, se⟩ := he
  exact ⟨_, fun i => pe_lc (X := cx Z (Y i)) (hc i) hN (pi i) (blkOk_by (ok i)) (fun s H C cl fp => pg (i, s, H, C, cl, fp)) (fun s H C cl fp => pt (i, s, H, C, cl, fp)) (fun s H C cl fp => pe (i, s, H, C, cl, fp)) (hs i), sn_lc si sg st se hS⟩
/-- y = [..] -/
theorem si_setLc (j : Nat) {y : Str} {py spos : Pos} {S : List Nat} {elt tg iter : Expr} {ifs : List Expr} {scope : Scope} {own : List (Str × Nat)} {pos : Pos} {it : SIt} {g : SG} {ft : ST} {fe : SE} (hc : ∀ i, (Y i).calm = true) (hN : Z.N.Nodup) (hy : Z.N[j]? = some y) (hyl : ∀ i, (Y i).env.scope.names.lookup y = some .local)
    (hk : ∀ i, (Y i).env.scope.kind = .function) (hl : (py.line == pos.line) = true) (hns : (scope.names.any fun (n, k) => n == y && (k == .local || k == .cell)) = false)
    (hi : II Z Y W tg iter it) (ok : ∀ i, blkC Z.N (Y i).env.scope scope own = true)
    (hg : GI Z (blkY Z Y scope) S tg g) (ht : TsI Z (blkY Z Y scope) WF ifs ft) (he : EI Z (blkY Z Y scope) WF elt fe) (hS : ∀ i ∈ S, i ∈ own.map (·.2)) (hs : ∀ i x, foldedSetIterable iter (Y i).env x = pure x := by intro _ _; rfl) :
    SI Z Y W (.Assign [.Name y py] (.ListComp elt [⟨tg, iter, ifs, 0⟩] scope pos) spos) (sAsg (sLc it g ft fe (own.map (·.2))) (gNm j)) := by
  obtain ⟨ti, pi, si⟩ := hi
  obtain ⟨tg', pg, sg⟩ := hg
  obtain ⟨tt, pt, st⟩ := ht
  obtain ⟨te, pe, se⟩ := he
  exact ⟨_, fun i => ps_setLc (X := cx Z (Y i)) (hc i) hN hy (hyl i) (sw_true (hk i) (hyl i) hl hns) (pi i) (blkOk_by (ok i)) (fun s H C cl fp => pg (i, s, H, C, cl, fp)) (fun s H C cl fp => pt (i, s, H, C, cl, fp)) (fun s H C cl fp => pe (i, s, H, C, cl, fp)) (hs i), sn_asg (sn_lc si sg st se hS) (sn_name j)⟩
end
/-! ### defs -/
abbrev Fn := List D → Ph → R D
def F.end (r : F) : R D := match r with
  | .nx _ h => .ok .non h
  | .ret d h => .ok d h
  | .exc c fs _ h => .exc c fs h
  | _ => .bad
/-- a def of n names, called -/
def runDef (n : Nat) (body : SS) : Fn := fun as h => (body (as.map some ++ List.replicate (n - as.length) none) h).end
section
variable (K : PySem.W.Frag) (mg : Str → Option Value)
def PoC (Q : VK) (E : XK) (w : Wd) (H : Hp) (r : R D) : Prop := match r with
  | .ok d h' => ∀ w' H' v, Step w H w' H' → Lk K mg w' h' H' → Rep K mg w' d v → Q v H'
  | .exc c fs h' => ∀ w' H' C d, Step w H w' H' → Lk K mg w' h' H' → RepX K mg w' c fs C d → E C d H'
  | .bad => False
/-- the promise: it does what fn says -/
def spI (n : Nat) (fn : Fn) : Sp := fun vs H Q E => ∃ w h as, vs.length = n ∧ Lk K mg w h H ∧ Reps K mg w as vs ∧ PoC K mg Q E w H (fn as h)
end
/-- a text behind its top -/
structure Cb where
  P : Program
  w : World
  K : PySem.W.Frag
  mg : Str → Option Value
  base : Heap
abbrev Cb.z (B : Cb) (N : List Str) : Cz := ⟨B.P, B.w, B.K, B.mg, B.base, N⟩
/-- a def of the text, by what it does; k: how deep it calls -/
structure Def (B : Cb) (k : Nat) (x : Str) (n : Nat) (fn : Fn) : Prop where
  ex : ∃ (a : Addr) (fd : FuncData) (ps : List Str), FnOk B.P B.w B.K B.mg B.base (L2.CX B.P B.w) k a fd ps (spI B.K B.mg n fn) ∧ B.mg x = some (.ref a) ∧ PySem.W.keepIn B.K (.ref a) = true ∧ Binds B.K fd ps []
section
variable {ι : Type} {B : Cb} {N : List Str} {Y : ι → Cy} {W : WX}
def sFn (fn : Fn) (f : SA) : SE := fun e h => (f e h).bind fun as h1 => fn as h1
theorem ei_call {k n : Nat} {x : Str} {fn : Fn} {a : Expr} {es : List Expr} {f : SA} {p pos : Pos} (d : Def B k x n fn) (hr : ∀ i, Room k (Y i).A) (tk : ∀ i, Takes (cx (B.z N) (Y i)) W) (hg : GlF Y x) (hn : (a :: es).length = n) (ha : AI (B.z N) Y W (a :: es) f)
    (hlen : ∀ e h as h1, f e h = .ok as h1 → as.length = n)
    (hdb : (x == ("__debug__" : Str)) = false := by decide) (he : ∀ i, starEach (a :: es) (Y i).env = (false, eval a (Y i).env) :: starEach es (Y i).env := by intro _; rfl) (hpl : ∀ i, (backTo pos (starEach es (Y i).env)).any (·.1) = false := by intro _; rfl) :
    EI (B.z N) Y W (.Call (.Name x p) (a :: es) [] pos) (sFn fn f) := by
  obtain ⟨ad, fd, ps, F, hm, hk, hb⟩ := d.ex
  obtain ⟨t, pa, s⟩ := ha
  refine ⟨_, fun i => pe_callS (X := cx (B.z N) (Y i)) F (hr i) (hg i) hm hk hb (fun σ => passAt (tk i) σ) (pa i) hdb (he i) (hpl i), fun σ e w h H Q E L hp => s σ e w h H _ E L (Po.bind (Rp := Reps B.K B.mg) hp fun as h1 w1 H1 vs q st1 L1 r1 hp1 => ?_)⟩
  refine ⟨w1, h1, as, by rw [← r1.length]; exact hlen _ _ _ _ q, L1, r1, ?_⟩
  cases q2 : fn as h1 with
  | ok d h2 => rw [q2] at hp1; exact hp1
  | exc c fs h2 => rw [q2] at hp1; exact hp1
  | bad => rw [q2] at hp1; exact hp1
/-- how many arguments there are -/
theorem len_nil {e : Pe} {h : Ph} {as : List D} {h1 : Ph} (q : sNil e h = .ok as h1) : as.length = 0 := by
  cases q; rfl
theorem len_cons {n : Nat} {f : SE} {g : SA} (hg : ∀ e h as h1, g e h = .ok as h1 → as.length = n) : ∀ e h as h1, sCons f g e h = .ok as h1 → as.length = n + 1 := fun e h as h1 q => by
  unfold sCons at q
  cases z : f e h with
  | ok a h2 =>
    rw [z] at q
    have q : ((g e h2).bind fun r h2 => R.ok (a :: r) h2) = R.ok as h1 := q
    cases z2 : g e h2 with
    | ok r h3 =>
      rw [z2] at q
      cases q
      rw [List.length_cons, hg _ _ _ _ z2]
    | exc _ _ _ => rw [z2] at q; cases q
    | bad => rw [z2] at q; cases q
  | exc _ _ _ => rw [z] at q; cases q
  | bad => rw [z] at q; cases q
end
/-- the context of a def's body -/
abbrev cyOf (Z : Cz) (qual : Str) (scope : Scope) (f : Addr) (cd : Value) (A : Around) (outer : List Env) (s : Shared) (H : Hp) (E : XK) : Cy where
  A := A.deeper (envOfC qual scope s.heap.objs.size f cd)
  s_0 := s
  H_0 := H
  env := envOfC qual scope s.heap.objs.size f cd
  outer := outer
  stack := envOfC qual scope s.heap.objs.size f cd :: outer
  ex := []
  fn := (cxOf (L2.CX Z.P Z.w) Z.P Z.w Z.K Z.mg Z.base Z.N qual scope f cd A outer s H E).fn
  calm := true
  pn := []
  xe := (cxOf (L2.CX Z.P Z.w) Z.P Z.w Z.K Z.mg Z.base Z.N qual scope f cd A outer s H E).xe
abbrev WE' (E : XK) : WX := fun cls d _ H => E cls d H
theorem cy_takes {Z : Cz} {qual : Str} {scope : Scope} {f : Addr} {cd : Value} {A : Around} {outer : List Env} {s : Shared} {H : Hp} {E : XK} : Takes (cx Z (cyOf Z qual scope f cd A outer s H E)) (WE' E) := takes_of rfl rfl rfl rfl
theorem cy_passes {Z : Cz} {qual : Str} {scope : Scope} {f : Addr} {cd : Value} {A : Around} {outer : List Env} {s : Shared} {H : Hp} {E : XK} : PassesOwn (model Z.P Z.w) (cyOf Z qual scope f cd A outer s H E).A (cyOf Z qual scope f cd A outer s H E).env (cyOf Z qual scope f cd A outer s H E).xe := passes_of (X := cx Z (cyOf Z qual scope f cd A outer s H E)) rfl
theorem start_en {K : PySem.W.Frag} {mg : Str → Option Value} {w : Wd} {N : List Str} {as : List D} {vs : List V} (r : Reps K mg w as vs) : En K mg w (as.map some ++ List.replicate (N.length - as.length) none) (L2.start N vs) := by
  unfold L2.start
  refine ⟨?_, fun i d h => ?_⟩
  · simp [r.length]
  · by_cases hi : i < as.length
    · rw [List.getElem?_append_left (by simpa using hi)] at h
      rw [List.getElem?_map] at h
      cases q : as[i]? with
      | none => rw [q] at h; cases h
      | some x =>
        rw [q] at h
        cases h
        obtain ⟨y, h1, h2⟩ := r.get q
        have hv : i < vs.length := (List.getElem?_eq_some_iff.mp h1).1
        exact ⟨y, by rw [List.getElem?_append_left (by simpa using hv), List.getElem?_map, h1]; rfl, h2⟩
    · rw [List.getElem?_append_right (by simpa using hi), List.getElem?_replicate] at h
      split at h
      · cases h
      · cases h
/-- THE RULE for a def -/
theorem def_ok {B : Cb} {N : List Str} {x qual : Str} {params : Arguments} {sbody : List Stmt} {scope : Scope} {a : Addr} {fd : FuncData} {ps : List Str} {k : Nat} {body : SS} (F : FunD B.K x qual params sbody scope [] [] a fd) (S : FnScope N ps scope)
    (hb : ∀ (cdv : Value) (A : Around) (outer : List Env) (s : Shared) (H : Hp) (E : XK), Room k (A.deeper (envOfC qual scope s.heap.objs.size a cdv)) → BI (B.z N) (fun _ : Unit => cyOf (B.z N) qual scope a cdv A outer s H E) (WE' E) sbody body) :
    FnOk B.P B.w B.K B.mg B.base (L2.CX B.P B.w) (k + 1) a fd ps (spI B.K B.mg ps.length (runDef N.length body)) := by
  refine F.ok S (fun vs H Q E h => ?_) (fun cdv A outer s H vs Q E hr h => ?_)
  · obtain ⟨_, _, _, e, _⟩ := h
    exact e
  · obtain ⟨w, h, as, el, L, r, hp⟩ := h
    obtain ⟨t, p, sn⟩ := hb cdv A outer s H E hr
    refine ⟨t, p (), sn _ (as.map some ++ List.replicate (N.length - as.length) none) w h H _ (start_en r) L ?_⟩
    unfold runDef at hp
    cases q : body (as.map some ++ List.replicate (N.length - as.length) none) h with
    | nx e' h' => rw [q] at hp; exact fun w' H' σ' st L' E' => hp w' H' .non st L' .non
    | ret d h' => rw [q] at hp; exact hp
    | brk e' h' => rw [q] at hp; exact hp.elim
    | cnt e' h' => rw [q] at hp; exact hp.elim
    | exc c fs e' h' => rw [q] at hp; exact fun w' H' σ' C d st L' E' rx => hp w' H' C d st L' rx
    | bad => rw [q] at hp; exact hp.elim
/-- .. of a global name -/
theorem Def.mk' {B : Cb} {N : List Str} {y x qual : Str} {params : Arguments} {sbody : List Stmt} {scope : Scope} {a : Addr} {fd : FuncData} {ps : List Str} {k : Nat} {body : SS} (F : FunD B.K x qual params sbody scope [] [] a fd) (hm : B.mg y = some (.ref a)) (S : FnScope N ps scope)
    (hbi : ∀ (kV doc pm : Value) (an : Option Addr) (cdv ct : Value) (us : List Value), us.length = ps.length → bindArgs (PySem.W.fnOf x qual params sbody scope .none kV doc pm an cdv ct) ⟨us, []⟩ = pure (ps.zip us))
    (hb : ∀ (cdv : Value) (A : Around) (outer : List Env) (s : Shared) (H : Hp) (E : XK), Room k (A.deeper (envOfC qual scope s.heap.objs.size a cdv)) → BI (B.z N) (fun _ : Unit => cyOf (B.z N) qual scope a cdv A outer s H E) (WE' E) sbody body) :
    Def B (k + 1) y ps.length (runDef N.length body) := ⟨a, fd, ps, def_ok F S hb, hm, F.kp, F.bindsN hbi⟩
theorem Def.lift {B : Cb} {j k : Nat} {x : Str} {n : Nat} {fn : Fn} (d : Def B j x n fn) (h : j ≤ k) : Def B k x n fn := by
  obtain ⟨a, fd, ps, F, hm, hk, hb⟩ := d.ex
  exact ⟨a, fd, ps, F.mono h, hm, hk, hb⟩
/-- the law's own promise -/
theorem law_sp {K : PySem.W.Frag} {mg : Str → Option Value} {fn : Fn} {H : Hp} {a : Addr} {ns : List Int} (hS : SqL K H a (ns.map V.int)) (ok : ∃ h', fn [.seq (ns.map D.int)] [] = .ok (.bl true) h') :
    spI K mg 1 fn [.ref a] H (fun v _ => v = .bl true) fun _ _ _ => False := by
  obtain ⟨h', e⟩ := ok
  have hr : ∀ w : Wd, ∀ ns : List Int, Reps K mg w (ns.map D.int) (ns.map V.int) := fun w ns => by
    induction ns with
    | nil => exact .nil
    | cons n ns ih => exact .cons (.int n) ih
  refine ⟨⟨[], H⟩, [], [.seq (ns.map D.int)], rfl, ⟨Ex.refl _, rfl, fun n a o e => ?_, fun i j a e => ?_, fun n a o e => ?_⟩, .cons (.seq hS (hr _ ns)) .nil, ?_⟩
  · simp at e
  · simp at e
  · simp at e
  · rw [e]
    intro w' H' v st L r
    cases r
    rfl
end Pd

namespace Pd
open PySem L2 Evl
section
variable {ι : Type} {Z : Cz} {Y : ι → Cy} {W : WX}
/-! ### a list or a tuple, walked -/
def iSq (K : PySem.W.Frag) (tl : TE) : L2.TI := fun σ H R => tl σ H fun x H1 => ∃ a, x = .ref a ∧ (((∃ xs, SqL K H1 a xs) ∧ R (Itl K a) H1) ∨ ((∃ xs, SqT K H1 a xs) ∧ R (Itt K a) H1))
theorem pi_sq {X : Cx} {tg l : Expr} {tl : TE} (hl : PE X l tl) : PI X tg l (iSq X.K tl) := by
  refine ⟨fun pins s σ H R I h => ?_⟩
  refine thn (hl.run pins s σ H _ I h) fun v s1 ⟨x, H1, I1, r1, q1⟩ => ?_
  obtain ⟨a, e, q1⟩ := q1
  subst e
  cases r1
  rcases q1 with ⟨⟨xs, hq⟩, q⟩ | ⟨⟨xs, hq⟩, q⟩
  · obtain ⟨its, rv, p, hz⟩ := I1.list hq
    refine wpAny_pyIter_list p.isList ?_
    refine ⟨s1.heap.objs.size, [s1.heap.objs.size], _, _, H1, rfl, I1.kept (t' := s1.toks) fun b o e => Heap.get?_push_of_some _ e, turn_list a _, ⟨_, Heap.get?_push_size _ rfl, rfl, rfl⟩, fun b hb => ?_, q⟩
    have e : b = s1.heap.objs.size := by simpa using hb
    subst e
    exact I1.fpOk (Nat.le_refl _) (I1.hok.fresh (Nat.le_refl _))
  · obtain ⟨its, rv, p, hz⟩ := I1.tuple hq
    refine wpAny_pyIter_tuple (show s1.heap.IsTuple a its.toArray from p) ?_
    refine ⟨s1.heap.objs.size, [s1.heap.objs.size], _, _, H1, rfl, I1.kept (t' := s1.toks) fun b o e => Heap.get?_push_of_some _ e, turn_tuple a _, ⟨_, Heap.get?_push_size _ rfl, rfl, rfl⟩, fun b hb => ?_, q⟩
    have e : b = s1.heap.objs.size := by simpa using hb
    subst e
    exact I1.fpOk (Nat.le_refl _) (I1.hok.fresh (Nat.le_refl _))
/-- the items of what changes no more -/
def iSeq (f : SE) : SIt := fun e h => (f e h).bind fun a h1 => match a with
  | .lst xs => .ok xs h1
  | .seq xs => .ok xs h1
  | .tup xs => .ok xs h1
  | _ => .bad
theorem ii_seq {tg l : Expr} {f : SE} (hf : EI Z Y W l f) : II Z Y W tg l (iSeq f) := by
  obtain ⟨t, p, s⟩ := hf
  refine ⟨iSq Z.K t, fun i => pi_sq (X := cx Z (Y i)) (p i), fun σ e w h H Q E L hp => s σ e w h H _ E L (Po.bind (Rp := Rep Z.K Z.mg) hp fun a h1 w1 H1 x _ st1 L1 r1 hp1 => ?_)⟩
  have key : ∀ (a1 : Addr) (xs : List D) (vs : List V), SqL Z.K w1.G a1 vs → Reps Z.K Z.mg w1 xs vs → PoI Z.K Z.mg W σ w1 H1 (.ok xs h1) Q → ∃ a, (V.ref a1) = V.ref a ∧ (((∃ xs, SqL Z.K H1 a xs) ∧ Q (Itl Z.K a) H1) ∨ ((∃ xs, SqT Z.K H1 a xs) ∧ Q (Itt Z.K a) H1)) := fun a1 xs vs q r hq =>
    ⟨a1, rfl, .inl ⟨⟨vs, ex_l L1.ex q⟩, hq w1 H1 _ (Step.refl _ _) L1 ⟨fun w' h' H' i d le L e => by
      obtain ⟨v, hv, rv⟩ := r.get e
      have s := ex_l L.ex (ex_l le.ex q)
      refine ⟨⟨vs, v, s, hv⟩, fun x H'' y => ?_⟩
      obtain ⟨rfl, y⟩ := y
      have z := y vs s
      rw [hv] at z
      cases z
      exact ⟨w', Step.refl _ _, L, rv.mono le⟩, fun w' h' H' i le L hl => ⟨vs, ex_l L.ex (ex_l le.ex q), by rw [← r.length]; exact hl⟩⟩⟩⟩
  cases r1 with
  | lst q r => exact key _ _ _ (.inl (.inl q)) r hp1
  | seq q r => exact key _ _ _ q r hp1
  | @tup a1 vs xs q r =>
    exact ⟨_, rfl, .inr ⟨⟨_, SqT.ex L1 q⟩, hp1 w1 H1 _ (Step.refl _ _) L1 ⟨fun w' h' H' i d le L e => by
      obtain ⟨v, hv, rv⟩ := r.get e
      have s := ex_t L.ex (ex_t le.ex q)
      refine ⟨⟨vs, v, s, hv⟩, fun x H'' y => ?_⟩
      obtain ⟨rfl, y⟩ := y
      have z := y vs s
      rw [hv] at z
      cases z
      exact ⟨w', Step.refl _ _, L, rv.mono le⟩, fun w' h' H' i le L hl => ⟨vs, ex_t L.ex (ex_t le.ex q), by rw [← r.length]; exact hl⟩⟩⟩⟩
  | _ => exact hp1.elim
/-! ### what changes no more -/
/-- the list that stands at d, from here on as it is -/
def frzD (d : D) (h : Ph) : D × Ph := match d with
  | .ref n => match h[n]? with
    | some (.lst xs) => (.lst xs, h.set n .dead)
    | _ => (.ref n, h)
  | d => (d, h)
theorem frzD_ok {K : PySem.W.Frag} {mg : Str → Option Value} {w : Wd} {h : Ph} {H : Hp} {d : D} {v : V} (L : Lk K mg w h H) (r : Rep K mg w d v) : ∃ w', Step w H w' H ∧ Lk K mg w' (frzD d h).2 H ∧ Rep K mg w' (frzD d h).1 v := by
  cases r with
  | @ref n a q =>
    obtain ⟨o, u, h1, h2, r'⟩ := L.there q
    unfold frzD
    simp only [h1]
    cases r' with
    | lst r' =>
      obtain ⟨l1, l2, l3⟩ := L.frz q h1 (by intro z; cases z) h2
      exact ⟨_, l2, l1, .lst upd_same (r'.mono l3)⟩
    | _ => exact ⟨w, Step.refl _ _, L, .ref q⟩
  | non => exact ⟨w, Step.refl _ _, L, .non⟩
  | bl b => exact ⟨w, Step.refl _ _, L, .bl b⟩
  | int b => exact ⟨w, Step.refl _ _, L, .int b⟩
  | str b => exact ⟨w, Step.refl _ _, L, .str b⟩
  | tup q r => exact ⟨w, Step.refl _ _, L, .tup q r⟩
  | lst q r => exact ⟨w, Step.refl _ _, L, .lst q r⟩
  | seq q r => exact ⟨w, Step.refl _ _, L, .seq q r⟩
  | glo q => exact ⟨w, Step.refl _ _, L, .glo q⟩
  | ty n => exact ⟨w, Step.refl _ _, L, .ty n⟩
def sFrz (f : SE) : SE := fun e h => (f e h).bind fun d h1 => .ok (frzD d h1).1 (frzD d h1).2
theorem ei_frz {e : Expr} {f : SE} (hf : EI Z Y W e f) : EI Z Y W e (sFrz f) := by
  obtain ⟨t, p, s⟩ := hf
  refine ⟨t, p, fun σ e w h H Q E L hp => s σ e w h H _ E L (Po.bind (Rp := Rep Z.K Z.mg) hp fun a h1 w1 H1 x _ st1 L1 r1 hp1 => ?_)⟩
  obtain ⟨w2, st2, L2', r2⟩ := frzD_ok L1 r1
  exact hp1 w2 H1 x st2 L2' r2
/-- a name's list, from here on as it is -/
def sFrzV (i : Nat) (f : SS) : SS := fun e h => match e[i]? with
  | some (some d) => f (e.set i (some (frzD d h).1)) (frzD d h).2
  | _ => f e h
theorem set_same {σ : St} {i : Nat} {v : V} (h : σ[i]? = some (some v)) : σ.set i (some v) = σ := by
  apply List.ext_getElem?
  intro j
  by_cases z : i = j
  · subst z
    rw [List.getElem?_set_self (List.getElem?_eq_some_iff.mp h).1, h]
  · rw [List.getElem?_set_ne z]
theorem bi_frz (i : Nat) {st : List Stmt} {f : SS} (hf : BI Z Y W st f) : BI Z Y W st (sFrzV i f) := by
  obtain ⟨t, p, s⟩ := hf
  refine ⟨t, p, fun σ e w h H D E L hp => ?_⟩
  unfold sFrzV at hp
  split at hp
  · rename_i d he
    obtain ⟨v, h1, r1⟩ := E.get i d he
    obtain ⟨w2, st2, L2', r2⟩ := frzD_ok L r1
    refine s σ _ w2 _ H D ?_ L2' (PoF.step st2 hp)
    have E2 := (E.mono st2.le).set r2 i
    rw [set_same h1] at E2
    exact E2
  · exact s σ e w h H D E L hp
/-! ### {}; append; o[i] = x -/
def sDict0 : SE := fun _ h => .ok (.ref h.length) (h ++ [.dK []])
def sDict0T : SE := fun _ h => .ok (.ref h.length) (h ++ [.dT []])
theorem ei_dict0 {pos : Pos} : EI Z Y W (.Dict [] [] pos) sDict0 := ⟨_, fun _ => pe_dnewK, fun σ e w h H Q E L hp p np => po_newO L np (.dK .nil) hp⟩
theorem ei_dict0T {pos : Pos} : EI Z Y W (.Dict [] [] pos) sDict0T := ⟨_, fun _ => pe_dnewT, fun σ e w h H Q E L hp p np => po_newO L np (.dT .nil) hp⟩
/-- a method of a list that may change: what it makes of the items and the argument -/
def onLst (d : D) (h : Ph) (k : Nat → List D → R D) : R D := match d with
  | .ref n => match h[n]? with
    | some (.lst xs) => k n xs
    | _ => .bad
  | _ => .bad
def sMeth1 (g : D → D → Ph → R D) (fo : SE) (fa : SE) : SE := fun e h => (fo e h).bind fun o h1 => R.opt (lsOf o h1) fun _ => (fa e h1).bind fun a h2 => g o a h2
def dAppend (o a : D) (h : Ph) : R D := onLst o h fun n xs => if xs.length < mostL then .ok .non (h.set n (.lst (xs ++ [a]))) else .bad
theorem onLst_ok {K : PySem.W.Frag} {mg : Str → Option Value} {w : Wd} {H : Hp} {h : Ph} {σ : St} (L : Lk K mg w h H) {d : D} {v : V} {k : Nat → List D → R D} {Q : VK} (r : Rep K mg w d v) (hp : PoE K mg W σ w H (onLst d h k) Q) :
    ∃ n a xs vs, d = .ref n ∧ v = .ref a ∧ w.ms[n]? = some a ∧ h[n]? = some (.lst xs) ∧ H a = some (.lst vs) ∧ Reps K mg w xs vs ∧ PoE K mg W σ w H (k n xs) Q := by
  unfold onLst at hp
  cases r with
  | @ref n a q =>
    obtain ⟨o, u, h1, h2, r'⟩ := L.there q
    simp only [h1] at hp
    cases r' with
    | @lst xs vs r' => exact ⟨n, a, xs, vs, rfl, rfl, q, h1, h2, r', hp⟩
    | _ => exact hp.elim
  | _ => exact hp.elim
/-- a list's object is changed, None is handed back -/
theorem po_put {K : PySem.W.Frag} {mg : Str → Option Value} {w : Wd} {H : Hp} {h : Ph} {σ : St} (L : Lk K mg w h H) {n : Nat} {a : Addr} {xs ys : List D} {us : List V} {d : D} {v : V} {Q : VK} (q : w.ms[n]? = some a) (h1 : h[n]? = some (.lst xs)) (r : Reps K mg w ys us) (rd : Rep K mg w d v)
    (hp : PoE K mg W σ w H (.ok d (h.set n (.lst ys))) Q) : Q v (upd H a (.lst us)) := by
  obtain ⟨l1, l2⟩ := L.put q h1 (by intro z; cases z) _ _ (.lst r)
  exact hp w _ v l2 l1 rd
theorem ei_append {o a : Expr} {fo fa : SE} {apos cpos : Pos} (ho : EI Z Y W o fo) (ha : EI Z Y W a fa) (hb : ∀ i, attributeBase o "append" (Y i).env (eval o (Y i).env) = eval o (Y i).env := by intro _; rfl)
    (hfew : ∀ i, ((backTo cpos (starEach [a] (Y i).env)).all (fun x => !x.1) && (backToKw cpos (keywordEach [] (Y i).env)).all (fun x => x.1.isSome)
      && decide (([a] : List Expr).length + ([] : List Keyword).length + (if ([] : List Keyword).isEmpty then 0 else 1) < 30)) = true := by intro _; rfl)
    (hline : (apos.endLine == cpos.line) = true := by rfl) (hs : ∀ i, starEach [a] (Y i).env = (false, eval a (Y i).env) :: starEach [] (Y i).env := by intro _; rfl) (hpl : ∀ i, (backTo cpos (starEach [] (Y i).env)).any (·.1) = false := by intro _; rfl) :
    EI Z Y W (.Call (.Attribute o "append" apos) [a] [] cpos) (sMeth1 dAppend fo fa) := by
  obtain ⟨to, po, so⟩ := ho
  obtain ⟨ta, pa, sa⟩ := ha
  refine ⟨tBM Z.K "list" rAppend to (tCons ta tNil), fun i => pe_bm (X := cx Z (Y i)) PySem.F.plainAttrs_list PySem.F.slot_list_append PySem.F.type_list_append mt_append (po i) (pa_cons (pa i) pa_nil (hs i)) (hb i) (hfew i) hline (hs i) (hpl i), fun σ e w h H Q E L hp => so σ e w h H _ E L (Po.bind (Rp := Rep Z.K Z.mg) hp fun o1 h1 w1 H1 x _ st1 L1 r1 hp1 => ?_)⟩
  obtain ⟨xs, e1, hp1⟩ := Po.some hp1
  obtain ⟨a1, vs, rfl, hl, rl⟩ := lsOf_ok L1 e1 r1
  refine ⟨.inl ⟨rfl, vs, .inl (.inl hl)⟩, sa σ e w1 h1 H1 _ (E.mono st1.le) L1 (Po.bind (Rp := Rep Z.K Z.mg) hp1 fun a h2 w2 H2 y _ st2 L2 r2 hp2 => ?_)⟩
  obtain ⟨n, a2, ys, us, rfl, e2, q, k1, k2, k3, hp2⟩ := onLst_ok L2 (r1.mono st2.le) hp2
  cases e2
  obtain ⟨hlt, hp2⟩ := Po.ite hp2
  exact ⟨a1, us, y, rfl, rfl, k2, by rw [← k3.length, ← mostL_eq]; exact hlt, po_put L2 q k1 (k3.append (.cons r2 .nil)) .non hp2⟩
/-- o[i] = x -/
def sSetL (f fo fi : SE) : SS := fun e h => (f e h).toF e fun x h1 => (fo e h1).toF e fun o h2 => (fi e h2).toF e fun i h3 => match setIx o i x h3 with
  | .ok _ h4 => .nx e h4
  | _ => .bad
theorem si_setL {o i v : Expr} {f fo fi : SE} {p2 pos : Pos} (hf : EI Z Y W v f) (ho : EI Z Y W o fo) (hi : EI Z Y W i fi) (hs : ∀ j, swapsWithSole [.Subscript o i p2] v pos.line (Y j).env = pure false := by intro _; rfl) (hw : ∀ j, swappedStores [.Subscript o i p2] v (Y j).env = pure none := by intro _; rfl)
    (h1 : ∀ j, (assignEach [.Subscript o i p2] (Y j).env).map (·.2) = [assign (.Subscript o i p2) (Y j).env] := by intro _; rfl)
    (ha : ∀ j v, assign (.Subscript o i p2) (Y j).env v = (do
      let ov ← holding [v] (eval o (Y j).env)
      let iv ← holding [v, ov] (eval i (Y j).env)
      standAt p2
      holding [v, ov, iv] (setItem ov iv v)
      release [v, ov, iv] []) := by intro _ _; rfl) : SI Z Y W (.Assign [.Subscript o i p2] v pos) (sSetL f fo fi) := by
  obtain ⟨tv, pv', sv⟩ := hf
  obtain ⟨to, po, so⟩ := ho
  obtain ⟨ti, pi, si⟩ := hi
  refine ⟨_, fun j => ps_asg (X := cx Z (Y j)) (pv' j) (pg_sub (X := cx Z (Y j)) (po j) (pi j) set_list (ha j)) (hs j) (hw j) (h1 j), fun σ e w h H D E L hp => sv σ e w h H _ E L (Po.toF (Rp := Rep Z.K Z.mg) E hp fun x h1 w1 H1 xv _ st1 L1 r1 hp1 =>
    so σ e w1 h1 H1 _ (E.mono st1.le) L1 (Po.toF (Rp := Rep Z.K Z.mg) (E.mono st1.le) hp1 fun o1 h2 w2 H2 ov _ st2 L2 r2 hp2 => si σ e w2 h2 H2 _ (E.mono (st1.le.trans st2.le)) L2 (Po.toF (Rp := Rep Z.K Z.mg) (E.mono (st1.le.trans st2.le)) hp2 fun i1 h3 w3 H3 iv _ st3 L3 r3 hp3 => ?_)))⟩
  unfold setIx at hp3
  cases r3 with
  | int k =>
    have r2' := r2.mono st3.le
    cases r2' with
    | @ref n a q =>
      obtain ⟨o, u, k1, k2, r'⟩ := L3.there q
      simp only [k1] at hp3
      cases r' with
      | @lst xs vs r' =>
        simp only at hp3
        cases z : ixN xs.length k with
        | none => simp only [z] at hp3; exact hp3.elim
        | some j =>
          simp only [z] at hp3
          refine ⟨a, vs, k, j, rfl, rfl, k2, by rw [← r'.length]; exact z, ?_⟩
          obtain ⟨l1, l2⟩ := L3.put q k1 (by intro z; cases z) _ _ (.lst (r'.set (r1.mono (st2.le.trans st3.le)) j))
          exact hp3 w3 _ σ l2 l1 (E.mono ((st1.le.trans st2.le).trans st3.le))
      | _ => exact hp3.elim
    | _ => exact hp3.elim
  | _ => cases o1 <;> exact hp3.elim
end
/-! ### a promise in shorter words -/
/-- no ref from m on -/
def D.bel (m : Nat) : D → Bool
  | .ref n => decide (n < m)
  | .tup xs => bels m xs
  | .lst xs => bels m xs
  | .seq xs => bels m xs
  | _ => true
where bels (m : Nat) : List D → Bool
  | [] => true
  | x :: r => x.bel m && bels m r
def bel2 {κ : Type} (m : Nat) : List (κ × D) → Bool
  | [] => true
  | x :: r => x.2.bel m && bel2 m r
def PO.bel (m : Nat) : PO → Bool
  | .lst xs => D.bel.bels m xs
  | .dK kvs => bel2 m kvs
  | .dT kvs => bel2 m kvs
  | .ins _ fs => bel2 m fs
  | .dead => true
section
variable {K : PySem.W.Frag} {mg : Str → Option Value} {w : Wd}
mutual
theorem Rep.cut {m : Nat} : ∀ {d : D} {v : V}, d.bel m = true → Rep K mg w d v → Rep K mg ⟨w.ms.take m, w.G⟩ d v
  | _, _, _, .non => .non
  | _, _, _, .bl b => .bl b
  | _, _, _, .int b => .int b
  | _, _, _, .str b => .str b
  | _, _, h, .tup q r => .tup q (Reps.cut (by simpa only [D.bel] using h) r)
  | _, _, h, .lst q r => .lst q (Reps.cut (by simpa only [D.bel] using h) r)
  | _, _, h, .seq q r => .seq q (Reps.cut (by simpa only [D.bel] using h) r)
  | .ref n, _, h, .ref q => .ref (by
    have hn : n < m := by simpa [D.bel] using h
    rw [List.getElem?_take_of_lt hn]
    exact q)
  | _, _, _, .glo q => .glo q
  | _, _, _, .ty n => .ty n
theorem Reps.cut {m : Nat} : ∀ {d : List D} {v : List V}, D.bel.bels m d = true → Reps K mg w d v → Reps K mg ⟨w.ms.take m, w.G⟩ d v
  | _, _, _, .nil => .nil
  | _, _, h, .cons q r => by
    have h' := h
    simp only [D.bel.bels, Bool.and_eq_true] at h'
    exact .cons (Rep.cut h'.1 q) (Reps.cut h'.2 r)
end
theorem RepF.cut {m : Nat} : ∀ {d : List (Str × D)} {v : List (Str × V)}, bel2 m d = true → RepF K mg w d v → RepF K mg ⟨w.ms.take m, w.G⟩ d v
  | _, _, _, .nil => .nil
  | _, _, h, .cons q r => by
    have h' := h
    simp only [bel2, Bool.and_eq_true] at h'
    exact .cons (Rep.cut h'.1 q) (RepF.cut h'.2 r)
theorem RepK.cut {κ : Type} {m : Nat} : ∀ {d : List (κ × D)} {v : List (κ × V)}, bel2 m d = true → RepK K mg w d v → RepK K mg ⟨w.ms.take m, w.G⟩ d v
  | _, _, _, .nil => .nil
  | _, _, h, .cons q r => by
    have h' := h
    simp only [bel2, Bool.and_eq_true] at h'
    exact .cons (Rep.cut h'.1 q) (RepK.cut h'.2 r)
theorem RepO.cut {m : Nat} {o : PO} {u : HO} (h : o.bel m = true) (r : RepO K mg w o u) : RepO K mg ⟨w.ms.take m, w.G⟩ o u := by
  cases r with
  | lst r => exact .lst (r.cut h)
  | dK r => exact .dK (r.cut h)
  | dT r => exact .dT (r.cut h)
  | ins q r => exact .ins q (r.cut h)
  | dead => exact .dead
/-- the objects from m on are let go -/
theorem Lk.cut {h g : Ph} {H : Hp} (L : Lk K mg w (h ++ g) H) (hb : ∀ o ∈ h, o.bel h.length = true) : Lk K mg ⟨w.ms.take h.length, w.G⟩ h H := by
  have at_ : ∀ {n : Nat} {a : Addr}, (w.ms.take h.length)[n]? = some a → n < h.length ∧ w.ms[n]? = some a := fun {n a} e => by
    have hn := (List.getElem?_eq_some_iff.mp e).1
    rw [List.length_take] at hn
    have h1 : n < h.length := by omega
    rw [List.getElem?_take_of_lt h1] at e
    exact ⟨h1, e⟩
  refine ⟨L.ex, ?_, fun n a o e1 e2 => ?_, fun i j a e1 e2 => L.inj i j a (at_ e1).2 (at_ e2).2, fun n a o e1 e2 e3 => ?_⟩
  · show (w.ms.take h.length).length = h.length
    rw [List.length_take, L.len, List.length_append]
    omega
  · obtain ⟨h1, q⟩ := at_ e1
    obtain ⟨u, hu, r⟩ := L.obj n a o q (by rw [List.getElem?_append_left h1]; exact e2)
    exact ⟨u, hu, r.cut (hb o (List.mem_of_getElem? e2))⟩
  · obtain ⟨h1, q⟩ := at_ e1
    exact L.out n a o q (by rw [List.getElem?_append_left h1]; exact e2) e3
theorem RepX.cut {m : Nat} {c : Str} {fs : Option (List (Str × D))} {C : Value} {d : Option Addr} (hb : ∀ l, fs = some l → bel2 m l = true) (r : RepX K mg w c fs C d) : RepX K mg ⟨w.ms.take m, w.G⟩ c fs C d := by
  cases r with
  | plain q => exact .plain q
  | kept q1 q2 q3 => exact .kept q1 q2 (q3.cut (hb _ rfl))
mutual
theorem Rep.bel : ∀ {d : D} {v : V}, Rep K mg w d v → d.bel w.ms.length = true
  | _, _, .non => rfl
  | _, _, .bl b => rfl
  | _, _, .int b => rfl
  | _, _, .str b => rfl
  | _, _, .tup q r => by simpa only [D.bel] using Reps.bel r
  | _, _, .lst q r => by simpa only [D.bel] using Reps.bel r
  | _, _, .seq q r => by simpa only [D.bel] using Reps.bel r
  | .ref n, _, .ref q => by simpa [D.bel] using (List.getElem?_eq_some_iff.mp q).1
  | _, _, .glo q => rfl
  | _, _, .ty n => rfl
theorem Reps.bel : ∀ {d : List D} {v : List V}, Reps K mg w d v → D.bel.bels w.ms.length d = true
  | _, _, .nil => rfl
  | _, _, .cons q r => by
    simp only [D.bel.bels, Bool.and_eq_true]
    exact ⟨Rep.bel q, Reps.bel r⟩
end
theorem RepF.bel : ∀ {d : List (Str × D)} {v : List (Str × V)}, RepF K mg w d v → bel2 w.ms.length d = true
  | _, _, .nil => rfl
  | _, _, .cons q r => by
    simp only [bel2, Bool.and_eq_true]
    exact ⟨Rep.bel q, RepF.bel r⟩
theorem RepK.bel {κ : Type} : ∀ {d : List (κ × D)} {v : List (κ × V)}, RepK K mg w d v → bel2 w.ms.length d = true
  | _, _, .nil => rfl
  | _, _, .cons q r => by
    simp only [bel2, Bool.and_eq_true]
    exact ⟨Rep.bel q, RepK.bel r⟩
theorem RepO.bel {o : PO} {u : HO} (r : RepO K mg w o u) : o.bel w.ms.length = true := by
  cases r with
  | lst r => exact r.bel
  | dK r => exact r.bel
  | dT r => exact r.bel
  | ins _ r => exact r.bel
  | dead => rfl
theorem Lk.bel {h : Ph} {H : Hp} (L : Lk K mg w h H) : ∀ o ∈ h, o.bel h.length = true := fun o ho => by
  obtain ⟨n, hn⟩ := List.getElem?_of_mem ho
  have hl := (List.getElem?_eq_some_iff.mp hn).1
  have e : w.ms[n]? = some (w.ms[n]'(by rw [L.len]; exact hl)) := by simp
  obtain ⟨u, _, r⟩ := L.obj n _ o e hn
  rw [← L.len]
  exact r.bel
end
/-- what fn' says is what fn does, but for objects that no one knows behind it -/
def Tells (n : Nat) (fn fn' : Fn) : Prop := ∀ (as : List D) (h : Ph), as.length = n → (∀ o ∈ h, o.bel h.length = true) → (∀ a ∈ as, a.bel h.length = true) → match fn' as h with
  | .ok d h' => ∃ g, fn as h = .ok d (h' ++ g) ∧ h'.length = h.length ∧ d.bel h.length = true ∧ ∀ o ∈ h', o.bel h.length = true
  | .exc c fs h' => ∃ g, fn as h = .exc c fs (h' ++ g) ∧ h'.length = h.length ∧ (∀ l, fs = some l → bel2 h.length l = true) ∧ ∀ o ∈ h', o.bel h.length = true
  | .bad => True
theorem bels_mem {m : Nat} : ∀ {as : List D}, D.bel.bels m as = true → ∀ a ∈ as, a.bel m = true
  | [], _, _, ha => nomatch ha
  | x :: r, h, a, ha => by
    have h' := h
    simp only [D.bel.bels, Bool.and_eq_true] at h'
    rcases List.mem_cons.mp ha with q | q
    · rw [q]; exact h'.1
    · exact bels_mem h'.2 a q
theorem step_cut {w w' : Wd} {H H' : Hp} (st : Step w H w' H') : Step w H ⟨w'.ms.take w.ms.length, w'.G⟩ H' := by
  obtain ⟨⟨⟨l, e⟩, ex⟩, frm, newM, newG⟩ := st
  have et : w'.ms.take w.ms.length = w.ms := by rw [e, List.take_left']; rfl
  exact ⟨⟨⟨[], by rw [List.append_nil]; exact et⟩, ex⟩, frm, fun a h => .inl (by have h : a ∈ w'.ms.take w.ms.length := h; rw [et] at h; exact h), newG⟩
theorem Def.tells {B : Cb} {k : Nat} {x : Str} {n : Nat} {fn fn' : Fn} (d : Def B k x n fn) (t : Tells n fn fn') : Def B k x n fn' := by
  obtain ⟨a, fd, ps, F, hm, hk, hb⟩ := d.ex
  refine ⟨a, fd, ps, F.imp fun vs H Q E h => ?_, hm, hk, hb⟩
  obtain ⟨w, h, as, el, L, r, hp⟩ := h
  refine ⟨w, h, as, el, L, r, ?_⟩
  have q := t as h (by rw [r.length]; exact el) L.bel (by rw [← L.len]; exact bels_mem r.bel)
  cases z : fn' as h with
  | ok d h' =>
    rw [z] at q hp
    obtain ⟨g, e1, e2, e3, e4⟩ := q
    rw [e1]
    intro w' H' v st L' r'
    have e5 : h'.length = w.ms.length := by rw [e2, L.len]
    have L2' := L'.cut (by rw [e2]; exact e4)
    rw [e5] at L2'
    refine hp ⟨w'.ms.take w.ms.length, w'.G⟩ H' v (step_cut st) L2' ?_
    have := r'.cut e3
    rw [← L.len] at this
    exact this
  | exc c fs h' =>
    rw [z] at q hp
    obtain ⟨g, e1, e2, e3, e4⟩ := q
    rw [e1]
    intro w' H' C dd st L' r'
    have e5 : h'.length = w.ms.length := by rw [e2, L.len]
    have L2' := L'.cut (by rw [e2]; exact e4)
    rw [e5] at L2'
    refine hp ⟨w'.ms.take w.ms.length, w'.G⟩ H' C dd (step_cut st) L2' ?_
    have := r'.cut e3
    rw [← L.len] at this
    exact this
  | bad => rw [z] at hp; exact hp.elim
end Pd

namespace Pd
open PySem L2 Evl PyProof.Rows
/-! ### a op b op c op d -/
section
variable {ι : Type} {Z : Cz} {Y : ι → Cy} {W : WX}
def tChain3 (r r' r'' : R2) (ta tb tc td : TE) : TE := fun σ H Q => ta σ H fun x H1 => tb σ H1 fun y H2 => r x y H2 fun z H3 => ∃ k, z = .bl k ∧
  (if k = true then tc σ H3 fun u H4 => r' y u H4 fun z' H5 => ∃ k', z' = .bl k' ∧ (if k' = true then td σ H5 fun t H6 => r'' u t H6 Q else Q (.bl false) H5) else Q (.bl false) H3)
theorem pe_chain3 {X : Cx} {a b c d : Expr} {ta tb tc td : TE} {pos : Pos} {op op' op'' : CmpOp} {r r' r'' : R2} (ho : OpR X (compareOp op) r) (ho' : OpR X (compareOp op') r') (ho'' : OpR X (compareOp op'') r'') (ha : PE X a ta) (hb : PE X b tb) (hc : PE X c tc) (hd : PE X d td)
    (hm : lastMarks [op, op', op''] [b, c, d] = false) : PE X (.Compare a [op, op', op''] [b, c, d] pos) (tChain3 r r' r'' ta tb tc td) := by
  refine ⟨fun pins s σ H Q I h => ?_⟩
  refine Compare_chain (thn (ha.run pins s σ H _ I h) fun v s1 ⟨x, H1, I1, r1, q1⟩ => chain_link (thn (hb.run pins s1 σ H1 _ I1 q1) fun u s2 ⟨y, H2, I2, r2, q2⟩ =>
    thn (ho pins s2 σ H2 x y v u _ I2 r1 r2 q2) fun d s3 ⟨z, H3, I3, r3, k, e, q3⟩ => ?_)) hm
  subst e
  cases r3
  refine wpAny_truthy_bool ?_
  cases k with
  | false => exact ite_ff ⟨.bl false, H3, I3, rfl, q3⟩
  | true =>
    refine ite_tt (chain_link (thn (hc.run pins s3 σ H3 _ I3 q3) fun w' s4 ⟨z', H4, I4, r4, q4⟩ => thn (ho' pins s4 σ H4 y z' u w' _ I4 r2 r4 q4) fun d2 s5 ⟨z2, H5, I5, r5, k', e', q5⟩ => ?_))
    subst e'
    cases r5
    refine wpAny_truthy_bool ?_
    cases k' with
    | false => exact ite_ff ⟨.bl false, H5, I5, rfl, q5⟩
    | true => exact ite_tt (chain_last (thn (hd.run pins s5 σ H5 _ I5 q5) fun t' s6 ⟨z6, H6, I6, r6, q6⟩ => ho'' pins s6 σ H6 z' z6 w' t' Q I6 r4 r6 q6))
theorem pt_chain3 {X : Cx} {a b c d : Expr} {ta tb tc td : TE} {pos : Pos} {op op' op'' : CmpOp} {r r' r'' : R2} (ho : OpR X (compareOp op) r) (ho' : OpR X (compareOp op') r') (ho'' : OpR X (compareOp op'') r'') (ha : PE X a ta) (hb : PE X b tb) (hc : PE X c tc) (hd : PE X d td)
    (hm : lastMarks [op, op', op''] [b, c, d] = false) : PT X (.Compare a [op, op', op''] [b, c, d] pos) (tTest (tChain3 r r' r'' ta tb tc td)) := by
  refine ⟨fun pins s σ H Q I h => ?_⟩
  refine isTrue_chain (thn (ha.run pins s σ H _ I h) fun v s1 ⟨x, H1, I1, r1, q1⟩ => test_link (thn (hb.run pins s1 σ H1 _ I1 q1) fun u s2 ⟨y, H2, I2, r2, q2⟩ =>
    thn (ho pins s2 σ H2 x y v u _ I2 r1 r2 q2) fun d s3 ⟨z, H3, I3, r3, k, e, q3⟩ => ?_)) hm
  subst e
  cases r3
  refine wpAny_truthy_bool ?_
  cases k with
  | false =>
    obtain ⟨k', e', q'⟩ := q3
    cases e'
    exact ite_ff ⟨H3, I3, q'⟩
  | true =>
    refine ite_tt (test_link (thn (hc.run pins s3 σ H3 _ I3 q3) fun w' s4 ⟨z', H4, I4, r4, q4⟩ => thn (ho' pins s4 σ H4 y z' u w' _ I4 r2 r4 q4) fun d2 s5 ⟨z2, H5, I5, r5, k', e', q5⟩ => ?_))
    subst e'
    cases r5
    refine wpAny_truthy_bool ?_
    cases k' with
    | false =>
      obtain ⟨k', e', q'⟩ := q5
      cases e'
      exact ite_ff ⟨H5, I5, q'⟩
    | true =>
      refine ite_tt (test_last (thn (hd.run pins s5 σ H5 _ I5 q5) fun t' s6 ⟨z6, H6, I6, r6, q6⟩ => thn (ho'' pins s6 σ H6 z' z6 w' t' _ I6 r4 r6 q6) fun d' s7 ⟨z7, H7, I7, r7, k2, e2, q7⟩ => ?_))
      subst e2
      cases r7
      exact wpAny_truthy_bool ⟨H7, I7, q7⟩
def sChain3 (g g' g'' : D → D → Ph → R D) (fa fb fc fd : SE) : SE := fun e h => (fa e h).bind fun a h1 => (fb e h1).bind fun b h2 => (g a b h2).bind fun z h3 => z.br ((fc e h3).bind fun c h4 => (g' b c h4).bind fun z' h5 => z'.br ((fd e h5).bind fun d h6 => g'' c d h6) (.ok (.bl false) h5)) (.ok (.bl false) h3)
theorem sn_chain3 {K : PySem.W.Frag} {mg : Str → Option Value} {ta tb tc td : TE} {r r' r'' : R2} {g g' g'' : D → D → Ph → R D} {fa fb fc fd : SE} (ho : OpI K mg r g) (ho' : OpI K mg r' g') (ho'' : OpI K mg r'' g'') (ha : SnE K mg W ta fa) (hb : SnE K mg W tb fb) (hc : SnE K mg W tc fc) (hd : SnE K mg W td fd) :
    SnE K mg W (tChain3 r r' r'' ta tb tc td) (sChain3 g g' g'' fa fb fc fd) := fun σ e w h H Q E L hp =>
  ha σ e w h H _ E L (Po.bind (Rp := Rep K mg) hp fun a h1 w1 H1 x _ st1 L1 r1 hp1 => hb σ e w1 h1 H1 _ (E.mono st1.le) L1 (Po.bind (Rp := Rep K mg) hp1 fun b h2 w2 H2 y _ st2 L2 r2 hp2 =>
    ho W σ w2 h2 H2 a b x y _ L2 (r1.mono st2.le) r2 (Po.bind (Rp := Rep K mg) hp2 fun z h3 w3 H3 z' _ st3 L3 r3 hp3 => by
      have E3 := E.mono ((st1.le.trans st2.le).trans st3.le)
      cases r3 with
      | bl k =>
        refine ⟨k, rfl, ?_⟩
        cases k with
        | true => exact hc σ e w3 h3 H3 _ E3 L3 (Po.bind (Rp := Rep K mg) hp3 fun c h4 w4 H4 u _ st4 L4 r4 hp4 => ho' W σ w4 h4 H4 b c y u _ L4 (r2.mono (st3.le.trans st4.le)) r4 (Po.bind (Rp := Rep K mg) hp4 fun z5 h5 w5 H5 v5 _ st5 L5 r5 hp5 => by
            cases r5 with
            | bl k =>
              refine ⟨k, rfl, ?_⟩
              cases k with
              | true => exact hd σ e w5 h5 H5 _ (E3.mono (st4.le.trans st5.le)) L5 (Po.bind (Rp := Rep K mg) hp5 fun d h6 w6 H6 t _ st6 L6 r6 hp6 => ho'' W σ w6 h6 H6 c d u t _ L6 (r4.mono (st5.le.trans st6.le)) r6 hp6)
              | false => exact Po.here L5 (.bl _) hp5
            | _ => exact hp5.elim))
        | false => exact Po.here L3 (.bl _) hp3
      | _ => exact hp3.elim)))
theorem ei_chain3 {a b c d : Expr} {op op' op'' : CmpOp} {r r' r'' : R2} {g g' g'' : D → D → Ph → R D} {fa fb fc fd : SE} {pos : Pos} (o : OpF Z Y (compareOp op) r) (ho : OpI Z.K Z.mg r g) (o' : OpF Z Y (compareOp op') r') (ho' : OpI Z.K Z.mg r' g') (o'' : OpF Z Y (compareOp op'') r'') (ho'' : OpI Z.K Z.mg r'' g'')
    (ha : EI Z Y W a fa) (hb : EI Z Y W b fb) (hc : EI Z Y W c fc) (hd : EI Z Y W d fd) (hm : lastMarks [op, op', op''] [b, c, d] = false := by with_unfolding_all rfl) : EI Z Y W (.Compare a [op, op', op''] [b, c, d] pos) (sChain3 g g' g'' fa fb fc fd) := by
  obtain ⟨ta, pa, sa⟩ := ha
  obtain ⟨tb, pb, sb⟩ := hb
  obtain ⟨tc, pc, sc⟩ := hc
  obtain ⟨td, pd, sd⟩ := hd
  exact ⟨_, fun i => pe_chain3 (o i) (o' i) (o'' i) (pa i) (pb i) (pc i) (pd i) hm, sn_chain3 ho ho' ho'' sa sb sc sd⟩
theorem ti_chain3 {a b c d : Expr} {op op' op'' : CmpOp} {r r' r'' : R2} {g g' g'' : D → D → Ph → R D} {fa fb fc fd : SE} {pos : Pos} (o : OpF Z Y (compareOp op) r) (ho : OpI Z.K Z.mg r g) (o' : OpF Z Y (compareOp op') r') (ho' : OpI Z.K Z.mg r' g') (o'' : OpF Z Y (compareOp op'') r'') (ho'' : OpI Z.K Z.mg r'' g'')
    (ha : EI Z Y W a fa) (hb : EI Z Y W b fb) (hc : EI Z Y W c fc) (hd : EI Z Y W d fd) (hm : lastMarks [op, op', op''] [b, c, d] = false := by with_unfolding_all rfl) : TI Z Y W (.Compare a [op, op', op''] [b, c, d] pos) (sTst (sChain3 g g' g'' fa fb fc fd)) := by
  obtain ⟨ta, pa, sa⟩ := ha
  obtain ⟨tb, pb, sb⟩ := hb
  obtain ⟨tc, pc, sc⟩ := hc
  obtain ⟨td, pd, sd⟩ := hd
  exact ⟨_, fun i => pt_chain3 (o i) (o' i) (o'' i) (pa i) (pb i) (pc i) (pd i) hm, sn_tst (sn_chain3 ho ho' ho'' sa sb sc sd)⟩
/-! ### a, b, c = x, y, z -/
def sPar3 (i j l : Nat) (f : SA) : SS := fun e h => (f e h).toF e fun xs h1 => match xs with
  | [x, y, z] => .nx (((e.set i (some x)).set j (some y)).set l (some z)) h1
  | _ => .bad
theorem si_par3 {i j l : Nat} {x y z : Str} {a b c : Expr} {f : SA} {px py pz pt pt2 pos : Pos} {kt k2} (hc : ∀ i, (Y i).calm = true) (hN : Z.N.Nodup) (hi : Z.N[i]? = some x) (hj : Z.N[j]? = some y) (hl : Z.N[l]? = some z) (hij : i ≠ j) (hil : i ≠ l) (hjl : j ≠ l)
    (hx : ∀ i, (Y i).env.scope.names.lookup x = some .local) (hy : ∀ i, (Y i).env.scope.names.lookup y = some .local) (hz : ∀ i, (Y i).env.scope.names.lookup z = some .local) (ha : AI Z Y W [a, b, c] f)
    (hw : ∀ i, swappedStores [.Tuple [.Name x px, .Name y py, .Name z pz] kt pt] (.Tuple [a, b, c] k2 pt2) (Y i).env = pure (some [x, y, z]))
    (hs : ∀ i, swapsWithSole [.Tuple [.Name x px, .Name y py, .Name z pz] kt pt] (.Tuple [a, b, c] k2 pt2) pos.line (Y i).env = pure false := by intro _; rfl) :
    SI Z Y W (.Assign [.Tuple [.Name x px, .Name y py, .Name z pz] kt pt] (.Tuple [a, b, c] k2 pt2) pos) (sPar3 i j l f) := by
  obtain ⟨ta, pa, sa⟩ := ha
  refine ⟨_, fun q => ps_par3 (X := cx Z (Y q)) (hc q) hN hi hj hl hij hil hjl (hx q) (hy q) (hz q) (pa q) (hw q) (hs q), fun σ e w h H D E L hp => sa σ e w h H _ E L (Po.toF (Rp := Reps Z.K Z.mg) E hp fun xs h1 w1 H1 v _ st1 L1 r1 hp1 => ?_)⟩
  split at hp1
  · cases r1 with
    | cons q0 r1 =>
      obtain ⟨u1, u2, rfl, q1, q2⟩ := r1.two
      exact ⟨_, u1, u2, rfl, hp1 w1 H1 _ (Step.refl _ _) L1 ((((E.mono st1.le).set q0 i).set q1 j).set q2 l)⟩
  · exact hp1.elim
end
/-- what lets nothing out, if nothing is wished for -/
theorem fn_cx0 {P : Program} {w : World} {K : PySem.W.Frag} {mg : Str → Option Value} {base : Heap} {k : Nat} {f : Addr} {fd : FuncData} {ps : List Str} {sp : Sp} (F : FnOk P w K mg base (L2.CX P w) k f fd ps sp) :
    FnOk P w K mg base CX0 k f fd ps (fun vs H Q _ => sp vs H Q fun _ _ _ => False) := by
  refine ⟨fun vs H Q E h => F.len _ _ _ _ h, fun A outer s H args us vs Q E hr he hb hv hs => codeAny_mono (F.run A outer s H args us vs Q _ hr he hb hv hs) fun r s' hq => ?_⟩
  cases r with
  | error e =>
    obtain ⟨_, _, _, _, _, _, _, _, _, _, _, _, z⟩ := hq
    exact z.elim
  | ok fl =>
    cases fl with
    | ret u => exact hq
    | _ => exact hq.elim
/-- the same meaning in other words -/
theorem ei_fold {ι : Type} {Z : Cz} {Y : ι → Cy} {W : WX} {e : Expr} {f g : SE} (h : EI Z Y W e f) (q : f = g) : EI Z Y W e g := q ▸ h
/-- the most turns of a while loop that are told -/
def FU : Nat := 10 ^ 200
end Pd

namespace Pd
open PySem L2 Evl
/-! ### slices -/
abbrev ScO := Pe → Ph → R (Option Int)
def RpI (_ : Wd) (a b : Option Int) : Prop := a = b
abbrev PoO (K : PySem.W.Frag) (mg : Str → Option Value) := Po (α := Option Int) (β := Option Int) K mg RpI
def SnO (K : PySem.W.Frag) (mg : Str → Option Value) (W : WX) (t : TO) (f : ScO) : Prop := ∀ (σ : St) (e : Pe) (w : Wd) (h : Ph) (H : Hp) (Q : Option Int → Hp → Prop), En K mg w e σ → Lk K mg w h H → PoO K mg W σ w H (f e h) Q → t σ H Q
def cutD (xs : List D) (lo hi : Option Int) : List D := (xs.drop (HT.sIx xs.length 0 lo)).take (HT.sIx xs.length xs.length hi - HT.sIx xs.length 0 lo)
def dSl (a : D) (lo hi : Option Int) (h : Ph) : R D := match a with
  | .tup xs => .ok (.tup (cutD xs lo hi)) h
  | .str z => if z.length ≤ mostL then .ok (.str (Txt.slice z lo hi)) h else .bad
  | a => R.opt (lstOf a h) fun xs => .ok (.lst (cutD xs lo hi)) h
def dSlM (a : D) (lo hi : Option Int) (h : Ph) : R D := R.opt (lstOf a h) fun xs => .ok (.ref h.length) (h ++ [.lst (cutD xs lo hi)])
def oNo : ScO := fun _ h => .ok none h
def oPart (f : SE) : ScO := fun e h => (f e h).bind fun a h1 => match a with
  | .int i => .ok (some i) h1
  | _ => .bad
def sSl (g : D → Option Int → Option Int → Ph → R D) (f : SE) (lo hi : ScO) : SE := fun e h => (f e h).bind fun a h1 => (lo e h1).bind fun l h2 => (hi e h2).bind fun u h3 => g a l u h3
theorem Reps.cut2 {K : PySem.W.Frag} {mg : Str → Option Value} {w : Wd} {xs : List D} {vs : List V} (r : Reps K mg w xs vs) (lo hi : Option Int) : Reps K mg w (cutD xs lo hi) (cutV vs lo hi) := by
  unfold cutD cutV
  rw [r.length]
  exact Reps.take _ (Reps.drop _ r)
theorem cutD_whole {xs : List D} {lo hi : Option Int} (h : HT.sIx xs.length 0 lo = 0 ∧ HT.sIx xs.length xs.length hi = xs.length) : cutD xs lo hi = xs := by
  unfold cutD
  rw [h.1, h.2, List.drop_zero, Nat.sub_zero, List.take_length]
def rSlAll (K : PySem.W.Frag) : V → Option Int → Option Int → Hp → VK → Prop := fun x lo hi H Q => (rSlA K x lo hi H Q) ∨ (rSlL K x lo hi H Q ∨ C8.rSlX x lo hi H Q)
def SlI (K : PySem.W.Frag) (mg : Str → Option Value) (r : V → Option Int → Option Int → Hp → VK → Prop) (g : D → Option Int → Option Int → Ph → R D) : Prop := ∀ (W : WX) (σ : St) (w : Wd) (h : Ph) (H : Hp) (a : D) (x : V) (lo hi : Option Int) (Q : VK), Lk K mg w h H → Rep K mg w a x → PoE K mg W σ w H (g a lo hi h) Q → r x lo hi H Q
section
variable {K : PySem.W.Frag} {mg : Str → Option Value}
theorem li_sl : SlI K mg (rSlAll K) dSl := by
  intro W σ w h H a x lo hi Q L ra hp
  unfold dSl at hp
  split at hp
  · rename_i xs
    cases ra with
    | @tup p vs _ q r =>
      refine .inl ⟨p, vs, rfl, SqT.ex L q, fun hw => ?_, fun _ l hl => Po.tup L (r.cut2 lo hi) hp hl⟩
      rw [← r.length] at hw
      rw [cutD_whole hw] at hp
      exact Po.here L (.tup q r) hp
  · cases ra
    obtain ⟨hc, hp⟩ := Po.ite hp
    exact .inr (.inr ⟨_, rfl, mostL_le hc, Po.here L (.str _) hp⟩)
  · obtain ⟨xs, e, hp⟩ := Po.some hp
    obtain ⟨p, vs, rfl, h1, h2⟩ := lstOf_ok L e ra
    exact .inr (.inl ⟨p, vs, rfl, h1, fun l hl => Po.lst L (h2.cut2 lo hi) hp hl⟩)
theorem li_slM : SlI K mg (rSlAll K) dSlM := by
  intro W σ w h H a x lo hi Q L ra hp
  unfold dSlM at hp
  obtain ⟨xs, e, hp⟩ := Po.some hp
  obtain ⟨p, vs, rfl, h1, h2⟩ := lstOf_ok L e ra
  exact .inr (.inl ⟨p, vs, rfl, h1, fun l hl => po_newO L hl (.lst (h2.cut2 lo hi)) hp⟩)
end
section
variable {ι : Type} {Z : Cz} {Y : ι → Cy} {W : WX}
theorem sl_all {X : Cx} : SlR X (rSlAll X.K) := L2.SlR.or sl_tupA (L2.SlR.or sl_list C8.sl_txt)
def OI (Z : Cz) (Y : ι → Cy) (W : WX) (e : Option Expr) (f : ScO) : Prop := ∃ t, (∀ i, L2.PO (cx Z (Y i)) e t) ∧ SnO Z.K Z.mg W t f
theorem ol_no : OI Z Y W none oNo := ⟨_, fun i => po_none, fun σ e w h H Q E L hp => Po.here (Rp := RpI) L rfl hp⟩
theorem ol_part {e : Expr} {f : SE} (he : EI Z Y W e f) : OI Z Y W (some e) (oPart f) := by
  obtain ⟨t, p, s⟩ := he
  refine ⟨_, fun i => po_some (p i), fun σ e w h H Q E L hp => s σ e w h H _ E L (Po.bind (Rp := Rep Z.K Z.mg) (Rq := RpI) hp fun a h1 w1 H1 x _ st1 L1 r1 hp1 => ?_)⟩
  split at hp1
  · cases r1
    exact ⟨_, rfl, Po.here (Rp := RpI) L1 rfl hp1⟩
  · exact hp1.elim
theorem ei_sl {g : D → Option Int → Option Int → Ph → R D} {e : Expr} {lo hi : Option Expr} {f : SE} {fl fh : ScO} {pos p2 : Pos} (hg : SlI Z.K Z.mg (rSlAll Z.K) g) (he : EI Z Y W e f) (hl : OI Z Y W lo fl) (hh : OI Z Y W hi fh) : EI Z Y W (.Subscript e (.Slice lo hi none p2) pos) (sSl g f fl fh) := by
  obtain ⟨t, p, s⟩ := he
  obtain ⟨tl, pl, sl⟩ := hl
  obtain ⟨th, ph, sh⟩ := hh
  refine ⟨tSl (rSlAll Z.K) t tl th, fun i => pe_slice (X := cx Z (Y i)) sl_all (p i) (pl i) (ph i), fun σ e w h H Q E L hp => s σ e w h H _ E L (Po.bind (Rp := Rep Z.K Z.mg) hp fun a h1 w1 H1 x _ st1 L1 r1 hp1 => ?_)⟩
  refine sl σ e w1 h1 H1 _ (E.mono st1.le) L1 (Po.bind (Rp := RpI) hp1 fun l h2 w2 H2 l' _ st2 L2 e2 hp2 => ?_)
  refine sh σ e w2 h2 H2 _ ((E.mono st1.le).mono st2.le) L2 (Po.bind (Rp := RpI) hp2 fun u h3 w3 H3 u' _ st3 L3 e3 hp3 => ?_)
  cases e2
  cases e3
  exact hg W σ w3 h3 H3 a x l u Q L3 ((r1.mono st2.le).mono st3.le) hp3
/-- xs[::-1] -/
def dRev (a : D) (h : Ph) : R D := R.opt (lstOf a h) fun xs => .ok (.lst xs.reverse) h
def sRev (f : SE) : SE := fun e h => (f e h).bind fun a h1 => dRev a h1
theorem ei_rev {e : Expr} {f : SE} {k : Nat} {p1 p2 p3 pos : Pos} (he : EI Z Y W e f) : EI Z Y W (.Subscript e (.Slice none none (some (.UnaryOp .USub (.Constant (.int 1) k p1) p2)) p3) pos) (sRev f) := by
  obtain ⟨t, p, s⟩ := he
  refine ⟨tRevL Z.K t, fun i => pe_revL (X := cx Z (Y i)) (p i), fun σ e w h H Q E L hp => s σ e w h H _ E L (Po.bind (Rp := Rep Z.K Z.mg) hp fun a h1 w1 H1 x _ st1 L1 r1 hp1 => ?_)⟩
  obtain ⟨xs, e, hp1⟩ := Po.some hp1
  obtain ⟨p, vs, rfl, h1, h2⟩ := lstOf_ok L1 e r1
  exact ⟨p, vs, rfl, h1, fun l hl => Po.lst L1 (Reps.reverse h2) hp1 hl⟩
end
/-! ### repr of what is no container -/
def rReprS : List V → Hp → VK → Prop := fun xs H Q => (∃ b : Bool, xs = [.bl b] ∧ Q (.str (if b then "True" else "False")) H) ∨ ((xs = [.non] ∧ Q (.str "None") H) ∨ (∃ i, xs = [.int i] ∧ i.natAbs.log2 < 1920 ∧ Q (.str (toString i)) H))
theorem call_reprS {X : Cx} : CallR X (.builtin "repr") rReprS := by
  intro pins s σ H xs us Q I r h
  rcases h with ⟨b, rfl, q⟩ | ⟨rfl, q⟩ | h
  · obtain ⟨u, rfl, rfl⟩ := vals1 r
    exact PySem.P.repr_of_bool ⟨.str _, H, I.tok _, ⟨_, rfl⟩, q⟩
  · obtain ⟨u, rfl, rfl⟩ := vals1 r
    exact PySem.P.repr_of_none ⟨.str _, H, I.tok _, ⟨_, rfl⟩, q⟩
  · exact SkE.call_repr_int pins s σ H xs us Q I r h
def dRepr (a : D) (h : Ph) : R D := match a with
  | .bl b => .ok (.str (if b then "True" else "False")) h
  | .non => .ok (.str "None") h
  | .int i => if i.natAbs.log2 < 1920 then .ok (.str (toString i)) h else .bad
  | _ => .bad
theorem ci_repr {K : PySem.W.Frag} {mg : Str → Option Value} : CallI K mg rReprS (g1 dRepr) := ci_1 fun W σ w h H a x Q L ra hp => by
  unfold dRepr at hp
  split at hp
  · cases ra; exact .inl ⟨_, rfl, Po.here L (.str _) hp⟩
  · cases ra; exact .inr (.inl ⟨rfl, Po.here L (.str _) hp⟩)
  · obtain ⟨hc, hp⟩ := Po.ite hp
    cases ra; exact .inr (.inr ⟨_, rfl, hc, Po.here L (.str _) hp⟩)
  · exact hp.elim
end Pd

namespace Pd
open PySem L2 Evl
/-! ### zip -/
def zipD : List D → List D → List D
  | x :: xs, y :: ys => .tup [x, y] :: zipD xs ys
  | _, _ => []
theorem zipD_get : ∀ {xs ys : List D} {i : Nat} {d : D}, (zipD xs ys)[i]? = some d → ∃ x y, xs[i]? = some x ∧ ys[i]? = some y ∧ d = .tup [x, y]
  | [], _, _, _, e => by cases e
  | _ :: _, [], _, _, e => by cases e
  | x :: xs, y :: ys, 0, d, e => by cases e; exact ⟨x, y, rfl, rfl, rfl⟩
  | x :: xs, y :: ys, i + 1, d, e => zipD_get (xs := xs) (ys := ys) (i := i) e
theorem zipD_len : ∀ {xs ys : List D}, (zipD xs ys).length = min xs.length ys.length
  | [], _ => by simp [zipD]
  | _ :: _, [] => by simp [zipD]
  | x :: xs, y :: ys => by simp [zipD, zipD_len (xs := xs) (ys := ys)]
theorem itOk_zipT {K : PySem.W.Frag} {mg : Str → Option Value} {w : Wd} {a b : Addr} {xs ys : List D} {us vs : List V} (qa : SqT K w.G a us) (qb : SqT K w.G b vs) (ra : Reps K mg w xs us) (rb : Reps K mg w ys vs) : ItOk K mg w (RZ.ItzT K a b) (zipD xs ys) where
  go := fun w' h' H' i d le L e => by
    obtain ⟨x, y, e1, e2, rfl⟩ := zipD_get e
    obtain ⟨u, hu, ru⟩ := ra.get e1
    obtain ⟨v, hv, rv⟩ := rb.get e2
    have s1 := ex_t L.ex (ex_t le.ex qa)
    have s2 := ex_t L.ex (ex_t le.ex qb)
    refine ⟨⟨us, vs, u, v, s1, s2, hu, hv⟩, fun z H'' hy => ?_⟩
    obtain ⟨T, x1, y1, rfl, np, rfl, k1, k2⟩ := hy
    have z1 := k1 us s1
    have z2 := k2 vs s2
    rw [hu] at z1
    rw [hv] at z2
    cases z1
    cases z2
    obtain ⟨l1, l2, l3⟩ := L.lay np (.tup [u, v])
    exact ⟨_, l2, l1, .tup (.inl (.inl upd_same)) (.cons ((ru.mono le).mono l3) (.cons ((rv.mono le).mono l3) .nil))⟩
  stop := fun w' h' H' i le L hl => by
    rw [zipD_len] at hl
    exact ⟨us, vs, ex_t L.ex (ex_t le.ex qa), ex_t L.ex (ex_t le.ex qb), by rw [← ra.length, ← rb.length]; omega⟩
theorem itOk_zipL {K : PySem.W.Frag} {mg : Str → Option Value} {w : Wd} {a b : Addr} {xs ys : List D} {us vs : List V} (qa : SqL K w.G a us) (qb : SqL K w.G b vs) (ra : Reps K mg w xs us) (rb : Reps K mg w ys vs) : ItOk K mg w (Itz K a b) (zipD xs ys) where
  go := fun w' h' H' i d le L e => by
    obtain ⟨x, y, e1, e2, rfl⟩ := zipD_get e
    obtain ⟨u, hu, ru⟩ := ra.get e1
    obtain ⟨v, hv, rv⟩ := rb.get e2
    have s1 := ex_l L.ex (ex_l le.ex qa)
    have s2 := ex_l L.ex (ex_l le.ex qb)
    refine ⟨⟨us, vs, u, v, s1, s2, hu, hv⟩, fun z H'' hy => ?_⟩
    obtain ⟨T, x1, y1, rfl, np, rfl, k1, k2⟩ := hy
    have z1 := k1 us s1
    have z2 := k2 vs s2
    rw [hu] at z1
    rw [hv] at z2
    cases z1
    cases z2
    obtain ⟨l1, l2, l3⟩ := L.lay np (.tup [u, v])
    exact ⟨_, l2, l1, .tup (.inl (.inl upd_same)) (.cons ((ru.mono le).mono l3) (.cons ((rv.mono le).mono l3) .nil))⟩
  stop := fun w' h' H' i le L hl => by
    rw [zipD_len] at hl
    exact ⟨us, vs, ex_l L.ex (ex_l le.ex qa), ex_l L.ex (ex_l le.ex qb), by rw [← ra.length, ← rb.length]; omega⟩
def lq (a : D) : Option (List D) := match a with
  | .lst xs => some xs
  | .seq xs => some xs
  | _ => none
def iZipS (f : SA) : SIt := fun e h => (f e h).bind fun as h1 => match as with
  | [.tup xs, .tup ys] => .ok (zipD xs ys) h1
  | [a, b] => R.opt (lq a) fun xs => R.opt (lq b) fun ys => .ok (zipD xs ys) h1
  | _ => .bad
theorem lq_ok {K : PySem.W.Frag} {mg : Str → Option Value} {w : Wd} {a : D} {xs : List D} {x : V} (e : lq a = some xs) (r : Rep K mg w a x) : ∃ p vs, x = .ref p ∧ SqL K w.G p vs ∧ Reps K mg w xs vs := by
  cases r with
  | lst q r => cases e; exact ⟨_, _, rfl, .inl (.inl q), r⟩
  | seq q r => cases e; exact ⟨_, _, rfl, q, r⟩
  | _ => cases e
section
variable {ι : Type} {Z : Cz} {Y : ι → Cy} {W : WX}
theorem ii_zip {elts : List Expr} {kk : Nat} {tpos p pos : Pos} {e e2 : Expr} {f : SA} (hg : GlF Y "zip") (hm : Z.mg "zip" = none) (ha : AI Z Y W [e, e2] f)
    (hs : ∀ i, starEach [e, e2] (Y i).env = (false, eval e (Y i).env) :: starEach [e2] (Y i).env := by intro _; rfl) (hpl : ∀ i, (backTo pos (starEach [e2] (Y i).env)).any (·.1) = false := by intro _; rfl) :
    II Z Y W (.Tuple elts kk tpos) (.Call (.Name "zip" p) [e, e2] [] pos) (iZipS f) := by
  obtain ⟨t, pa, s⟩ := ha
  refine ⟨RZ.iZipA Z.K t, fun i => RZ.pi_zipA (X := cx Z (Y i)) (hg i) hm (pa i) (hs i) (hpl i), fun σ e w h H Q E L hp => s σ e w h H _ E L (Po.bind (Rp := Reps Z.K Z.mg) (Rq := fun w xs J => ItOk Z.K Z.mg w J xs) hp fun as h1 w1 H1 vs _ st1 L1 r1 hp1 => ?_)⟩
  split at hp1
  · obtain ⟨x, y, rfl, r1, r2⟩ := r1.two
    cases r1 with
    | @tup a us _ q1 k1 =>
      cases r2 with
      | @tup b ws _ q2 k2 =>
        exact ⟨_, _, _, _, rfl, .inr ⟨SqT.ex L1 q1, SqT.ex L1 q2, hp1 w1 H1 _ (Step.refl _ _) L1 (itOk_zipT q1 q2 k1 k2)⟩⟩
  · obtain ⟨x, y, rfl, r1, r2⟩ := r1.two
    obtain ⟨xs, e1, hp1⟩ := Po.some (Rp := fun w xs J => ItOk Z.K Z.mg w J xs) hp1
    obtain ⟨ys, e2, hp1⟩ := Po.some (Rp := fun w xs J => ItOk Z.K Z.mg w J xs) hp1
    obtain ⟨a, us, rfl, q1, k1⟩ := lq_ok e1 r1
    obtain ⟨b, ws, rfl, q2, k2⟩ := lq_ok e2 r2
    exact ⟨_, _, _, _, rfl, .inl ⟨SqL.ex L1 q1, SqL.ex L1 q2, hp1 w1 H1 _ (Step.refl _ _) L1 (itOk_zipL q1 q2 k1 k2)⟩⟩
  · exact hp1.elim
end
/-! ### in a list, not in -/
def dIn (a b : D) (h : Ph) : R D := R.opt (pyOf a h) fun p => match pyOf b h with
  | some (.list ds) => if SeqAt.shaped p = true ∧ SeqAt.shaped (.list ds) = true then .ok (.bl (ds.any fun z => PyData.eqv z p)) h else .bad
  | _ => .bad
def dNotIn (a b : D) (h : Ph) : R D := R.opt (pyOf a h) fun p => match pyOf b h with
  | some (.list ds) => if SeqAt.shaped p = true ∧ SeqAt.shaped (.list ds) = true then .ok (.bl (!ds.any fun z => PyData.eqv z p)) h else .bad
  | _ => .bad
theorem oi_in {K : PySem.W.Frag} {mg : Str → Option Value} : OpI K mg (rInD K) dIn := by
  intro W σ w h H a b x y Q L ra rb hp
  obtain ⟨p, e1, hp⟩ := Po.some hp
  split at hp
  · rename_i ds e2
    obtain ⟨⟨s1, s2⟩, hp⟩ := Po.ite hp
    exact ⟨p, ds, pyOf_ok L e1 ra, pyOf_ok L e2 rb, s1, s2, Po.here L (.bl _) hp⟩
  · exact hp.elim
theorem oi_notIn {K : PySem.W.Frag} {mg : Str → Option Value} : OpI K mg (rNotInD K) dNotIn := by
  intro W σ w h H a b x y Q L ra rb hp
  obtain ⟨p, e1, hp⟩ := Po.some hp
  split at hp
  · rename_i ds e2
    obtain ⟨⟨s1, s2⟩, hp⟩ := Po.ite hp
    exact ⟨p, ds, pyOf_ok L e1 ra, pyOf_ok L e2 rb, s1, s2, Po.here L (.bl _) hp⟩
  · exact hp.elim
end Pd

/-! PdA: a hook by any facts of the written part; names of the module that are data -/
namespace Pd
open PySem L2 Evl
abbrev FaX := PySem.W.Frag → Bool
def obsX (fa : List FaX) (fn : List He.DefD) (K : PySem.W.Frag) : He.AlD := ((fa.all fun f => f K) && fn.all fun d => d.ok K, fn.map fun d => He.fnW K d.at_)
def SaysX (fa : List FaX) (fn : List He.DefD) (K : PySem.W.Frag) : Prop := obsX fa fn K = He.valD fn
def obsXG (n : Nat) (fa : List FaX) (fn : List He.DefD) (g : Addr → Option Obj) : He.AlD := obsX fa fn (He.frG g (He.asD g n))
def hookX (n : Nat) (fa : List FaX) (fn : List He.DefD) : PySem.W.Hook where
  α := He.AlD
  obs := fun s => obsXG n fa fn s.heap.get?
  val := fun _ => He.valD fn
  says := fun _ h => ∃ K : PySem.W.Frag, K.In h ∧ SaysX fa fn K
  of := fun _ _ e => ⟨_, He.frG_in, e⟩
  keeps := fun _ _ _ ⟨K, hK, c⟩ k => ⟨K, PySem.W.Frag.In.keeps hK k, c⟩
theorem obsXG_eq {n : Nat} {fa : List FaX} {fn : List He.DefD} {g : Addr → Option Obj} {s : Shared} (h : ∀ a, g a = s.heap.get? a) : obsXG n fa fn g = (hookX n fa fn).obs s := by
  have e : g = s.heap.get? := funext h
  rw [e] <;> rfl
section
variable {fa : List FaX} {fn : List He.DefD} {K : PySem.W.Frag}
theorem SaysX.fact (c : SaysX fa fn K) (i : Nat) {f : FaX} (h : fa[i]? = some f := by rfl) : f K = true := by
  have c1 := (He.ba (show ((fa.all fun f => f K) && fn.all fun d => d.ok K) = true from congrArg (fun z : He.AlD => z.1) c)).1
  exact List.all_eq_true.mp c1 f (List.mem_of_getElem? h)
theorem SaysX.def_ (c : SaysX fa fn K) (i : Nat) {d : He.DefD} (h : fn[i]? = some d := by rfl) : ∃ fd, FunD K d.name d.qual d.params d.body d.scope (d.dvs K) (d.kws K) (He.fAd K d.at_) fd := by
  have c2 := (He.ba (show ((fa.all fun f => f K) && fn.all fun d => d.ok K) = true from congrArg (fun z : He.AlD => z.1) c)).2
  have e : fn.map (fun d => He.fnW K d.at_) = fn.map He.DefD.val := congrArg (fun z : He.AlD => z.2) c
  have hm : d ∈ fn := List.mem_of_getElem? h
  have e1 : He.fnW K d.at_ = d.val := by
    have e2 : (fn.map (fun d => He.fnW K d.at_))[i]? = (fn.map He.DefD.val)[i]? := by rw [e]
    rw [List.getElem?_map, List.getElem?_map, h] at e2
    exact Option.some.inj e2
  exact He.DefD.funD e1 (List.all_eq_true.mp c2 d hm)
end
/-! ### data of the module -/
mutual
def repB (K : PySem.W.Frag) : D → Value → Bool
  | .non, v => (match v with | .none => true | _ => false)
  | .bl b, v => (match v with | .bool c => b == c | _ => false)
  | .int i, v => (match v with | .int j _ => decide (i = j) | _ => false)
  | .str x, v => (match v with | .str y _ => decide (x = y) | _ => false)
  | .ty n, v => (match v with | .type m => decide (n = m) | _ => false)
  | .glo x, v => (match v with
    | .ref a => He.eqO (PySem.W.nsIn K mainGlobals x) (some (some (.ref a)))
    | _ => false)
  | .tup xs, v => (match v with
    | .ref a => (match K.lookup a with
      | some ⟨.type c, _, .seq its _, _⟩ => decide (c = "tuple") && (decide (its.size ≤ sizeLine) && repsB K xs its.toList)
      | _ => false)
    | _ => false)
  | .seq xs, v => (match v with
    | .ref a => (match K.lookup a with
      | some ⟨.type c, none, .seq its _, _⟩ => decide (c = "list") && (decide (its.size ≤ sizeLine) && repsB K xs its.toList)
      | _ => false)
    | _ => false)
  | .lst _, _ => false
  | .ref _, _ => false
def repsB (K : PySem.W.Frag) : List D → List Value → Bool
  | [], vs => (match vs with | [] => true | _ => false)
  | x :: xs, vs => (match vs with | v :: r => repB K x v && repsB K xs r | [] => false)
end
section
variable {K : PySem.W.Frag} {mg : Str → Option Value} {h : Heap}
mutual
theorem repB_ok (X : K.In h) (G : h.Ns mainGlobals mg) : ∀ {d : D} {u : Value}, repB K d u = true → ∃ v, RelV v u ∧ ∀ w, Rep K mg w d v
  | .non, u, e => by
    cases u with
    | none => exact ⟨.non, rfl, fun _ => .non⟩
    | _ => cases e
  | .bl b, u, e => by
    cases u with
    | bool c =>
      have q : (b == c) = true := e
      exact ⟨.bl b, by rw [beq_iff_eq.mp q]; rfl, fun _ => .bl b⟩
    | _ => cases e
  | .int i, u, e => by
    cases u with
    | int c t =>
      have q : decide (i = c) = true := e
      exact ⟨.int i, by rw [of_decide_eq_true q]; exact ⟨_, rfl⟩, fun _ => .int i⟩
    | _ => cases e
  | .str i, u, e => by
    cases u with
    | str c t =>
      have q : decide (i = c) = true := e
      exact ⟨.str i, by rw [of_decide_eq_true q]; exact ⟨_, rfl⟩, fun _ => .str i⟩
    | _ => cases e
  | .ty i, u, e => by
    cases u with
    | type c =>
      have q : decide (i = c) = true := e
      exact ⟨.ty i, by rw [of_decide_eq_true q]; rfl, fun _ => .ty i⟩
    | _ => cases e
  | .glo x, u, e => by
    cases u with
    | ref a =>
      have q : He.eqO (PySem.W.nsIn K mainGlobals x) (some (some (.ref a))) = true := e
      exact ⟨.ref a, rfl, fun _ => .glo (PySem.W.mg_of X G (He.eqO_ok q))⟩
    | _ => cases e
  | .tup xs, u, e => by
    cases u with
    | ref a =>
      have q : (match K.lookup a with
        | some ⟨.type c, _, .seq its _, _⟩ => decide (c = "tuple") && (decide (its.size ≤ sizeLine) && repsB K xs its.toList)
        | _ => false) = true := e
      cases l : K.lookup a with
      | none => rw [l] at q; cases q
      | some o =>
        obtain ⟨oc, od, dt, osl⟩ := o
        rw [l] at q
        cases oc with
        | type c =>
          cases dt with
          | seq its n =>
            obtain ⟨h1, h2⟩ := He.ba (show (decide (c = "tuple") && (decide (its.size ≤ sizeLine) && repsB K xs its.toList)) = true from q)
            obtain ⟨h3, h4⟩ := He.ba h2
            obtain ⟨vs, r1, r2⟩ := repsB_ok X G h4
            exact ⟨.ref a, rfl, fun w => .tup (.inr ⟨_, its, n, l, congrArg Value.type (of_decide_eq_true h1), rfl, of_decide_eq_true h3, r1⟩) (r2 w)⟩
          | _ => cases q
        | _ => cases dt <;> cases q
    | _ => cases e
  | .seq xs, u, e => by
    cases u with
    | ref a =>
      have q : (match K.lookup a with
        | some ⟨.type c, none, .seq its _, _⟩ => decide (c = "list") && (decide (its.size ≤ sizeLine) && repsB K xs its.toList)
        | _ => false) = true := e
      cases l : K.lookup a with
      | none => rw [l] at q; cases q
      | some o =>
        obtain ⟨oc, od, dt, osl⟩ := o
        rw [l] at q
        cases oc with
        | type c =>
          cases od with
          | none =>
            cases dt with
            | seq its n =>
              obtain ⟨h1, h2⟩ := He.ba (show (decide (c = "list") && (decide (its.size ≤ sizeLine) && repsB K xs its.toList)) = true from q)
              obtain ⟨h3, h4⟩ := He.ba h2
              obtain ⟨vs, r1, r2⟩ := repsB_ok X G h4
              exact ⟨.ref a, rfl, fun w => .seq (.inr ⟨_, its, n, l, congrArg Value.type (of_decide_eq_true h1), rfl, rfl, of_decide_eq_true h3, r1⟩) (r2 w)⟩
            | _ => cases q
          | some _ => cases dt <;> cases q
        | _ => cases od <;> cases dt <;> cases q
    | _ => cases e
  | .lst _, _, e => by cases e
  | .ref _, _, e => by cases e
theorem repsB_ok (X : K.In h) (G : h.Ns mainGlobals mg) : ∀ {d : List D} {u : List Value}, repsB K d u = true → ∃ v, Vals v u ∧ ∀ w, Reps K mg w d v
  | [], u, e => by
    cases u with
    | nil => exact ⟨[], .nil, fun _ => .nil⟩
    | cons _ _ => cases e
  | x :: xs, u, e => by
    cases u with
    | nil => cases e
    | cons a r =>
      obtain ⟨h1, h2⟩ := He.ba (show (repB K x a && repsB K xs r) = true from e)
      obtain ⟨v, r1, r2⟩ := repB_ok X G h1
      obtain ⟨vs, s1, s2⟩ := repsB_ok X G h2
      exact ⟨v :: vs, .cons r1 s1, fun w => .cons (r2 w) (s2 w)⟩
end
end
/-- the module's name x is this -/
def faDat (x : Str) (d : D) : FaX := fun K => match PySem.W.nsIn K mainGlobals x with
  | some (some u) => repB K d u
  | _ => false
/-- a name of the module that is data -/
def Dat (K : PySem.W.Frag) (mg : Str → Option Value) (x : Str) (d : D) : Prop := ∃ u v, mg x = some u ∧ RelV v u ∧ ∀ w, Rep K mg w d v
theorem dat_ok {K : PySem.W.Frag} {mg : Str → Option Value} {h : Heap} (X : K.In h) (G : h.Ns mainGlobals mg) {x : Str} {d : D} (c : faDat x d K = true) : Dat K mg x d := by
  unfold faDat at c
  cases e : PySem.W.nsIn K mainGlobals x with
  | none => rw [e] at c; cases c
  | some o =>
    rw [e] at c
    cases o with
    | none => cases c
    | some u =>
      obtain ⟨v, r1, r2⟩ := repB_ok X G c
      exact ⟨u, v, PySem.W.mg_of X G e, r1, r2⟩
section
variable {ι : Type} {Z : Cz} {Y : ι → Cy} {W : WX}
theorem ei_dat {x : Str} {d : D} {pos : Pos} (hg : GlF Y x) (hm : Dat Z.K Z.mg x d) (hd : (x == ("__debug__" : Str)) = false := by decide) : EI Z Y W (.Name x pos) (sC d) := by
  obtain ⟨u, v, h1, h2, h3⟩ := hm
  exact ⟨_, fun j => pe_glob (v := v) (hg j) h1 h2 hd, sn_c h3⟩
end
end Pd

/-! Pdap: what each word is where it is applied -/
namespace Pd
open PySem L2 Evl
/-- said by rfl, but not for dsimp -/
theorem nr {α : Sort _} {a b : α} (q : a = b) : a = b := by subst q; exact rfl
section
variable {α β : Type} {e : Pe} {h : Ph}
/-! what comes later stands where simp does not look: the type of the other argument names it -/
def RT (k : α → Ph → R β) : Type := R α
def bnd (k : α → Ph → R β) (r : RT k) : R β := R.bind r k
theorem R.bind_bnd {r : R α} {k : α → Ph → R β} : r.bind k = bnd k r := nr rfl
theorem bnd_ok {k : α → Ph → R β} {a : α} : bnd k (R.ok a h) = k a h := nr rfl
def bdn (k : α → Ph → R β) (r : RT k) : R β := R.bd r k
theorem R.bd_bdn {r : R α} {k : α → Ph → R β} : r.bd k = bdn k r := nr rfl
theorem bdn_ok {k : α → Ph → R β} {a : α} : bdn k (R.ok a h) = k a h := nr rfl
def RF (k : α → Ph → F) : Type := R α
def tof (k : α → Ph → F) (e : Pe) (r : RF k) : F := R.toF r e k
theorem R.toF_tof {r : R α} {k : α → Ph → F} : r.toF e k = tof k e r := nr rfl
theorem tof_ok {k : α → Ph → F} {a : α} : tof k e (R.ok a h) = k a h := nr rfl
def FT (k : Pe → Ph → F) : Type := F
def sqn (k : Pe → Ph → F) (r : FT k) : F := F.seq r k
theorem F.seq_sqn {r : F} {k : Pe → Ph → F} : r.seq k = sqn k r := nr rfl
theorem sqn_nx {k : Pe → Ph → F} : sqn k (F.nx e h) = k e h := nr rfl
theorem sqn_ret {k : Pe → Ph → F} {d : D} : sqn k (F.ret d h) = F.ret d h := nr rfl
theorem sqn_cnt {k : Pe → Ph → F} : sqn k (F.cnt e h) = F.cnt e h := nr rfl
theorem sqn_brk {k : Pe → Ph → F} : sqn k (F.brk e h) = F.brk e h := nr rfl
def trn (k : Pe → Ph → F) (r : FT k) : F := F.turn r k
theorem F.turn_trn {r : F} {k : Pe → Ph → F} : r.turn k = trn k r := nr rfl
theorem trn_nx {k : Pe → Ph → F} : trn k (F.nx e h) = k e h := nr rfl
theorem trn_ret {k : Pe → Ph → F} {d : D} : trn k (F.ret d h) = F.ret d h := nr rfl
theorem trn_cnt {k : Pe → Ph → F} : trn k (F.cnt e h) = k e h := nr rfl
theorem trn_brk {k : Pe → Ph → F} : trn k (F.brk e h) = F.nx e h := nr rfl
theorem g1_ap {g : D → Ph → R D} {a : D} : g1 g [a] h = g a h := nr rfl
theorem g2_ap {g : D → D → Ph → R D} {a b : D} : g2 g [a, b] h = g a b h := nr rfl
end
theorem sVar_ap {i : Nat} {e : Pe} {h : Ph} : sVar i e h = (match e[i]? with
  | some (some d) => .ok d h
  | _ => .bad) := nr rfl
theorem sC_ap {d : D} {v0 : Pe} {h : Ph} : sC d v0 h = (.ok d h) := nr rfl
theorem sBin_ap {g : D → D → Ph → R D} {fa fb : SE} {e : Pe} {h : Ph} : sBin g fa fb e h = ((fa e h).bind fun a h1 => (fb e h1).bind fun b h2 => g a b h2) := nr rfl
theorem sNeg_ap {f : SE} {e : Pe} {h : Ph} : sNeg f e h = ((f e h).bind fun a h1 => match a with
  | .int i => .ok (.int (-i)) h1
  | _ => .bad) := nr rfl
theorem sAnd_ap {fa fb : SE} {e : Pe} {h : Ph} : sAnd fa fb e h = ((fa e h).bind fun a h1 => a.br (fb e h1) (.ok (.bl false) h1)) := nr rfl
theorem sOr_ap {fa fb : SE} {e : Pe} {h : Ph} : sOr fa fb e h = ((fa e h).bind fun a h1 => a.br (.ok (.bl true) h1) (fb e h1)) := nr rfl
theorem sNot_ap {fa : SE} {e : Pe} {h : Ph} : sNot fa e h = ((fa e h).bind fun a h1 => a.neg h1) := nr rfl
theorem sIf_ap {c : ST} {fa fb : SE} {e : Pe} {h : Ph} : sIf c fa fb e h = ((c e h).bind fun b h1 => br b (fa e h1) (fb e h1)) := nr rfl
theorem sTst_ap {f : SE} {e : Pe} {h : Ph} : sTst f e h = ((f e h).bind fun a h1 => a.tst h1) := nr rfl
theorem qAnd_ap {fa fb : ST} {e : Pe} {h : Ph} : qAnd fa fb e h = ((fa e h).bind fun a h1 => br a (fb e h1) (.ok false h1)) := nr rfl
theorem qOr_ap {fa fb : ST} {e : Pe} {h : Ph} : qOr fa fb e h = ((fa e h).bind fun a h1 => br a (.ok true h1) (fb e h1)) := nr rfl
theorem qNot_ap {fa : ST} {e : Pe} {h : Ph} : qNot fa e h = ((fa e h).bind fun a h1 => .ok (!a) h1) := nr rfl
theorem qYes_ap {v0 : Pe} {h : Ph} : qYes  v0 h = (.ok true h) := nr rfl
theorem sChain_ap {g g' : D → D → Ph → R D} {fa fb fc : SE} {e : Pe} {h : Ph} : sChain g g' fa fb fc e h = ((fa e h).bind fun a h1 => (fb e h1).bind fun b h2 => (g a b h2).bind fun z h3 => z.br ((fc e h3).bind fun c h4 => g' b c h4) (.ok (.bl false) h3)) := nr rfl
theorem sChain3_ap {g g' g'' : D → D → Ph → R D} {fa fb fc fd : SE} {e : Pe} {h : Ph} : sChain3 g g' g'' fa fb fc fd e h = ((fa e h).bind fun a h1 => (fb e h1).bind fun b h2 => (g a b h2).bind fun z h3 => z.br ((fc e h3).bind fun c h4 => (g' b c h4).bind fun z' h5 => z'.br ((fd e h5).bind fun d h6 => g'' c d h6) (.ok (.bl false) h5)) (.ok (.bl false) h3)) := nr rfl
theorem sNil_ap {v0 : Pe} {h : Ph} : sNil  v0 h = (.ok [] h) := nr rfl
theorem sCons_ap {f : SE} {g : SA} {e : Pe} {h : Ph} : sCons f g e h = ((f e h).bind fun a h1 => (g e h1).bind fun r h2 => .ok (a :: r) h2) := nr rfl
theorem sTup_ap {f : SA} {e : Pe} {h : Ph} : sTup f e h = ((f e h).bind fun xs h1 => if xs.length ≤ mostL then .ok (.tup xs) h1 else .bad) := nr rfl
theorem sLst_ap {f : SA} {e : Pe} {h : Ph} : sLst f e h = ((f e h).bind fun xs h1 => if xs.length ≤ mostL then .ok (.lst xs) h1 else .bad) := nr rfl
theorem sLstM_ap {f : SA} {e : Pe} {h : Ph} : sLstM f e h = ((f e h).bind fun xs h1 => if xs.length ≤ mostL then .ok (.ref h1.length) (h1 ++ [.lst xs]) else .bad) := nr rfl
theorem sCall_ap {g : List D → Ph → R D} {f : SA} {e : Pe} {h : Ph} : sCall g f e h = ((f e h).bind fun as h1 => g as h1) := nr rfl
theorem sFn_ap {fn : Fn} {f : SA} {e : Pe} {h : Ph} : sFn fn f e h = ((f e h).bind fun as h1 => fn as h1) := nr rfl
theorem sAsg_ap {f : SE} {g : SG} {e : Pe} {h : Ph} : sAsg f g e h = ((f e h).toF e fun x h1 => (g x e h1).toG) := nr rfl
theorem gNm_ap {i : Nat} {x : D} {e : Pe} {h : Ph} : gNm i x e h = (.ok (e.set i (some x)) h) := nr rfl
theorem gTp_ap {n : Nat} {gs : SGs} {x : D} {e : Pe} {h : Ph} : gTp n gs x e h = (match x with
  | .tup xs => if xs.length = n then gs xs e h else .bad
  | _ => .bad) := nr rfl
theorem gConsS_ap {g : SG} {gs : SGs} {xs : List D} {e : Pe} {h : Ph} : gConsS g gs xs e h = (match xs with
  | x :: r => (g x e h).bind fun e1 h1 => gs r e1 h1
  | [] => .bad) := nr rfl
theorem gNilS_ap {xs : List D} {e : Pe} {h : Ph} : gNilS  xs e h = (match xs with
  | [] => .ok e h
  | _ => .bad) := nr rfl
theorem sPar_ap {i j : Nat} {f : SA} {e : Pe} {h : Ph} : sPar i j f e h = ((f e h).toF e fun xs h1 => match xs with
  | [x, y] => .nx ((e.set i (some x)).set j (some y)) h1
  | _ => .bad) := nr rfl
theorem sPar3_ap {i j l : Nat} {f : SA} {e : Pe} {h : Ph} : sPar3 i j l f e h = ((f e h).toF e fun xs h1 => match xs with
  | [x, y, z] => .nx (((e.set i (some x)).set j (some y)).set l (some z)) h1
  | _ => .bad) := nr rfl
theorem sRet_ap {f : SE} {e : Pe} {h : Ph} : sRet f e h = ((f e h).toF e fun x h1 => .ret x h1) := nr rfl
theorem sRetN_ap {v0 : Pe} {h : Ph} : sRetN  v0 h = (.ret .non h) := nr rfl
theorem sNx_ap {e : Pe} {h : Ph} : sNx  e h = (.nx e h) := nr rfl
theorem sBrk_ap {e : Pe} {h : Ph} : sBrk  e h = (.brk e h) := nr rfl
theorem sCnt_ap {e : Pe} {h : Ph} : sCnt  e h = (.cnt e h) := nr rfl
theorem sSeq_ap {f g : SS} {e : Pe} {h : Ph} : sSeq f g e h = ((f e h).seq g) := nr rfl
theorem sIte_ap {c : ST} {f g : SS} {e : Pe} {h : Ph} : sIte c f g e h = ((c e h).toF e fun b h1 => br b (f e h1) (g e h1)) := nr rfl
theorem sDrop_ap {f : SE} {e : Pe} {h : Ph} : sDrop f e h = ((f e h).toF e fun _ h1 => .nx e h1) := nr rfl
theorem sFrz_ap {f : SE} {e : Pe} {h : Ph} : sFrz f e h = ((f e h).bind fun d h1 => .ok (frzD d h1).1 (frzD d h1).2) := nr rfl
theorem sAug_ap {i : Nat} {g : D → D → Ph → R D} {f : SE} {e : Pe} {h : Ph} : sAug i g f e h = (match e[i]? with
  | some (some a) => (f e h).toF e fun b h1 => (g a b h1).toF e fun c h2 => .nx (e.set i (some c)) h2
  | _ => .bad) := nr rfl
theorem iRange1_ap {f : SA} {e : Pe} {h : Ph} : iRange1 f e h = ((f e h).bind fun as h1 => match as with
  | [.int n] => if -(2 ^ 62) ≤ n ∧ n < 2 ^ 62 then .ok (rangeD 0 n.toNat) h1 else .bad
  | _ => .bad) := nr rfl
theorem iRange2_ap {f : SA} {e : Pe} {h : Ph} : iRange2 f e h = ((f e h).bind fun as h1 => match as with
  | [.int m, .int n] => if -(2 ^ 62) ≤ m ∧ m < 2 ^ 62 ∧ -(2 ^ 62) ≤ n ∧ n < 2 ^ 62 then .ok (rangeD m (n - m).toNat) h1 else .bad
  | _ => .bad) := nr rfl
theorem iSeq_ap {f : SE} {e : Pe} {h : Ph} : iSeq f e h = ((f e h).bind fun a h1 => match a with
  | .lst xs => .ok xs h1
  | .seq xs => .ok xs h1
  | .tup xs => .ok xs h1
  | _ => .bad) := nr rfl
theorem sFor_ap {it : SIt} {g : SG} {f : SS} {e : Pe} {h : Ph} : sFor it g f e h = ((it e h).toF e fun xs h1 => forGo g f xs e h1) := nr rfl
theorem sLc_ap {it : SIt} {g : SG} {tt : ST} {te : SE} {vs : List Nat} {e : Pe} {h : Ph} : sLc it g tt te vs e h = ((it e h).bind fun xs h1 => if xs.length ≤ mostL then (compGo g tt te xs (wipeD e vs) h1).bd fun ys h2 => .ok (.lst ys) h2 else .bad) := nr rfl
theorem sSetL_ap {f fo fi : SE} {e : Pe} {h : Ph} : sSetL f fo fi e h = ((f e h).toF e fun x h1 => (fo e h1).toF e fun o h2 => (fi e h2).toF e fun i h3 => match setIx o i x h3 with
  | .ok _ h4 => .nx e h4
  | _ => .bad) := nr rfl
theorem sMeth1_ap {g : D → D → Ph → R D} {fo : SE} {fa : SE} {e : Pe} {h : Ph} : sMeth1 g fo fa e h = ((fo e h).bind fun o h1 => R.opt (lsOf o h1) fun _ => (fa e h1).bind fun a h2 => g o a h2) := nr rfl
theorem sDict0_ap {v0 : Pe} {h : Ph} : sDict0  v0 h = (.ok (.ref h.length) (h ++ [.dK []])) := nr rfl
theorem sSl_ap {g : D → Option Int → Option Int → Ph → R D} {f : SE} {lo hi : ScO} {e : Pe} {h : Ph} : sSl g f lo hi e h = ((f e h).bind fun a h1 => (lo e h1).bind fun l h2 => (hi e h2).bind fun u h3 => g a l u h3) := nr rfl
theorem sRev_ap {f : SE} {e : Pe} {h : Ph} : sRev f e h = ((f e h).bind fun a h1 => dRev a h1) := nr rfl
theorem oNo_ap {v0 : Pe} {h : Ph} : oNo  v0 h = (.ok none h) := nr rfl
theorem oPart_ap {f : SE} {e : Pe} {h : Ph} : oPart f e h = ((f e h).bind fun a h1 => match a with
  | .int i => .ok (some i) h1
  | _ => .bad) := nr rfl
theorem iZipS_ap {f : SA} {e : Pe} {h : Ph} : iZipS f e h = ((f e h).bind fun as h1 => match as with
  | [.tup xs, .tup ys] => .ok (zipD xs ys) h1
  | [a, b] => R.opt (lq a) fun xs => R.opt (lq b) fun ys => .ok (zipD xs ys) h1
  | _ => .bad) := nr rfl
theorem runDef_ap {n : Nat} {body : SS} {as : List D} {h : Ph} : runDef n body as h = ((body (as.map some ++ List.replicate (n - as.length) none) h).end) := nr rfl
end Pd

/-! Pe: how meanings are reckoned -/
namespace Pd
open PySem L2 Evl
section
variable {α β : Type} {a : α} {h : Ph} {e : Pe}
theorem R.bind_ok {k : α → Ph → R β} : (R.ok a h).bind k = k a h := nr rfl
theorem R.bd_ok {k : α → Ph → R β} : (R.ok a h).bd k = k a h := nr rfl
theorem R.toF_ok {k : α → Ph → F} : (R.ok a h).toF e k = k a h := nr rfl
theorem R.toG_ok : (R.ok e h).toG = .nx e h := nr rfl
theorem F.seq_nx {k : Pe → Ph → F} : (F.nx e h).seq k = k e h := nr rfl
theorem F.seq_ret {d : D} {k : Pe → Ph → F} : (F.ret d h).seq k = .ret d h := nr rfl
theorem F.seq_cnt {k : Pe → Ph → F} : (F.cnt e h).seq k = .cnt e h := nr rfl
theorem F.seq_brk {k : Pe → Ph → F} : (F.brk e h).seq k = .brk e h := nr rfl
theorem F.end_nx : (F.nx e h).end = .ok .non h := nr rfl
theorem F.end_ret {d : D} : (F.ret d h).end = .ok d h := nr rfl
theorem F.turn_nx {k : Pe → Ph → F} : (F.nx e h).turn k = k e h := nr rfl
theorem F.turn_cnt {k : Pe → Ph → F} : (F.cnt e h).turn k = k e h := nr rfl
theorem F.turn_brk {k : Pe → Ph → F} : (F.brk e h).turn k = .nx e h := nr rfl
theorem F.turn_ret {d : D} {k : Pe → Ph → F} : (F.ret d h).turn k = .ret d h := nr rfl
theorem br_true {x y : α} : br true x y = x := nr rfl
theorem br_false {x y : α} : br false x y = y := nr rfl
theorem Dbr {b : Bool} {x y : R α} : (D.bl b).br x y = Pd.br b x y := nr rfl
theorem Dneg {b : Bool} : (D.bl b).neg h = .ok (.bl (!b)) h := nr rfl
theorem Dtst {b : Bool} : (D.bl b).tst h = .ok b h := nr rfl
/-- a branch by a proposition -/
theorem br_dec {p : Prop} [Decidable p] {x y : α} : br (decide p) x y = if p then x else y := by
  by_cases hp : p
  · rw [if_pos hp, decide_eq_true hp]; rfl
  · rw [if_neg hp, decide_eq_false hp]; rfl
theorem br_app {b : Bool} {x y : α} {f : α → β} : f (br b x y) = br b (f x) (f y) := by cases b <;> rfl
theorem br_bind {b : Bool} {x y : R α} {k : α → Ph → R β} : (br b x y).bind k = br b (x.bind k) (y.bind k) := by cases b <;> rfl
theorem br_toF {b : Bool} {x y : R α} {k : α → Ph → F} : (br b x y).toF e k = br b (x.toF e k) (y.toF e k) := by cases b <;> rfl
theorem br_seq {b : Bool} {x y : F} {k : Pe → Ph → F} : (br b x y).seq k = br b (x.seq k) (y.seq k) := by cases b <;> rfl
theorem br_end {b : Bool} {x y : F} : (br b x y).end = br b x.end y.end := by cases b <;> rfl
/-- a branch as simp likes it: the condition first -/
theorem br_ite {b : Bool} {x y : α} : br b x y = if b = true then x else y := by cases b <;> rfl
theorem it_bl {p : Prop} [Decidable p] {x y : Bool} : (if p then R.ok (D.bl x) h else R.ok (D.bl y) h) = R.ok (D.bl (if p then x else y)) h := by split <;> rfl
theorem it_okT {p : Prop} [Decidable p] {x y : Bool} : (if p then R.ok x h else R.ok y h) = R.ok (if p then x else y) h := by split <;> rfl
theorem it_tf {b : Bool} : (if b = true then true else false) = b := by cases b <;> rfl
theorem it_and {b x : Bool} : (if b = true then x else false) = (b && x) := by cases b <;> rfl
theorem it_or {b x : Bool} : (if b = true then true else x) = (b || x) := by cases b <;> rfl
/-- two truths that meet in one value -/
theorem br_bl {b x y : Bool} : br b (R.ok (D.bl x) h) (R.ok (D.bl y) h) = R.ok (D.bl (br b x y)) h := by cases b <;> rfl
theorem br_tf {b : Bool} : br b true false = b := by cases b <;> rfl
theorem br_and {b x : Bool} : br b x false = (b && x) := by cases b <;> rfl
theorem br_or {b x : Bool} : br b true x = (b || x) := by cases b <;> rfl
theorem br_okT {b x y : Bool} : br b (R.ok x h) (R.ok y h) = R.ok (br b x y) h := by cases b <;> rfl
end
/-! ### sizes -/
/-- fewer than k bits -/
structure Sm (k : Nat) (x : Int) : Prop where
  lt : x.natAbs < 2 ^ k
theorem Sm.mono {j k : Nat} {x : Int} (s : Sm j x) (h : j ≤ k) : Sm k x := ⟨Nat.lt_of_lt_of_le s.lt (Nat.pow_le_pow_right (by decide) h)⟩
theorem Sm.add {a b : Nat} {x y : Int} (s : Sm a x) (t : Sm b y) : Sm (a + b + 1) (x + y) := ⟨by
  have h1 := s.lt
  have h2 := t.lt
  have h3 : (2 : Nat) ^ a ≤ 2 ^ (a + b) := Nat.pow_le_pow_right (by decide) (by omega)
  have h4 : (2 : Nat) ^ b ≤ 2 ^ (a + b) := Nat.pow_le_pow_right (by decide) (by omega)
  have h5 : (2 : Nat) ^ (a + b + 1) = 2 * 2 ^ (a + b) := by rw [Nat.pow_succ]; omega
  omega⟩
theorem Sm.sub {a b : Nat} {x y : Int} (s : Sm a x) (t : Sm b y) : Sm (a + b + 1) (x - y) := ⟨by
  have h1 := s.lt
  have h2 := t.lt
  have h3 : (2 : Nat) ^ a ≤ 2 ^ (a + b) := Nat.pow_le_pow_right (by decide) (by omega)
  have h4 : (2 : Nat) ^ b ≤ 2 ^ (a + b) := Nat.pow_le_pow_right (by decide) (by omega)
  have h5 : (2 : Nat) ^ (a + b + 1) = 2 * 2 ^ (a + b) := by rw [Nat.pow_succ]; omega
  omega⟩
theorem Sm.neg {a : Nat} {x : Int} (s : Sm a x) : Sm a (-x) := ⟨by rw [Int.natAbs_neg]; exact s.lt⟩
theorem Sm.mul {a b : Nat} {x y : Int} (s : Sm a x) (t : Sm b y) : Sm (a + b) (x * y) := ⟨by
  rw [Int.natAbs_mul, Nat.pow_add]
  exact Nat.mul_lt_mul'' s.lt t.lt⟩
theorem log_lt {x k : Nat} (h : x < 2 ^ k) : x.log2 ≤ k := by
  by_cases h0 : x = 0
  · subst h0; simp
  · exact Nat.le_of_lt ((Nat.log2_lt h0).mpr h)
/-- a number as it is written -/
theorem Sm.lit {n : Nat} : Sm (n.log2 + 1) (@OfNat.ofNat Int n (@instOfNat n)) := ⟨by
  show ((n : Nat) : Int).natAbs < 2 ^ (n.log2 + 1)
  exact Nat.lt_log2_self⟩
theorem Sm.mod {a : Nat} {x y : Int} (h : 0 < y) (t : Sm a y) : Sm a (x % y) := ⟨by
  have h1 := t.lt
  have h2 := Int.emod_nonneg x (Int.ne_of_gt h)
  have h3 := Int.emod_lt_of_pos x h
  omega⟩
theorem Sm.of_bounds {a : Nat} {x : Int} (h1 : -(2 ^ a : Nat) < x) (h2 : x < (2 ^ a : Nat)) : Sm a x := ⟨by omega⟩
/-- a product that may be reckoned -/
def CM (i j : Int) : Prop := i.natAbs < 18446744073709551616 ∨ j.natAbs < 18446744073709551616 ∨ i.natAbs.log2 + j.natAbs.log2 < 1000000
theorem CM.of {i j : Int} {a b : Nat} (s : Sm a i) (t : Sm b j) (h : a + b < 1000000) : CM i j := by
  have h1 := log_lt s.lt
  have h2 := log_lt t.lt
  exact .inr (.inr (by omega))
theorem CM.left {i j : Int} (h : i.natAbs < 18446744073709551616) : CM i j := .inl h
theorem CM.right {i j : Int} (h : j.natAbs < 18446744073709551616) : CM i j := .inr (.inl h)
theorem dMul_cm {i j : Int} {h : Ph} (hs : CM i j) : dMul (.int i) (.int j) h = .ok (.int (i * j)) h := if_pos (c := i.natAbs < 18446744073709551616 ∨ j.natAbs < 18446744073709551616 ∨ i.natAbs.log2 + j.natAbs.log2 < 1000000) hs
theorem dAdd_int {i j : Int} {h : Ph} : dAdd (.int i) (.int j) h = .ok (.int (i + j)) h := rfl
theorem dSub_int {i j : Int} {h : Ph} : dSub (.int i) (.int j) h = .ok (.int (i - j)) h := rfl
theorem dLt_int {i j : Int} {h : Ph} : dLt (.int i) (.int j) h = .ok (.bl (decide (i < j))) h := rfl
theorem dLe_int {i j : Int} {h : Ph} : dLe (.int i) (.int j) h = .ok (.bl (decide (i ≤ j))) h := rfl
theorem dGt_int {i j : Int} {h : Ph} : dGt (.int i) (.int j) h = .ok (.bl (decide (j < i))) h := rfl
theorem dGe_int {i j : Int} {h : Ph} : dGe (.int i) (.int j) h = .ok (.bl (decide (j ≤ i))) h := rfl
theorem dMod_pos {i j : Int} {h : Ph} (hj : 0 < j) : dMod (.int i) (.int j) h = .ok (.int (i % j)) h := by
  show (if 0 < j then _ else _) = _
  rw [if_pos hj]
theorem dDiv_pos {i j : Int} {h : Ph} (hj : 0 < j) (hb : j.natAbs.log2 < 9000) : dDiv (.int i) (.int j) h = .ok (.int (i / j)) h := by
  show (if 0 < j then (if j.natAbs.log2 < 9000 then _ else _) else _) = _
  rw [if_pos hj, if_pos hb]
theorem shaped_int {i : Int} : SeqAt.shaped (.int i) = true := rfl
theorem shaped_bool {i : Bool} : SeqAt.shaped (.bool i) = true := rfl
theorem dEq_int {i j : Int} {h : Ph} : dEq (.int i) (.int j) h = .ok (.bl (i == j)) h := rfl
theorem dNe_int {i j : Int} {h : Ph} : dNe (.int i) (.int j) h = .ok (.bl (!(i == j))) h := rfl
theorem dEq_bl {i j : Bool} {h : Ph} : dEq (.bl i) (.bl j) h = .ok (.bl (i == j)) h := rfl
theorem dNe_bl {i j : Bool} {h : Ph} : dNe (.bl i) (.bl j) h = .ok (.bl (!(i == j))) h := rfl
theorem dNe_non {i : D} {h : Ph} : dIs i .non h = .ok (.bl i.isNon) h := rfl
theorem sVar_at {i : Nat} {d : D} {e : Pe} {h : Ph} (he : e[i]? = some (some d)) : sVar i e h = .ok d h := by
  unfold sVar
  rw [he]
theorem opt_some {α γ : Type} (x : γ) (f : γ → R α) : R.opt (some x) f = f x := rfl
theorem dAbs_int {i : Int} {h : Ph} : dAbs (.int i) h = .ok (.int (if i < 0 then -i else i)) h := nr rfl
theorem dMax2_int {i j : Int} {h : Ph} : dMax2 (.int i) (.int j) h = .ok (.int (if j > i then j else i)) h := nr rfl
theorem dMin2_int {i j : Int} {h : Ph} : dMin2 (.int i) (.int j) h = .ok (.int (if j < i then j else i)) h := nr rfl
theorem dInt_int {i : Int} {h : Ph} : dInt (.int i) h = .ok (.int i) h := nr rfl
theorem dInt_bl {i : Bool} {h : Ph} : dInt (.bl i) h = .ok (.int (if i then 1 else 0)) h := nr rfl
end Pd

/-! Pl: the helpers that the laws have in common -/
namespace Pd
open PySem L2 Evl
local macro_rules | `(tactic| walk_at "sm") => `(tactic| first | assumption | exact Sm.lit | exact Sm.mul (by walk_at "sm") (by walk_at "sm") | exact Sm.add (by walk_at "sm") (by walk_at "sm") | exact Sm.sub (by walk_at "sm") (by walk_at "sm") | exact Sm.neg (by walk_at "sm"))
local macro_rules | `(tactic| walk_at "cm") => `(tactic| ((with_reducible show CM _ _); first | assumption | exact CM.left (by decide) | exact CM.right (by decide) | exact CM.left (by omega) | exact CM.right (by omega) | exact CM.of (by walk_at "sm") (by walk_at "sm") (by decide)))
theorem mostL_def : mostL = 16777216 := rfl
theorem dIx_tup {xs : List D} {i : Int} {h : Ph} : dIx (.tup xs) (.int i) h = R.opt (atI xs i) fun v => .ok v h := rfl
theorem dIx_lst {xs : List D} {i : Int} {h : Ph} : dIx (.lst xs) (.int i) h = R.opt (atI xs i) fun v => .ok v h := rfl
theorem dIx_seq {xs : List D} {i : Int} {h : Ph} : dIx (.seq xs) (.int i) h = R.opt (atI xs i) fun v => .ok v h := rfl
theorem dIx_ref {xs : List D} {i : Int} {n : Nat} {h : Ph} (e : h[n]? = some (.lst xs)) : dIx (.ref n) (.int i) h = R.opt (atI xs i) fun v => .ok v h := by
  show R.opt (lstOf (.ref n) h) _ = _
  unfold lstOf
  simp only [e]
  rfl
theorem dLen_tup {xs : List D} {h : Ph} : dLen (.tup xs) h = .ok (.int xs.length) h := rfl
theorem dLen_lst {xs : List D} {h : Ph} : dLen (.lst xs) h = .ok (.int xs.length) h := rfl
theorem dLen_seq {xs : List D} {h : Ph} : dLen (.seq xs) h = .ok (.int xs.length) h := rfl
theorem atI_k {α : Type} {xs : List α} {v : α} (k : Nat) (e : xs[k]? = some v) : atI xs (k : Int) = some v := atI_nat e
theorem atI_0 {α : Type} {a : α} {r : List α} : atI (a :: r) 0 = some a := atI_nat (j := 0) rfl
theorem atI_1 {α : Type} {a b : α} {r : List α} : atI (a :: b :: r) 1 = some b := atI_nat (j := 1) rfl
theorem atI_2 {α : Type} {a b c : α} {r : List α} : atI (a :: b :: c :: r) 2 = some c := atI_nat (j := 2) rfl
theorem atI_3 {α : Type} {a b c d : α} {r : List α} : atI (a :: b :: c :: d :: r) 3 = some d := atI_nat (j := 3) rfl
theorem setIx_ref {xs : List D} {i : Int} {j : Nat} {n : Nat} {h : Ph} {x : D} (e : h[n]? = some (.lst xs)) (hj : ixN xs.length i = some j) : setIx (.ref n) (.int i) x h = .ok () (h.set n (.lst (xs.set j x))) := by
  unfold setIx
  simp only [e, hj]
/-! ### dice -/
def f__law_dice : Fn := runDef 4 (sSeq (sAsg (sIf (sTst (sBin dLt (sVar 1) (sCall (g1 dLen) (sCons (sVar 0) (sNil))))) (sCall (g1 dInt) (sCons (sBin dIx (sVar 0) (sVar 1)) (sNil))) (sBin dAdd (sBin dMul (sC (.int 71)) (sVar 1)) (sC (.int 23)))) (gNm 2)) (sSeq (sAsg (sBin dMod (sCall (g2 dMax2) (sCons (sC (.int 0)) (sCons (sBin dSub (sCall (g1 dAbs) (sCons (sVar 2) (sNil))) (sC (.int (100000000000000000)))) (sNil)))) (sC (.int (100000000000000000000000000000000000000000000000000000000000000000000000000000000000000000000000000000000000000000000000)))) (gNm 3)) (sRet (sLstM (sCons (sVar 3) (sCons (sBin dAdd (sBin dAdd (sBin dAdd (sBin dMul (sBin dMod (sCall (g1 dAbs) (sCons (sVar 2) (sNil))) (sC (.int 1152921504606846883))) (sC (.int 61))) (sBin dMul (sC (.int 877)) (sVar 1))) (sBin dMul (sC (.int 37)) (sCall (g1 dInt) (sCons (sBin dLt (sVar 2) (sC (.int 0))) (sNil))))) (sC (.int 5))) (sCons (sC (.int 0)) (sNil))))))))
def f__law_roll : Fn := runDef 5 (sSeq (sIte (sTst (sBin dGt (sBin dIx (sVar 0) (sC (.int 0))) (sC (.int 0)))) (sSeq (sAsg (sBin dMod (sCall (g1 dInt) (sCons (sBin dIx (sVar 0) (sC (.int 0))) (sNil))) (sVar 1)) (gNm 4)) (sSeq (sSetL (sBin dDiv (sBin dIx (sVar 0) (sC (.int 0))) (sVar 1)) (sVar 0) (sC (.int 0))) (sRet (sVar 4)))) (sNx)) (sSeq (sSetL (sBin dAdd (sBin dIx (sVar 0) (sC (.int 2))) (sC (.int 1))) (sVar 0) (sC (.int 2))) (sSeq (sAsg (sBin dMod (sCall (g1 dInt) (sCons (sBin dAdd (sBin dIx (sVar 0) (sC (.int 1))) (sBin dMul (sC (.int 49979687)) (sBin dIx (sVar 0) (sC (.int 2))))) (sNil))) (sC (.int 2305843009213693921))) (gNm 2)) (sSeq (sAsg (sBin dAdd (sBin dMul (sBin dMod (sCall (g1 dInt) (sCons (sBin dAdd (sBin dMul (sVar 2) (sVar 2)) (sBin dMul (sC (.int 131)) (sBin dIx (sVar 0) (sC (.int 2))))) (sNil))) (sC (.int 2305843009213693907))) (sC (.int 7778777))) (sVar 2)) (gNm 3)) (sRet (sBin dMod (sCall (g1 dInt) (sCons (sBin dDiv (sVar 3) (sC (.int 131072))) (sNil))) (sVar 1)))))))
def f__law_pick : Fn := runDef 2 (sRet (sBin dIx (sVar 1) (sFn f__law_roll (sCons (sVar 0) (sCons (sCall (g1 dLen) (sCons (sVar 1) (sNil))) (sNil))))))
def f__law_gcd : Fn := runDef 2 (sSeq (sPar 0 1 (sCons (sCall (g1 dAbs) (sCons (sVar 0) (sNil))) (sCons (sCall (g1 dAbs) (sCons (sVar 1) (sNil))) (sNil)))) (sSeq (sWhile FU (sTst (sBin dGt (sVar 1) (sC (.int 0)))) (sPar 0 1 (sCons (sVar 1) (sCons (sBin dMod (sCall (g1 dInt) (sCons (sVar 0) (sNil))) (sVar 1)) (sNil))))) (sRet (sVar 0))))
/-- the dice at n -/
def Dc (h : Ph) (n : Nat) : Prop := ∃ l m t : Int, h[n]? = some (.lst [.int l, .int m, .int t])
/-- only the dice have been used, and new things made -/
structure Dr (n : Nat) (h h' : Ph) : Prop where
  dc : Dc h' n
  len : h.length ≤ h'.length
  keep : ∀ k, k ≠ n → k < h.length → h'[k]? = h[k]?
theorem Dr.refl {n : Nat} {h : Ph} (d : Dc h n) : Dr n h h := ⟨d, Nat.le_refl _, fun _ _ _ => rfl⟩
theorem Dr.trans {n : Nat} {h h1 h2 : Ph} (a : Dr n h h1) (b : Dr n h1 h2) : Dr n h h2 := ⟨b.dc, Nat.le_trans a.len b.len, fun k hk hl => (b.keep k hk (Nat.lt_of_lt_of_le hl a.len)).trans (a.keep k hk hl)⟩
theorem Dr.push {n : Nat} {h h1 : Ph} (a : Dr n h h1) (o : PO) : Dr n h (h1 ++ [o]) := by
  refine ⟨?_, by rw [List.length_append]; have := a.len; omega, fun k hk hl => ?_⟩
  · obtain ⟨l, m, t, e⟩ := a.dc
    exact ⟨l, m, t, by rw [List.getElem?_append_left (List.getElem?_eq_some_iff.mp e).1]; exact e⟩
  · rw [List.getElem?_append_left (Nat.lt_of_lt_of_le hl a.len)]
    exact a.keep k hk hl
theorem Dr.set {n : Nat} {h : Ph} {l m t : Int} (hn : n < h.length) : Dr n h (h.set n (.lst [.int l, .int m, .int t])) :=
  ⟨⟨l, m, t, List.getElem?_set_self hn⟩, by rw [List.length_set]; exact Nat.le_refl _, fun k hk _ => List.getElem?_set_ne (Ne.symm hk)⟩
theorem dice_tail (d : D) (k c : Int) (h : Ph) : ∃ l m, (sSeq (sAsg (sBin dMod (sCall (g2 dMax2) (sCons (sC (.int 0)) (sCons (sBin dSub (sCall (g1 dAbs) (sCons (sVar 2) (sNil))) (sC (.int (100000000000000000)))) (sNil)))) (sC (.int (100000000000000000000000000000000000000000000000000000000000000000000000000000000000000000000000000000000000000000000000)))) (gNm 3)) (sRet (sLstM (sCons (sVar 3) (sCons (sBin dAdd (sBin dAdd (sBin dAdd (sBin dMul (sBin dMod (sCall (g1 dAbs) (sCons (sVar 2) (sNil))) (sC (.int 1152921504606846883))) (sC (.int 61))) (sBin dMul (sC (.int 877)) (sVar 1))) (sBin dMul (sC (.int 37)) (sCall (g1 dInt) (sCons (sBin dLt (sVar 2) (sC (.int 0))) (sNil))))) (sC (.int 5))) (sCons (sC (.int 0)) (sNil))))))) [some d, some (.int k), some (.int c), none] h = .ret (.ref h.length) (h ++ [.lst [.int l, .int m, .int 0]]) := by
  apply Exists.intro
  apply Exists.intro
  simp (maxSteps := 4000000) (dsimp := false) (disch := first | assumption | decide | omega | walk_at "cm") only [runDef_ap, sVar_ap, sC_ap, sBin_ap, sNeg_ap, sAnd_ap, sOr_ap, sNot_ap, sIf_ap, sTst_ap, qAnd_ap, qOr_ap, qNot_ap, qYes_ap, sChain_ap, sChain3_ap, sNil_ap, sCons_ap, sTup_ap, sLst_ap, sLstM_ap, sCall_ap, g1_ap, g2_ap, sFn_ap, sAsg_ap, gNm_ap, gTp_ap, gConsS_ap, gNilS_ap, sPar_ap, sPar3_ap, sRet_ap, sRetN_ap, sNx_ap, sBrk_ap, sCnt_ap, sSeq_ap, sIte_ap, sDrop_ap, sFrz_ap, sAug_ap, iRange1_ap, iRange2_ap, iSeq_ap, sFor_ap, sLc_ap, R.toG_ok, ↓R.bind_bnd, bnd_ok, ↓R.bd_bdn, bdn_ok, ↓R.toF_tof, tof_ok, ↓F.seq_sqn, sqn_nx, sqn_ret, sqn_cnt, sqn_brk, ↓F.turn_trn, trn_nx, trn_ret, trn_cnt, trn_brk, F.end_nx, F.end_ret, ↓br_true, br_true, ↓br_false, br_false, Dbr, Dneg, Dtst, opt_some, dAdd_int, dSub_int, dLt_int, dLe_int, dGt_int, dGe_int, dEq_int, dNe_int, dEq_bl, dNe_bl, dMul_cm, dMod_pos, dDiv_pos, dAbs_int, dMax2_int, dMin2_int, dInt_int, dInt_bl, dIx_tup, dIx_lst, dIx_seq, dLen_tup, dLen_lst, dLen_seq, atI_0, atI_1, atI_2, atI_3, List.map_cons, List.map_nil, List.length_cons, List.length_nil, List.replicate_succ, List.replicate_zero, List.cons_append, List.nil_append, List.getElem?_cons_zero, List.getElem?_cons_succ, List.set_cons_zero, List.set_cons_succ, Nat.reduceAdd, Nat.reduceSub, Nat.zero_add, Nat.add_zero, Nat.sub_self, Nat.reduceMul, mostL_def, Nat.reduceLeDiff, Nat.reduceLT, ite_true, ite_false, if_true, if_false, ↓reduceIte, reduceIte, ↓br_ite, Bool.false_eq_true, reduceCtorEq, Bool.not_true, Bool.not_false, decide_true, decide_false, Int.cast_ofNat_Int, Int.reduceBEq, Int.reduceAdd, Int.reduceSub, Int.reduceMul, Int.reduceNeg, Int.reduceLT, Int.reduceLE, Int.reduceMod, Int.reduceDiv, sMeth1_ap, sSl_ap, sRev_ap, oNo_ap, oPart_ap, sDict0_ap, sSetL_ap]
  rfl
theorem dice_ok (ns : List Int) (k : Int) (hk : 0 ≤ k) (h : Ph) : ∃ l m, f__law_dice [.seq (ns.map D.int), .int k] h = .ok (.ref h.length) (h ++ [.lst [.int l, .int m, .int 0]]) := by
  have hc : ∃ c : Int, (sIf (sTst (sBin dLt (sVar 1) (sCall (g1 dLen) (sCons (sVar 0) (sNil))))) (sCall (g1 dInt) (sCons (sBin dIx (sVar 0) (sVar 1)) (sNil))) (sBin dAdd (sBin dMul (sC (.int 71)) (sVar 1)) (sC (.int 23)))) [some (.seq (ns.map D.int)), some (.int k), none, none] h = .ok (.int c) h := by
    obtain ⟨j, rfl⟩ := Int.eq_ofNat_of_zero_le hk
    by_cases hj : j < ns.length
    · have e : atI (ns.map D.int) (j : Int) = some (.int ns[j]) := atI_nat (by rw [List.getElem?_map]; simp [hj])
      have hlt : decide ((j : Int) < ((ns.map D.int).length : Int)) = true := decide_eq_true (by rw [List.length_map]; omega)
      refine ⟨ns[j], ?_⟩
      simp (maxSteps := 4000000) (dsimp := false) (disch := first | assumption | decide | omega | walk_at "cm") only [runDef_ap, sVar_ap, sC_ap, sBin_ap, sNeg_ap, sAnd_ap, sOr_ap, sNot_ap, sIf_ap, sTst_ap, qAnd_ap, qOr_ap, qNot_ap, qYes_ap, sChain_ap, sChain3_ap, sNil_ap, sCons_ap, sTup_ap, sLst_ap, sLstM_ap, sCall_ap, g1_ap, g2_ap, sFn_ap, sAsg_ap, gNm_ap, gTp_ap, gConsS_ap, gNilS_ap, sPar_ap, sPar3_ap, sRet_ap, sRetN_ap, sNx_ap, sBrk_ap, sCnt_ap, sSeq_ap, sIte_ap, sDrop_ap, sFrz_ap, sAug_ap, iRange1_ap, iRange2_ap, iSeq_ap, sFor_ap, sLc_ap, R.toG_ok, ↓R.bind_bnd, bnd_ok, ↓R.bd_bdn, bdn_ok, ↓R.toF_tof, tof_ok, ↓F.seq_sqn, sqn_nx, sqn_ret, sqn_cnt, sqn_brk, ↓F.turn_trn, trn_nx, trn_ret, trn_cnt, trn_brk, F.end_nx, F.end_ret, ↓br_true, br_true, ↓br_false, br_false, Dbr, Dneg, Dtst, opt_some, dAdd_int, dSub_int, dLt_int, dLe_int, dGt_int, dGe_int, dEq_int, dNe_int, dEq_bl, dNe_bl, dMul_cm, dMod_pos, dDiv_pos, dAbs_int, dMax2_int, dMin2_int, dInt_int, dInt_bl, dIx_tup, dIx_lst, dIx_seq, dLen_tup, dLen_lst, dLen_seq, atI_0, atI_1, atI_2, atI_3, List.map_cons, List.map_nil, List.length_cons, List.length_nil, List.replicate_succ, List.replicate_zero, List.cons_append, List.nil_append, List.getElem?_cons_zero, List.getElem?_cons_succ, List.set_cons_zero, List.set_cons_succ, Nat.reduceAdd, Nat.reduceSub, Nat.zero_add, Nat.add_zero, Nat.sub_self, Nat.reduceMul, mostL_def, Nat.reduceLeDiff, Nat.reduceLT, ite_true, ite_false, if_true, if_false, ↓reduceIte, reduceIte, ↓br_ite, Bool.false_eq_true, reduceCtorEq, Bool.not_true, Bool.not_false, decide_true, decide_false, Int.cast_ofNat_Int, Int.reduceBEq, Int.reduceAdd, Int.reduceSub, Int.reduceMul, Int.reduceNeg, Int.reduceLT, Int.reduceLE, Int.reduceMod, Int.reduceDiv, sMeth1_ap, sSl_ap, sRev_ap, oNo_ap, oPart_ap, sDict0_ap, sSetL_ap, hlt, e]
    · have hlt : decide ((j : Int) < ((ns.map D.int).length : Int)) = false := decide_eq_false (by rw [List.length_map]; omega)
      refine ⟨71 * (j : Int) + 23, ?_⟩
      simp (maxSteps := 4000000) (dsimp := false) (disch := first | assumption | decide | omega | walk_at "cm") only [runDef_ap, sVar_ap, sC_ap, sBin_ap, sNeg_ap, sAnd_ap, sOr_ap, sNot_ap, sIf_ap, sTst_ap, qAnd_ap, qOr_ap, qNot_ap, qYes_ap, sChain_ap, sChain3_ap, sNil_ap, sCons_ap, sTup_ap, sLst_ap, sLstM_ap, sCall_ap, g1_ap, g2_ap, sFn_ap, sAsg_ap, gNm_ap, gTp_ap, gConsS_ap, gNilS_ap, sPar_ap, sPar3_ap, sRet_ap, sRetN_ap, sNx_ap, sBrk_ap, sCnt_ap, sSeq_ap, sIte_ap, sDrop_ap, sFrz_ap, sAug_ap, iRange1_ap, iRange2_ap, iSeq_ap, sFor_ap, sLc_ap, R.toG_ok, ↓R.bind_bnd, bnd_ok, ↓R.bd_bdn, bdn_ok, ↓R.toF_tof, tof_ok, ↓F.seq_sqn, sqn_nx, sqn_ret, sqn_cnt, sqn_brk, ↓F.turn_trn, trn_nx, trn_ret, trn_cnt, trn_brk, F.end_nx, F.end_ret, ↓br_true, br_true, ↓br_false, br_false, Dbr, Dneg, Dtst, opt_some, dAdd_int, dSub_int, dLt_int, dLe_int, dGt_int, dGe_int, dEq_int, dNe_int, dEq_bl, dNe_bl, dMul_cm, dMod_pos, dDiv_pos, dAbs_int, dMax2_int, dMin2_int, dInt_int, dInt_bl, dIx_tup, dIx_lst, dIx_seq, dLen_tup, dLen_lst, dLen_seq, atI_0, atI_1, atI_2, atI_3, List.map_cons, List.map_nil, List.length_cons, List.length_nil, List.replicate_succ, List.replicate_zero, List.cons_append, List.nil_append, List.getElem?_cons_zero, List.getElem?_cons_succ, List.set_cons_zero, List.set_cons_succ, Nat.reduceAdd, Nat.reduceSub, Nat.zero_add, Nat.add_zero, Nat.sub_self, Nat.reduceMul, mostL_def, Nat.reduceLeDiff, Nat.reduceLT, ite_true, ite_false, if_true, if_false, ↓reduceIte, reduceIte, ↓br_ite, Bool.false_eq_true, reduceCtorEq, Bool.not_true, Bool.not_false, decide_true, decide_false, Int.cast_ofNat_Int, Int.reduceBEq, Int.reduceAdd, Int.reduceSub, Int.reduceMul, Int.reduceNeg, Int.reduceLT, Int.reduceLE, Int.reduceMod, Int.reduceDiv, sMeth1_ap, sSl_ap, sRev_ap, oNo_ap, oPart_ap, sDict0_ap, sSetL_ap, hlt]
  obtain ⟨c, hc⟩ := hc
  obtain ⟨l, m, ht⟩ := dice_tail (.seq (ns.map D.int)) k c h
  refine ⟨l, m, ?_⟩
  unfold f__law_dice runDef
  rw [sSeq, sAsg]
  show F.end (F.seq (R.toF (sIf _ _ _ [some (.seq (ns.map D.int)), some (.int k), none, none] h) _ _) _) = _
  rw [hc]
  exact congrArg F.end ht
theorem log_nat {x : Int} {k : Nat} (h : x.natAbs < 2 ^ k) : x.natAbs.log2 ≤ k := log_lt h
theorem roll_ok {h : Ph} {n : Nat} {T : Int} (hd : Dc h n) (hT : 0 < T) (hb : T.natAbs.log2 < 9000) : ∃ v h', f__law_roll [.ref n, .int T] h = .ok (.int v) h' ∧ 0 ≤ v ∧ v < T ∧ Dr n h h' := by
  obtain ⟨l, m, t, e⟩ := hd
  have hn : n < h.length := (List.getElem?_eq_some_iff.mp e).1
  have q := fun i => dIx_ref (i := i) e
  by_cases hl : 0 < l
  · refine ⟨l % T, h.set n (.lst [.int (l / T), .int m, .int t]), ?_, Int.emod_nonneg _ (Int.ne_of_gt hT), Int.emod_lt_of_pos _ hT, Dr.set hn⟩
    have hs : ∀ x, setIx (.ref n) (.int 0) x h = .ok () (h.set n (.lst [x, .int m, .int t])) := fun x => setIx_ref (j := 0) e rfl
    have hl' : decide (0 < l) = true := decide_eq_true hl
    unfold f__law_roll
    simp (maxSteps := 4000000) (dsimp := false) (disch := first | assumption | decide | omega | walk_at "cm") only [runDef_ap, sVar_ap, sC_ap, sBin_ap, sNeg_ap, sAnd_ap, sOr_ap, sNot_ap, sIf_ap, sTst_ap, qAnd_ap, qOr_ap, qNot_ap, qYes_ap, sChain_ap, sChain3_ap, sNil_ap, sCons_ap, sTup_ap, sLst_ap, sLstM_ap, sCall_ap, g1_ap, g2_ap, sFn_ap, sAsg_ap, gNm_ap, gTp_ap, gConsS_ap, gNilS_ap, sPar_ap, sPar3_ap, sRet_ap, sRetN_ap, sNx_ap, sBrk_ap, sCnt_ap, sSeq_ap, sIte_ap, sDrop_ap, sFrz_ap, sAug_ap, iRange1_ap, iRange2_ap, iSeq_ap, sFor_ap, sLc_ap, R.toG_ok, ↓R.bind_bnd, bnd_ok, ↓R.bd_bdn, bdn_ok, ↓R.toF_tof, tof_ok, ↓F.seq_sqn, sqn_nx, sqn_ret, sqn_cnt, sqn_brk, ↓F.turn_trn, trn_nx, trn_ret, trn_cnt, trn_brk, F.end_nx, F.end_ret, ↓br_true, br_true, ↓br_false, br_false, Dbr, Dneg, Dtst, opt_some, dAdd_int, dSub_int, dLt_int, dLe_int, dGt_int, dGe_int, dEq_int, dNe_int, dEq_bl, dNe_bl, dMul_cm, dMod_pos, dDiv_pos, dAbs_int, dMax2_int, dMin2_int, dInt_int, dInt_bl, dIx_tup, dIx_lst, dIx_seq, dLen_tup, dLen_lst, dLen_seq, atI_0, atI_1, atI_2, atI_3, List.map_cons, List.map_nil, List.length_cons, List.length_nil, List.replicate_succ, List.replicate_zero, List.cons_append, List.nil_append, List.getElem?_cons_zero, List.getElem?_cons_succ, List.set_cons_zero, List.set_cons_succ, Nat.reduceAdd, Nat.reduceSub, Nat.zero_add, Nat.add_zero, Nat.sub_self, Nat.reduceMul, mostL_def, Nat.reduceLeDiff, Nat.reduceLT, ite_true, ite_false, if_true, if_false, ↓reduceIte, reduceIte, ↓br_ite, Bool.false_eq_true, reduceCtorEq, Bool.not_true, Bool.not_false, decide_true, decide_false, Int.cast_ofNat_Int, Int.reduceBEq, Int.reduceAdd, Int.reduceSub, Int.reduceMul, Int.reduceNeg, Int.reduceLT, Int.reduceLE, Int.reduceMod, Int.reduceDiv, sMeth1_ap, sSl_ap, sRev_ap, oNo_ap, oPart_ap, sDict0_ap, sSetL_ap, q, hl', sSetL_ap, hs]
  · have hl' : decide (0 < l) = false := decide_eq_false hl
    have e2 : (h.set n (.lst [.int l, .int m, .int (t + 1)]))[n]? = some (.lst [.int l, .int m, .int (t + 1)]) := List.getElem?_set_self hn
    have q2 := fun i => dIx_ref (i := i) e2
    have hs : ∀ x, setIx (.ref n) (.int 2) x h = .ok () (h.set n (.lst [.int l, .int m, x])) := fun x => setIx_ref (j := 2) e rfl
    generalize ho : (m + 49979687 * (t + 1)) % 2305843009213693921 = one
    have ho1 : 0 ≤ one := by omega
    have ho2 : one < 2305843009213693921 := by omega
    have c1 : CM one one := .inl (by omega)
    have c2 : CM ((one * one + 131 * (t + 1)) % 2305843009213693907) 7778777 := CM.right (by decide)
    refine ⟨((one * one + 131 * (t + 1)) % 2305843009213693907 * 7778777 + one) / 131072 % T, h.set n (.lst [.int l, .int m, .int (t + 1)]), ?_, Int.emod_nonneg _ (Int.ne_of_gt hT), Int.emod_lt_of_pos _ hT, Dr.set hn⟩
    unfold f__law_roll
    simp (maxSteps := 4000000) (dsimp := false) (disch := first | assumption | decide | omega | walk_at "cm") only [runDef_ap, sVar_ap, sC_ap, sBin_ap, sNeg_ap, sAnd_ap, sOr_ap, sNot_ap, sIf_ap, sTst_ap, qAnd_ap, qOr_ap, qNot_ap, qYes_ap, sChain_ap, sChain3_ap, sNil_ap, sCons_ap, sTup_ap, sLst_ap, sLstM_ap, sCall_ap, g1_ap, g2_ap, sFn_ap, sAsg_ap, gNm_ap, gTp_ap, gConsS_ap, gNilS_ap, sPar_ap, sPar3_ap, sRet_ap, sRetN_ap, sNx_ap, sBrk_ap, sCnt_ap, sSeq_ap, sIte_ap, sDrop_ap, sFrz_ap, sAug_ap, iRange1_ap, iRange2_ap, iSeq_ap, sFor_ap, sLc_ap, R.toG_ok, ↓R.bind_bnd, bnd_ok, ↓R.bd_bdn, bdn_ok, ↓R.toF_tof, tof_ok, ↓F.seq_sqn, sqn_nx, sqn_ret, sqn_cnt, sqn_brk, ↓F.turn_trn, trn_nx, trn_ret, trn_cnt, trn_brk, F.end_nx, F.end_ret, ↓br_true, br_true, ↓br_false, br_false, Dbr, Dneg, Dtst, opt_some, dAdd_int, dSub_int, dLt_int, dLe_int, dGt_int, dGe_int, dEq_int, dNe_int, dEq_bl, dNe_bl, dMul_cm, dMod_pos, dDiv_pos, dAbs_int, dMax2_int, dMin2_int, dInt_int, dInt_bl, dIx_tup, dIx_lst, dIx_seq, dLen_tup, dLen_lst, dLen_seq, atI_0, atI_1, atI_2, atI_3, List.map_cons, List.map_nil, List.length_cons, List.length_nil, List.replicate_succ, List.replicate_zero, List.cons_append, List.nil_append, List.getElem?_cons_zero, List.getElem?_cons_succ, List.set_cons_zero, List.set_cons_succ, Nat.reduceAdd, Nat.reduceSub, Nat.zero_add, Nat.add_zero, Nat.sub_self, Nat.reduceMul, mostL_def, Nat.reduceLeDiff, Nat.reduceLT, ite_true, ite_false, if_true, if_false, ↓reduceIte, reduceIte, ↓br_ite, Bool.false_eq_true, reduceCtorEq, Bool.not_true, Bool.not_false, decide_true, decide_false, Int.cast_ofNat_Int, Int.reduceBEq, Int.reduceAdd, Int.reduceSub, Int.reduceMul, Int.reduceNeg, Int.reduceLT, Int.reduceLE, Int.reduceMod, Int.reduceDiv, sMeth1_ap, sSl_ap, sRev_ap, oNo_ap, oPart_ap, sDict0_ap, sSetL_ap, q, hl', sSetL_ap, hs, q2, ho, c1, c2]

theorem pick_ok {h : Ph} {n : Nat} {xs : List D} (hd : Dc h n) (h0 : xs ≠ []) (hl : xs.length < 1000000) : ∃ d h', f__law_pick [.ref n, .lst xs] h = .ok d h' ∧ d ∈ xs ∧ Dr n h h' := by
  have hpos : 0 < xs.length := List.length_pos_iff.mpr h0
  obtain ⟨v, h', e, v0, v1, dr⟩ := roll_ok (T := (xs.length : Int)) hd (by omega) (Nat.lt_of_le_of_lt (log_lt (k := 20) (by simp; omega)) (by decide))
  obtain ⟨j, rfl⟩ := Int.eq_ofNat_of_zero_le v0
  have hj : j < xs.length := by omega
  refine ⟨xs[j], h', ?_, List.getElem_mem hj, dr⟩
  have ha : atI xs (j : Int) = some xs[j] := atI_nat (by simp [hj])
  unfold f__law_pick
  simp (maxSteps := 4000000) (dsimp := false) (disch := first | assumption | decide | omega | walk_at "cm") only [runDef_ap, sVar_ap, sC_ap, sBin_ap, sNeg_ap, sAnd_ap, sOr_ap, sNot_ap, sIf_ap, sTst_ap, qAnd_ap, qOr_ap, qNot_ap, qYes_ap, sChain_ap, sChain3_ap, sNil_ap, sCons_ap, sTup_ap, sLst_ap, sLstM_ap, sCall_ap, g1_ap, g2_ap, sFn_ap, sAsg_ap, gNm_ap, gTp_ap, gConsS_ap, gNilS_ap, sPar_ap, sPar3_ap, sRet_ap, sRetN_ap, sNx_ap, sBrk_ap, sCnt_ap, sSeq_ap, sIte_ap, sDrop_ap, sFrz_ap, sAug_ap, iRange1_ap, iRange2_ap, iSeq_ap, sFor_ap, sLc_ap, R.toG_ok, ↓R.bind_bnd, bnd_ok, ↓R.bd_bdn, bdn_ok, ↓R.toF_tof, tof_ok, ↓F.seq_sqn, sqn_nx, sqn_ret, sqn_cnt, sqn_brk, ↓F.turn_trn, trn_nx, trn_ret, trn_cnt, trn_brk, F.end_nx, F.end_ret, ↓br_true, br_true, ↓br_false, br_false, Dbr, Dneg, Dtst, opt_some, dAdd_int, dSub_int, dLt_int, dLe_int, dGt_int, dGe_int, dEq_int, dNe_int, dEq_bl, dNe_bl, dMul_cm, dMod_pos, dDiv_pos, dAbs_int, dMax2_int, dMin2_int, dInt_int, dInt_bl, dIx_tup, dIx_lst, dIx_seq, dLen_tup, dLen_lst, dLen_seq, atI_0, atI_1, atI_2, atI_3, List.map_cons, List.map_nil, List.length_cons, List.length_nil, List.replicate_succ, List.replicate_zero, List.cons_append, List.nil_append, List.getElem?_cons_zero, List.getElem?_cons_succ, List.set_cons_zero, List.set_cons_succ, Nat.reduceAdd, Nat.reduceSub, Nat.zero_add, Nat.add_zero, Nat.sub_self, Nat.reduceMul, mostL_def, Nat.reduceLeDiff, Nat.reduceLT, ite_true, ite_false, if_true, if_false, ↓reduceIte, reduceIte, ↓br_ite, Bool.false_eq_true, reduceCtorEq, Bool.not_true, Bool.not_false, decide_true, decide_false, Int.cast_ofNat_Int, Int.reduceBEq, Int.reduceAdd, Int.reduceSub, Int.reduceMul, Int.reduceNeg, Int.reduceLT, Int.reduceLE, Int.reduceMod, Int.reduceDiv, sMeth1_ap, sSl_ap, sRev_ap, oNo_ap, oPart_ap, sDict0_ap, sSetL_ap, e, ha]
theorem gcd_mod {a b : Int} (ha : 0 ≤ a) (hb : 0 ≤ b) : Int.gcd b (a % b) = Int.gcd a b := by
  obtain ⟨m, rfl⟩ := Int.eq_ofNat_of_zero_le ha
  obtain ⟨n, rfl⟩ := Int.eq_ofNat_of_zero_le hb
  rw [← Int.natCast_emod]
  show Nat.gcd n (m % n) = Nat.gcd m n
  rw [Nat.gcd_comm m n, Nat.gcd_rec n m, Nat.gcd_comm]
/-- the common divisor -/
theorem gcd_loop (c : ST) (hc : ∀ (a b : Int) (h : Ph), 0 ≤ a → 0 ≤ b → c [some (.int a), some (.int b)] h = .ok (decide (0 < b)) h)
    (f : SS) (hf : ∀ (a b : Int) (h : Ph), 0 ≤ a → 0 < b → f [some (.int a), some (.int b)] h = .nx [some (.int b), some (.int (a % b))] h) :
    ∀ (k : Nat) (a b : Int) (h : Ph) (N : Nat), 0 ≤ a → 0 ≤ b → b.toNat ≤ k → k < N → sWhile N c f [some (.int a), some (.int b)] h = .nx [some (.int (Int.gcd a b)), some (.int 0)] h := by
  intro k
  induction k with
  | zero =>
    intro a b h N ha hb hk hN
    obtain ⟨N, rfl⟩ : ∃ M, N = M + 1 := ⟨N - 1, by omega⟩
    have : b = 0 := by omega
    subst this
    unfold sWhile
    rw [hc a 0 h ha (by omega), Int.gcd_zero_right]
    show F.nx [some (.int a), some (.int 0)] h = _
    rw [show ((a.natAbs : Nat) : Int) = a by omega]
  | succ k ih =>
    intro a b h N ha hb hk hN
    obtain ⟨N, rfl⟩ : ∃ M, N = M + 1 := ⟨N - 1, by omega⟩
    by_cases h0 : b = 0
    · subst h0
      unfold sWhile
      rw [hc a 0 h ha (by omega), Int.gcd_zero_right]
      show F.nx [some (.int a), some (.int 0)] h = _
      rw [show ((a.natAbs : Nat) : Int) = a by omega]
    · have hb0 : 0 < b := by omega
      unfold sWhile
      rw [hc a b h ha hb, decide_eq_true hb0]
      show (f [some (.int a), some (.int b)] h).turn _ = _
      rw [hf a b h ha hb0]
      show sWhile N c f [some (.int b), some (.int (a % b))] h = _
      have m0 := Int.emod_nonneg a (Int.ne_of_gt hb0)
      have m1 := Int.emod_lt_of_pos a hb0
      rw [ih b (a % b) h N hb m0 (by omega) (by omega)]
      rw [gcd_mod ha hb]
theorem gcd_cond (a b : Int) (h : Ph) : sTst (sBin dGt (sVar 1) (sC (.int 0))) [some (.int a), some (.int b)] h = .ok (decide (0 < b)) h := by
  simp (maxSteps := 4000000) (dsimp := false) (disch := first | assumption | decide | omega | walk_at "cm") only [runDef_ap, sVar_ap, sC_ap, sBin_ap, sNeg_ap, sAnd_ap, sOr_ap, sNot_ap, sIf_ap, sTst_ap, qAnd_ap, qOr_ap, qNot_ap, qYes_ap, sChain_ap, sChain3_ap, sNil_ap, sCons_ap, sTup_ap, sLst_ap, sLstM_ap, sCall_ap, g1_ap, g2_ap, sFn_ap, sAsg_ap, gNm_ap, gTp_ap, gConsS_ap, gNilS_ap, sPar_ap, sPar3_ap, sRet_ap, sRetN_ap, sNx_ap, sBrk_ap, sCnt_ap, sSeq_ap, sIte_ap, sDrop_ap, sFrz_ap, sAug_ap, iRange1_ap, iRange2_ap, iSeq_ap, sFor_ap, sLc_ap, R.toG_ok, ↓R.bind_bnd, bnd_ok, ↓R.bd_bdn, bdn_ok, ↓R.toF_tof, tof_ok, ↓F.seq_sqn, sqn_nx, sqn_ret, sqn_cnt, sqn_brk, ↓F.turn_trn, trn_nx, trn_ret, trn_cnt, trn_brk, F.end_nx, F.end_ret, ↓br_true, br_true, ↓br_false, br_false, Dbr, Dneg, Dtst, opt_some, dAdd_int, dSub_int, dLt_int, dLe_int, dGt_int, dGe_int, dEq_int, dNe_int, dEq_bl, dNe_bl, dMul_cm, dMod_pos, dDiv_pos, dAbs_int, dMax2_int, dMin2_int, dInt_int, dInt_bl, dIx_tup, dIx_lst, dIx_seq, dLen_tup, dLen_lst, dLen_seq, atI_0, atI_1, atI_2, atI_3, List.map_cons, List.map_nil, List.length_cons, List.length_nil, List.replicate_succ, List.replicate_zero, List.cons_append, List.nil_append, List.getElem?_cons_zero, List.getElem?_cons_succ, List.set_cons_zero, List.set_cons_succ, Nat.reduceAdd, Nat.reduceSub, Nat.zero_add, Nat.add_zero, Nat.sub_self, Nat.reduceMul, mostL_def, Nat.reduceLeDiff, Nat.reduceLT, ite_true, ite_false, if_true, if_false, ↓reduceIte, reduceIte, ↓br_ite, Bool.false_eq_true, reduceCtorEq, Bool.not_true, Bool.not_false, decide_true, decide_false, Int.cast_ofNat_Int, Int.reduceBEq, Int.reduceAdd, Int.reduceSub, Int.reduceMul, Int.reduceNeg, Int.reduceLT, Int.reduceLE, Int.reduceMod, Int.reduceDiv, sMeth1_ap, sSl_ap, sRev_ap, oNo_ap, oPart_ap, sDict0_ap, sSetL_ap]
theorem gcd_step (a b : Int) (h : Ph) (hb : 0 < b) : sPar 0 1 (sCons (sVar 1) (sCons (sBin dMod (sCall (g1 dInt) (sCons (sVar 0) (sNil))) (sVar 1)) (sNil))) [some (.int a), some (.int b)] h = .nx [some (.int b), some (.int (a % b))] h := by
  simp (maxSteps := 4000000) (dsimp := false) (disch := first | assumption | decide | omega | walk_at "cm") only [runDef_ap, sVar_ap, sC_ap, sBin_ap, sNeg_ap, sAnd_ap, sOr_ap, sNot_ap, sIf_ap, sTst_ap, qAnd_ap, qOr_ap, qNot_ap, qYes_ap, sChain_ap, sChain3_ap, sNil_ap, sCons_ap, sTup_ap, sLst_ap, sLstM_ap, sCall_ap, g1_ap, g2_ap, sFn_ap, sAsg_ap, gNm_ap, gTp_ap, gConsS_ap, gNilS_ap, sPar_ap, sPar3_ap, sRet_ap, sRetN_ap, sNx_ap, sBrk_ap, sCnt_ap, sSeq_ap, sIte_ap, sDrop_ap, sFrz_ap, sAug_ap, iRange1_ap, iRange2_ap, iSeq_ap, sFor_ap, sLc_ap, R.toG_ok, ↓R.bind_bnd, bnd_ok, ↓R.bd_bdn, bdn_ok, ↓R.toF_tof, tof_ok, ↓F.seq_sqn, sqn_nx, sqn_ret, sqn_cnt, sqn_brk, ↓F.turn_trn, trn_nx, trn_ret, trn_cnt, trn_brk, F.end_nx, F.end_ret, ↓br_true, br_true, ↓br_false, br_false, Dbr, Dneg, Dtst, opt_some, dAdd_int, dSub_int, dLt_int, dLe_int, dGt_int, dGe_int, dEq_int, dNe_int, dEq_bl, dNe_bl, dMul_cm, dMod_pos, dDiv_pos, dAbs_int, dMax2_int, dMin2_int, dInt_int, dInt_bl, dIx_tup, dIx_lst, dIx_seq, dLen_tup, dLen_lst, dLen_seq, atI_0, atI_1, atI_2, atI_3, List.map_cons, List.map_nil, List.length_cons, List.length_nil, List.replicate_succ, List.replicate_zero, List.cons_append, List.nil_append, List.getElem?_cons_zero, List.getElem?_cons_succ, List.set_cons_zero, List.set_cons_succ, Nat.reduceAdd, Nat.reduceSub, Nat.zero_add, Nat.add_zero, Nat.sub_self, Nat.reduceMul, mostL_def, Nat.reduceLeDiff, Nat.reduceLT, ite_true, ite_false, if_true, if_false, ↓reduceIte, reduceIte, ↓br_ite, Bool.false_eq_true, reduceCtorEq, Bool.not_true, Bool.not_false, decide_true, decide_false, Int.cast_ofNat_Int, Int.reduceBEq, Int.reduceAdd, Int.reduceSub, Int.reduceMul, Int.reduceNeg, Int.reduceLT, Int.reduceLE, Int.reduceMod, Int.reduceDiv, sMeth1_ap, sSl_ap, sRev_ap, oNo_ap, oPart_ap, sDict0_ap, sSetL_ap]
theorem gcd_abs (a b : Int) : Int.gcd (if a < 0 then -a else a) (if b < 0 then -b else b) = Int.gcd a b := by
  split <;> split <;> simp
theorem gcdL_ok (a b : Int) (h : Ph) (hb : b.natAbs + 1 < FU) : f__law_gcd [.int a, .int b] h = .ok (.int (Int.gcd a b)) h := by
  generalize hF : FU = N at hb
  have e := gcd_loop _ (fun a b h _ _ => gcd_cond a b h) _ (fun a b h _ hb => gcd_step a b h hb)
    b.natAbs (if a < 0 then -a else a) (if b < 0 then -b else b) h N (by split <;> omega) (by split <;> omega) (by split <;> omega) (by omega)
  rw [gcd_abs] at e
  unfold f__law_gcd
  rw [hF]
  simp (maxSteps := 4000000) (dsimp := false) (disch := first | assumption | decide | omega | walk_at "cm") only [runDef_ap, sVar_ap, sC_ap, sBin_ap, sNeg_ap, sAnd_ap, sOr_ap, sNot_ap, sIf_ap, sTst_ap, qAnd_ap, qOr_ap, qNot_ap, qYes_ap, sChain_ap, sChain3_ap, sNil_ap, sCons_ap, sTup_ap, sLst_ap, sLstM_ap, sCall_ap, g1_ap, g2_ap, sFn_ap, sAsg_ap, gNm_ap, gTp_ap, gConsS_ap, gNilS_ap, sPar_ap, sPar3_ap, sRet_ap, sRetN_ap, sNx_ap, sBrk_ap, sCnt_ap, sSeq_ap, sIte_ap, sDrop_ap, sFrz_ap, sAug_ap, iRange1_ap, iRange2_ap, iSeq_ap, sFor_ap, sLc_ap, R.toG_ok, ↓R.bind_bnd, bnd_ok, ↓R.bd_bdn, bdn_ok, ↓R.toF_tof, tof_ok, ↓F.seq_sqn, sqn_nx, sqn_ret, sqn_cnt, sqn_brk, ↓F.turn_trn, trn_nx, trn_ret, trn_cnt, trn_brk, F.end_nx, F.end_ret, ↓br_true, br_true, ↓br_false, br_false, Dbr, Dneg, Dtst, opt_some, dAdd_int, dSub_int, dLt_int, dLe_int, dGt_int, dGe_int, dEq_int, dNe_int, dEq_bl, dNe_bl, dMul_cm, dMod_pos, dDiv_pos, dAbs_int, dMax2_int, dMin2_int, dInt_int, dInt_bl, dIx_tup, dIx_lst, dIx_seq, dLen_tup, dLen_lst, dLen_seq, atI_0, atI_1, atI_2, atI_3, List.map_cons, List.map_nil, List.length_cons, List.length_nil, List.replicate_succ, List.replicate_zero, List.cons_append, List.nil_append, List.getElem?_cons_zero, List.getElem?_cons_succ, List.set_cons_zero, List.set_cons_succ, Nat.reduceAdd, Nat.reduceSub, Nat.zero_add, Nat.add_zero, Nat.sub_self, Nat.reduceMul, mostL_def, Nat.reduceLeDiff, Nat.reduceLT, ite_true, ite_false, if_true, if_false, ↓reduceIte, reduceIte, ↓br_ite, Bool.false_eq_true, reduceCtorEq, Bool.not_true, Bool.not_false, decide_true, decide_false, Int.cast_ofNat_Int, Int.reduceBEq, Int.reduceAdd, Int.reduceSub, Int.reduceMul, Int.reduceNeg, Int.reduceLT, Int.reduceLE, Int.reduceMod, Int.reduceDiv, sMeth1_ap, sSl_ap, sRev_ap, oNo_ap, oPart_ap, sDict0_ap, sSetL_ap, e]
end Pd

/-! Pf: the functions about forms -/
namespace Pd
open PySem L2 Evl
local macro_rules | `(tactic| walk_at "sm") => `(tactic| first | assumption | exact Sm.lit | exact Sm.mul (by walk_at "sm") (by walk_at "sm") | exact Sm.add (by walk_at "sm") (by walk_at "sm") | exact Sm.sub (by walk_at "sm") (by walk_at "sm") | exact Sm.neg (by walk_at "sm"))
local macro_rules | `(tactic| walk_at "cm") => `(tactic| ((with_reducible show CM _ _); first | assumption | exact CM.left (by decide) | exact CM.right (by decide) | exact CM.left (by omega) | exact CM.right (by omega) | exact CM.of (by walk_at "sm") (by walk_at "sm") (by decide)))
def f_is_whole : Fn := runDef 1 (sRet (sAnd (sCall (g2 dIsi) (sCons (sVar 0) (sCons (sC (.ty "int")) (sNil)))) (sNot (sCall (g2 dIsi) (sCons (sVar 0) (sCons (sC (.ty "bool")) (sNil)))))))
def f_is_integer : Fn := runDef 1 (sRet (sAnd (sFn f_is_whole (sCons (sVar 0) (sNil))) (sChain dLt dLt (sNeg (sC (.int (1000000000000000000000000000000000000000000000000000000000000)))) (sVar 0) (sC (.int (1000000000000000000000000000000000000000000000000000000000000))))))
def f_measure_in : Fn := runDef 1 (sRet (sBin dSub (sBin dMul (sBin dMul (sC (.int 4)) (sBin dIx (sVar 0) (sC (.int 0)))) (sBin dIx (sVar 0) (sC (.int 2)))) (sBin dMul (sBin dIx (sVar 0) (sC (.int 1))) (sBin dIx (sVar 0) (sC (.int 1))))))
def f_is_form : Fn := runDef 2 (sSeq (sIte (qOr (qNot (sTst (sCall (g2 dIsi) (sCons (sVar 0) (sCons (sC (.ty "tuple")) (sNil)))))) (qOr (sTst (sBin dNe (sCall (g1 dLen) (sCons (sVar 0) (sNil))) (sC (.int (3))))) (qNot (sTst (sCall (g1 dAll) (sCons (sLc (iSeq (sVar 0)) (gNm 1) (qYes) (sFn f_is_integer (sCons (sVar 1) (sNil))) [1]) (sNil))))))) (sRet (sC (.bl false))) (sNx)) (sRet (sAnd (sBin dGt (sBin dIx (sVar 0) (sC (.int 0))) (sC (.int 0))) (sBin dGt (sFn f_measure_in (sCons (sVar 0) (sNil))) (sC (.int 0))))))
def f_require_form : Fn := runDef 1 (sIte (qNot (sTst (sFn f_is_form (sCons (sVar 0) (sNil))))) (sBad) (sNx))
def f_divisor_of : Fn := runDef 2 (sSeq (sWhile FU (sTst (sBin dNe (sVar 1) (sC (.int 0)))) (sPar 0 1 (sCons (sVar 1) (sCons (sBin dMod (sVar 0) (sVar 1)) (sNil))))) (sRet (sCall (g1 dAbs) (sCons (sVar 0) (sNil)))))
def f_is_whole_primitive : Fn := runDef 1 (sRet (sBin dEq (sFn f_divisor_of (sCons (sFn f_divisor_of (sCons (sBin dIx (sVar 0) (sC (.int 0))) (sCons (sBin dIx (sVar 0) (sC (.int 1))) (sNil)))) (sCons (sBin dIx (sVar 0) (sC (.int 2))) (sNil)))) (sC (.int 1))))
def f_is_primitive : Fn := runDef 1 (sSeq (sDrop (sFn f_require_form (sCons (sVar 0) (sNil)))) (sRet (sFn f_is_whole_primitive (sCons (sVar 0) (sNil)))))
def f_is_least : Fn := runDef 4 (sSeq (sAsg (sVar 0) (gTp 3 (gConsS (gNm 1) (gConsS (gNm 2) (gConsS (gNm 3) (gNilS)))))) (sSeq (sIte (qNot (sTst (sChain3 dLe dLe dLe (sNeg (sVar 1)) (sVar 2) (sVar 1) (sVar 3)))) (sRet (sC (.bl false))) (sNx)) (sRet (sOr (sBin dGe (sVar 2) (sC (.int 0))) (sAnd (sBin dNe (sVar 2) (sNeg (sVar 1))) (sBin dNe (sVar 1) (sVar 3)))))))
def f_is_reduced : Fn := runDef 1 (sSeq (sDrop (sFn f_require_form (sCons (sVar 0) (sNil)))) (sRet (sFn f_is_least (sCons (sVar 0) (sNil)))))
def f_measure_of : Fn := runDef 1 (sSeq (sDrop (sFn f_require_form (sCons (sVar 0) (sNil)))) (sRet (sFn f_measure_in (sCons (sVar 0) (sNil)))))
def f_require_integer : Fn := runDef 1 (sIte (qNot (sTst (sFn f_is_integer (sCons (sVar 0) (sNil))))) (sBad) (sNx))
def f_value_at : Fn := runDef 3 (sRet (sBin dAdd (sBin dAdd (sBin dMul (sBin dMul (sBin dIx (sVar 0) (sC (.int 0))) (sVar 1)) (sVar 1)) (sBin dMul (sBin dMul (sBin dIx (sVar 0) (sC (.int 1))) (sVar 1)) (sVar 2))) (sBin dMul (sBin dMul (sBin dIx (sVar 0) (sC (.int 2))) (sVar 2)) (sVar 2))))
def f_value_of : Fn := runDef 3 (sSeq (sDrop (sFn f_require_form (sCons (sVar 0) (sNil)))) (sSeq (sDrop (sFn f_require_integer (sCons (sVar 1) (sNil)))) (sSeq (sDrop (sFn f_require_integer (sCons (sVar 2) (sNil)))) (sRet (sFn f_value_at (sCons (sVar 0) (sCons (sVar 1) (sCons (sVar 2) (sNil)))))))))
def f_is_turn : Fn := runDef 2 (sSeq (sIte (qOr (qNot (sTst (sCall (g2 dIsi) (sCons (sVar 0) (sCons (sC (.ty "tuple")) (sNil)))))) (qOr (sTst (sBin dNe (sCall (g1 dLen) (sCons (sVar 0) (sNil))) (sC (.int (4))))) (qNot (sTst (sCall (g1 dAll) (sCons (sLc (iSeq (sVar 0)) (gNm 1) (qYes) (sFn f_is_whole (sCons (sVar 1) (sNil))) [1]) (sNil))))))) (sRet (sC (.bl false))) (sNx)) (sRet (sBin dEq (sBin dSub (sBin dMul (sBin dIx (sVar 0) (sC (.int 0))) (sBin dIx (sVar 0) (sC (.int 3)))) (sBin dMul (sBin dIx (sVar 0) (sC (.int 1))) (sBin dIx (sVar 0) (sC (.int 2))))) (sC (.int 1)))))
def f_require_turn : Fn := runDef 2 (sIte (qOr (qNot (sTst (sFn f_is_turn (sCons (sVar 0) (sNil))))) (qNot (sTst (sCall (g1 dAll) (sCons (sLc (iSeq (sVar 0)) (gNm 1) (qYes) (sFn f_is_integer (sCons (sVar 1) (sNil))) [1]) (sNil)))))) (sBad) (sNx))
def f_led_by : Fn := runDef 7 (sSeq (sAsg (sVar 1) (gTp 4 (gConsS (gNm 3) (gConsS (gNm 4) (gConsS (gNm 5) (gConsS (gNm 6) (gNilS))))))) (sSeq (sAsg (sBin dAdd (sBin dAdd (sBin dMul (sBin dMul (sBin dMul (sC (.int 2)) (sBin dIx (sVar 0) (sC (.int 0)))) (sVar 3)) (sVar 4)) (sBin dMul (sBin dIx (sVar 0) (sC (.int 1))) (sBin dAdd (sBin dMul (sVar 3) (sVar 6)) (sBin dMul (sVar 4) (sVar 5))))) (sBin dMul (sBin dMul (sBin dMul (sC (.int 2)) (sBin dIx (sVar 0) (sC (.int 2)))) (sVar 5)) (sVar 6))) (gNm 2)) (sRet (sTup (sCons (sFn f_value_at (sCons (sVar 0) (sCons (sVar 3) (sCons (sVar 5) (sNil))))) (sCons (sVar 2) (sCons (sFn f_value_at (sCons (sVar 0) (sCons (sVar 4) (sCons (sVar 6) (sNil))))) (sNil))))))))
def f_led_form : Fn := runDef 2 (sSeq (sDrop (sFn f_require_form (sCons (sVar 0) (sNil)))) (sSeq (sDrop (sFn f_require_turn (sCons (sVar 1) (sNil)))) (sRet (sFn f_led_by (sCons (sVar 0) (sCons (sVar 1) (sNil)))))))
/-! ### comprehensions, reckoned -/
theorem compGo_nil {g : SG} {tt : ST} {te : SE} {e : Pe} {h : Ph} : compGo g tt te [] e h = .ok [] h := nr rfl
theorem compGo_cons {g : SG} {tt : ST} {te : SE} {x : D} {r : List D} {e : Pe} {h : Ph} : compGo g tt te (x :: r) e h = (g x e h).bd fun e1 h1 => (tt e1 h1).bd fun b h2 => br b ((te e1 h2).bd fun y h3 => (compGo g tt te r e h3).bd fun ys h4 => .ok (y :: ys) h4) (compGo g tt te r e h2) := rfl
theorem compGo_yes {g : SG} {te : SE} {x : D} {r : List D} {e : Pe} {h : Ph} : compGo g qYes te (x :: r) e h = (g x e h).bd fun e1 h1 => (te e1 h1).bd fun y h3 => (compGo g qYes te r e h3).bd fun ys h4 => .ok (y :: ys) h4 := nr rfl
theorem wipe_nil {e : Pe} : wipeD e [] = e := rfl
theorem wipe_cons {e : Pe} {v : Nat} {vs : List Nat} : wipeD e (v :: vs) = (wipeD e vs).set v none := rfl
theorem isi_int {t : String} {i : Int} {h : Ph} : dIsi (.int i) (.ty t) h = R.opt (kitB "int" t) fun k => .ok (.bl k) h := rfl
theorem isi_bl {t : String} {i : Bool} {h : Ph} : dIsi (.bl i) (.ty t) h = R.opt (kitB "bool" t) fun k => .ok (.bl k) h := rfl
theorem isi_str {t : String} {i : Str} {h : Ph} : dIsi (.str i) (.ty t) h = R.opt (kitB "str" t) fun k => .ok (.bl k) h := rfl
theorem isi_non {t : String} {h : Ph} : dIsi .non (.ty t) h = R.opt (kitB "NoneType" t) fun k => .ok (.bl k) h := rfl
theorem isi_tup {t : String} {i : List D} {h : Ph} : dIsi (.tup i) (.ty t) h = R.opt (kitB "tuple" t) fun k => .ok (.bl k) h := rfl
theorem isi_lst {t : String} {i : List D} {h : Ph} : dIsi (.lst i) (.ty t) h = R.opt (kitB "list" t) fun k => .ok (.bl k) h := rfl
theorem kit_int_int : kitB "int" "int" = some true := rfl
theorem kit_int_bool : kitB "int" "bool" = some false := rfl
theorem kit_bool_int : kitB "bool" "int" = some true := rfl
theorem kit_bool_bool : kitB "bool" "bool" = some true := rfl
theorem kit_str_int : kitB "str" "int" = some false := rfl
theorem kit_str_bool : kitB "str" "bool" = some false := rfl
theorem kit_str_tuple : kitB "str" "tuple" = some false := rfl
theorem kit_tuple_tuple : kitB "tuple" "tuple" = some true := rfl
theorem kit_tuple_int : kitB "tuple" "int" = some false := rfl
theorem kit_tuple_bool : kitB "tuple" "bool" = some false := rfl
theorem kit_int_tuple : kitB "int" "tuple" = some false := rfl
theorem kit_bool_tuple : kitB "bool" "tuple" = some false := rfl
theorem kit_list_tuple : kitB "list" "tuple" = some false := rfl
theorem kit_list_int : kitB "list" "int" = some false := rfl
theorem kit_list_bool : kitB "list" "bool" = some false := rfl
theorem kit_non_tuple : kitB "NoneType" "tuple" = some false := rfl
theorem kit_non_int : kitB "NoneType" "int" = some false := rfl
theorem kit_non_bool : kitB "NoneType" "bool" = some false := rfl
theorem iSeq_at {f : SE} {e : Pe} {h : Ph} : iSeq f e h = (f e h).bind fun a h1 => match a with
  | .lst xs => .ok xs h1
  | .seq xs => .ok xs h1
  | .tup xs => .ok xs h1
  | _ => .bad := rfl
theorem dAll_lst {xs : List D} {h : Ph} : dAll (.lst xs) h = R.opt (blsOf xs) fun bs => .ok (.bl (bs.all id)) h := rfl
theorem dAny_lst {xs : List D} {h : Ph} : dAny (.lst xs) h = R.opt (blsOf xs) fun bs => .ok (.bl (bs.any id)) h := rfl
theorem bls_cons {b : Bool} {r : List D} : blsOf (.bl b :: r) = (blsOf r).map (b :: ·) := rfl
theorem bls_nil : blsOf [] = some [] := rfl
/-! ### whole numbers -/
theorem whole_int {i : Int} {h : Ph} : f_is_whole [.int i] h = .ok (.bl true) h := by
  unfold f_is_whole; simp (maxSteps := 4000000) (dsimp := false) (disch := first | assumption | decide | omega | walk_at "cm") only [runDef_ap, sVar_ap, sC_ap, sBin_ap, sNeg_ap, sAnd_ap, sOr_ap, sNot_ap, sIf_ap, sTst_ap, qAnd_ap, qOr_ap, qNot_ap, qYes_ap, sChain_ap, sChain3_ap, sNil_ap, sCons_ap, sTup_ap, sLst_ap, sLstM_ap, sCall_ap, g1_ap, g2_ap, sFn_ap, sAsg_ap, gNm_ap, gTp_ap, gConsS_ap, gNilS_ap, sPar_ap, sPar3_ap, sRet_ap, sRetN_ap, sNx_ap, sBrk_ap, sCnt_ap, sSeq_ap, sIte_ap, sDrop_ap, sFrz_ap, sAug_ap, iRange1_ap, iRange2_ap, iSeq_ap, sFor_ap, sLc_ap, R.toG_ok, ↓R.bind_bnd, bnd_ok, ↓R.bd_bdn, bdn_ok, ↓R.toF_tof, tof_ok, ↓F.seq_sqn, sqn_nx, sqn_ret, sqn_cnt, sqn_brk, ↓F.turn_trn, trn_nx, trn_ret, trn_cnt, trn_brk, F.end_nx, F.end_ret, ↓br_true, br_true, ↓br_false, br_false, Dbr, Dneg, Dtst, opt_some, dAdd_int, dSub_int, dLt_int, dLe_int, dGt_int, dGe_int, dEq_int, dNe_int, dEq_bl, dNe_bl, dMul_cm, dMod_pos, dDiv_pos, dAbs_int, dMax2_int, dMin2_int, dInt_int, dInt_bl, dIx_tup, dIx_lst, dIx_seq, dLen_tup, dLen_lst, dLen_seq, atI_0, atI_1, atI_2, atI_3, List.map_cons, List.map_nil, List.length_cons, List.length_nil, List.replicate_succ, List.replicate_zero, List.cons_append, List.nil_append, List.getElem?_cons_zero, List.getElem?_cons_succ, List.set_cons_zero, List.set_cons_succ, Nat.reduceAdd, Nat.reduceSub, Nat.zero_add, Nat.add_zero, Nat.sub_self, Nat.reduceMul, mostL_def, Nat.reduceLeDiff, Nat.reduceLT, ite_true, ite_false, if_true, if_false, ↓reduceIte, reduceIte, ↓br_ite, Bool.false_eq_true, reduceCtorEq, Bool.not_true, Bool.not_false, decide_true, decide_false, Int.cast_ofNat_Int, Int.reduceBEq, Int.reduceAdd, Int.reduceSub, Int.reduceMul, Int.reduceNeg, Int.reduceLT, Int.reduceLE, Int.reduceMod, Int.reduceDiv, sMeth1_ap, sSl_ap, sRev_ap, oNo_ap, oPart_ap, sDict0_ap, sSetL_ap, isi_int, kit_int_int, kit_int_bool]
theorem whole_bl {i : Bool} {h : Ph} : f_is_whole [.bl i] h = .ok (.bl false) h := by
  unfold f_is_whole; simp (maxSteps := 4000000) (dsimp := false) (disch := first | assumption | decide | omega | walk_at "cm") only [runDef_ap, sVar_ap, sC_ap, sBin_ap, sNeg_ap, sAnd_ap, sOr_ap, sNot_ap, sIf_ap, sTst_ap, qAnd_ap, qOr_ap, qNot_ap, qYes_ap, sChain_ap, sChain3_ap, sNil_ap, sCons_ap, sTup_ap, sLst_ap, sLstM_ap, sCall_ap, g1_ap, g2_ap, sFn_ap, sAsg_ap, gNm_ap, gTp_ap, gConsS_ap, gNilS_ap, sPar_ap, sPar3_ap, sRet_ap, sRetN_ap, sNx_ap, sBrk_ap, sCnt_ap, sSeq_ap, sIte_ap, sDrop_ap, sFrz_ap, sAug_ap, iRange1_ap, iRange2_ap, iSeq_ap, sFor_ap, sLc_ap, R.toG_ok, ↓R.bind_bnd, bnd_ok, ↓R.bd_bdn, bdn_ok, ↓R.toF_tof, tof_ok, ↓F.seq_sqn, sqn_nx, sqn_ret, sqn_cnt, sqn_brk, ↓F.turn_trn, trn_nx, trn_ret, trn_cnt, trn_brk, F.end_nx, F.end_ret, ↓br_true, br_true, ↓br_false, br_false, Dbr, Dneg, Dtst, opt_some, dAdd_int, dSub_int, dLt_int, dLe_int, dGt_int, dGe_int, dEq_int, dNe_int, dEq_bl, dNe_bl, dMul_cm, dMod_pos, dDiv_pos, dAbs_int, dMax2_int, dMin2_int, dInt_int, dInt_bl, dIx_tup, dIx_lst, dIx_seq, dLen_tup, dLen_lst, dLen_seq, atI_0, atI_1, atI_2, atI_3, List.map_cons, List.map_nil, List.length_cons, List.length_nil, List.replicate_succ, List.replicate_zero, List.cons_append, List.nil_append, List.getElem?_cons_zero, List.getElem?_cons_succ, List.set_cons_zero, List.set_cons_succ, Nat.reduceAdd, Nat.reduceSub, Nat.zero_add, Nat.add_zero, Nat.sub_self, Nat.reduceMul, mostL_def, Nat.reduceLeDiff, Nat.reduceLT, ite_true, ite_false, if_true, if_false, ↓reduceIte, reduceIte, ↓br_ite, Bool.false_eq_true, reduceCtorEq, Bool.not_true, Bool.not_false, decide_true, decide_false, Int.cast_ofNat_Int, Int.reduceBEq, Int.reduceAdd, Int.reduceSub, Int.reduceMul, Int.reduceNeg, Int.reduceLT, Int.reduceLE, Int.reduceMod, Int.reduceDiv, sMeth1_ap, sSl_ap, sRev_ap, oNo_ap, oPart_ap, sDict0_ap, sSetL_ap, isi_bl, kit_bool_int, kit_bool_bool]
theorem whole_str {i : Str} {h : Ph} : f_is_whole [.str i] h = .ok (.bl false) h := by
  unfold f_is_whole; simp (maxSteps := 4000000) (dsimp := false) (disch := first | assumption | decide | omega | walk_at "cm") only [runDef_ap, sVar_ap, sC_ap, sBin_ap, sNeg_ap, sAnd_ap, sOr_ap, sNot_ap, sIf_ap, sTst_ap, qAnd_ap, qOr_ap, qNot_ap, qYes_ap, sChain_ap, sChain3_ap, sNil_ap, sCons_ap, sTup_ap, sLst_ap, sLstM_ap, sCall_ap, g1_ap, g2_ap, sFn_ap, sAsg_ap, gNm_ap, gTp_ap, gConsS_ap, gNilS_ap, sPar_ap, sPar3_ap, sRet_ap, sRetN_ap, sNx_ap, sBrk_ap, sCnt_ap, sSeq_ap, sIte_ap, sDrop_ap, sFrz_ap, sAug_ap, iRange1_ap, iRange2_ap, iSeq_ap, sFor_ap, sLc_ap, R.toG_ok, ↓R.bind_bnd, bnd_ok, ↓R.bd_bdn, bdn_ok, ↓R.toF_tof, tof_ok, ↓F.seq_sqn, sqn_nx, sqn_ret, sqn_cnt, sqn_brk, ↓F.turn_trn, trn_nx, trn_ret, trn_cnt, trn_brk, F.end_nx, F.end_ret, ↓br_true, br_true, ↓br_false, br_false, Dbr, Dneg, Dtst, opt_some, dAdd_int, dSub_int, dLt_int, dLe_int, dGt_int, dGe_int, dEq_int, dNe_int, dEq_bl, dNe_bl, dMul_cm, dMod_pos, dDiv_pos, dAbs_int, dMax2_int, dMin2_int, dInt_int, dInt_bl, dIx_tup, dIx_lst, dIx_seq, dLen_tup, dLen_lst, dLen_seq, atI_0, atI_1, atI_2, atI_3, List.map_cons, List.map_nil, List.length_cons, List.length_nil, List.replicate_succ, List.replicate_zero, List.cons_append, List.nil_append, List.getElem?_cons_zero, List.getElem?_cons_succ, List.set_cons_zero, List.set_cons_succ, Nat.reduceAdd, Nat.reduceSub, Nat.zero_add, Nat.add_zero, Nat.sub_self, Nat.reduceMul, mostL_def, Nat.reduceLeDiff, Nat.reduceLT, ite_true, ite_false, if_true, if_false, ↓reduceIte, reduceIte, ↓br_ite, Bool.false_eq_true, reduceCtorEq, Bool.not_true, Bool.not_false, decide_true, decide_false, Int.cast_ofNat_Int, Int.reduceBEq, Int.reduceAdd, Int.reduceSub, Int.reduceMul, Int.reduceNeg, Int.reduceLT, Int.reduceLE, Int.reduceMod, Int.reduceDiv, sMeth1_ap, sSl_ap, sRev_ap, oNo_ap, oPart_ap, sDict0_ap, sSetL_ap, isi_str, kit_str_int, kit_str_bool]
theorem whole_non {h : Ph} : f_is_whole [.non] h = .ok (.bl false) h := by
  unfold f_is_whole; simp (maxSteps := 4000000) (dsimp := false) (disch := first | assumption | decide | omega | walk_at "cm") only [runDef_ap, sVar_ap, sC_ap, sBin_ap, sNeg_ap, sAnd_ap, sOr_ap, sNot_ap, sIf_ap, sTst_ap, qAnd_ap, qOr_ap, qNot_ap, qYes_ap, sChain_ap, sChain3_ap, sNil_ap, sCons_ap, sTup_ap, sLst_ap, sLstM_ap, sCall_ap, g1_ap, g2_ap, sFn_ap, sAsg_ap, gNm_ap, gTp_ap, gConsS_ap, gNilS_ap, sPar_ap, sPar3_ap, sRet_ap, sRetN_ap, sNx_ap, sBrk_ap, sCnt_ap, sSeq_ap, sIte_ap, sDrop_ap, sFrz_ap, sAug_ap, iRange1_ap, iRange2_ap, iSeq_ap, sFor_ap, sLc_ap, R.toG_ok, ↓R.bind_bnd, bnd_ok, ↓R.bd_bdn, bdn_ok, ↓R.toF_tof, tof_ok, ↓F.seq_sqn, sqn_nx, sqn_ret, sqn_cnt, sqn_brk, ↓F.turn_trn, trn_nx, trn_ret, trn_cnt, trn_brk, F.end_nx, F.end_ret, ↓br_true, br_true, ↓br_false, br_false, Dbr, Dneg, Dtst, opt_some, dAdd_int, dSub_int, dLt_int, dLe_int, dGt_int, dGe_int, dEq_int, dNe_int, dEq_bl, dNe_bl, dMul_cm, dMod_pos, dDiv_pos, dAbs_int, dMax2_int, dMin2_int, dInt_int, dInt_bl, dIx_tup, dIx_lst, dIx_seq, dLen_tup, dLen_lst, dLen_seq, atI_0, atI_1, atI_2, atI_3, List.map_cons, List.map_nil, List.length_cons, List.length_nil, List.replicate_succ, List.replicate_zero, List.cons_append, List.nil_append, List.getElem?_cons_zero, List.getElem?_cons_succ, List.set_cons_zero, List.set_cons_succ, Nat.reduceAdd, Nat.reduceSub, Nat.zero_add, Nat.add_zero, Nat.sub_self, Nat.reduceMul, mostL_def, Nat.reduceLeDiff, Nat.reduceLT, ite_true, ite_false, if_true, if_false, ↓reduceIte, reduceIte, ↓br_ite, Bool.false_eq_true, reduceCtorEq, Bool.not_true, Bool.not_false, decide_true, decide_false, Int.cast_ofNat_Int, Int.reduceBEq, Int.reduceAdd, Int.reduceSub, Int.reduceMul, Int.reduceNeg, Int.reduceLT, Int.reduceLE, Int.reduceMod, Int.reduceDiv, sMeth1_ap, sSl_ap, sRev_ap, oNo_ap, oPart_ap, sDict0_ap, sSetL_ap, isi_non, kit_non_int, kit_non_bool]
theorem whole_tup {i : List D} {h : Ph} : f_is_whole [.tup i] h = .ok (.bl false) h := by
  unfold f_is_whole; simp (maxSteps := 4000000) (dsimp := false) (disch := first | assumption | decide | omega | walk_at "cm") only [runDef_ap, sVar_ap, sC_ap, sBin_ap, sNeg_ap, sAnd_ap, sOr_ap, sNot_ap, sIf_ap, sTst_ap, qAnd_ap, qOr_ap, qNot_ap, qYes_ap, sChain_ap, sChain3_ap, sNil_ap, sCons_ap, sTup_ap, sLst_ap, sLstM_ap, sCall_ap, g1_ap, g2_ap, sFn_ap, sAsg_ap, gNm_ap, gTp_ap, gConsS_ap, gNilS_ap, sPar_ap, sPar3_ap, sRet_ap, sRetN_ap, sNx_ap, sBrk_ap, sCnt_ap, sSeq_ap, sIte_ap, sDrop_ap, sFrz_ap, sAug_ap, iRange1_ap, iRange2_ap, iSeq_ap, sFor_ap, sLc_ap, R.toG_ok, ↓R.bind_bnd, bnd_ok, ↓R.bd_bdn, bdn_ok, ↓R.toF_tof, tof_ok, ↓F.seq_sqn, sqn_nx, sqn_ret, sqn_cnt, sqn_brk, ↓F.turn_trn, trn_nx, trn_ret, trn_cnt, trn_brk, F.end_nx, F.end_ret, ↓br_true, br_true, ↓br_false, br_false, Dbr, Dneg, Dtst, opt_some, dAdd_int, dSub_int, dLt_int, dLe_int, dGt_int, dGe_int, dEq_int, dNe_int, dEq_bl, dNe_bl, dMul_cm, dMod_pos, dDiv_pos, dAbs_int, dMax2_int, dMin2_int, dInt_int, dInt_bl, dIx_tup, dIx_lst, dIx_seq, dLen_tup, dLen_lst, dLen_seq, atI_0, atI_1, atI_2, atI_3, List.map_cons, List.map_nil, List.length_cons, List.length_nil, List.replicate_succ, List.replicate_zero, List.cons_append, List.nil_append, List.getElem?_cons_zero, List.getElem?_cons_succ, List.set_cons_zero, List.set_cons_succ, Nat.reduceAdd, Nat.reduceSub, Nat.zero_add, Nat.add_zero, Nat.sub_self, Nat.reduceMul, mostL_def, Nat.reduceLeDiff, Nat.reduceLT, ite_true, ite_false, if_true, if_false, ↓reduceIte, reduceIte, ↓br_ite, Bool.false_eq_true, reduceCtorEq, Bool.not_true, Bool.not_false, decide_true, decide_false, Int.cast_ofNat_Int, Int.reduceBEq, Int.reduceAdd, Int.reduceSub, Int.reduceMul, Int.reduceNeg, Int.reduceLT, Int.reduceLE, Int.reduceMod, Int.reduceDiv, sMeth1_ap, sSl_ap, sRev_ap, oNo_ap, oPart_ap, sDict0_ap, sSetL_ap, isi_tup, kit_tuple_int, kit_tuple_bool]
theorem whole_lst {i : List D} {h : Ph} : f_is_whole [.lst i] h = .ok (.bl false) h := by
  unfold f_is_whole; simp (maxSteps := 4000000) (dsimp := false) (disch := first | assumption | decide | omega | walk_at "cm") only [runDef_ap, sVar_ap, sC_ap, sBin_ap, sNeg_ap, sAnd_ap, sOr_ap, sNot_ap, sIf_ap, sTst_ap, qAnd_ap, qOr_ap, qNot_ap, qYes_ap, sChain_ap, sChain3_ap, sNil_ap, sCons_ap, sTup_ap, sLst_ap, sLstM_ap, sCall_ap, g1_ap, g2_ap, sFn_ap, sAsg_ap, gNm_ap, gTp_ap, gConsS_ap, gNilS_ap, sPar_ap, sPar3_ap, sRet_ap, sRetN_ap, sNx_ap, sBrk_ap, sCnt_ap, sSeq_ap, sIte_ap, sDrop_ap, sFrz_ap, sAug_ap, iRange1_ap, iRange2_ap, iSeq_ap, sFor_ap, sLc_ap, R.toG_ok, ↓R.bind_bnd, bnd_ok, ↓R.bd_bdn, bdn_ok, ↓R.toF_tof, tof_ok, ↓F.seq_sqn, sqn_nx, sqn_ret, sqn_cnt, sqn_brk, ↓F.turn_trn, trn_nx, trn_ret, trn_cnt, trn_brk, F.end_nx, F.end_ret, ↓br_true, br_true, ↓br_false, br_false, Dbr, Dneg, Dtst, opt_some, dAdd_int, dSub_int, dLt_int, dLe_int, dGt_int, dGe_int, dEq_int, dNe_int, dEq_bl, dNe_bl, dMul_cm, dMod_pos, dDiv_pos, dAbs_int, dMax2_int, dMin2_int, dInt_int, dInt_bl, dIx_tup, dIx_lst, dIx_seq, dLen_tup, dLen_lst, dLen_seq, atI_0, atI_1, atI_2, atI_3, List.map_cons, List.map_nil, List.length_cons, List.length_nil, List.replicate_succ, List.replicate_zero, List.cons_append, List.nil_append, List.getElem?_cons_zero, List.getElem?_cons_succ, List.set_cons_zero, List.set_cons_succ, Nat.reduceAdd, Nat.reduceSub, Nat.zero_add, Nat.add_zero, Nat.sub_self, Nat.reduceMul, mostL_def, Nat.reduceLeDiff, Nat.reduceLT, ite_true, ite_false, if_true, if_false, ↓reduceIte, reduceIte, ↓br_ite, Bool.false_eq_true, reduceCtorEq, Bool.not_true, Bool.not_false, decide_true, decide_false, Int.cast_ofNat_Int, Int.reduceBEq, Int.reduceAdd, Int.reduceSub, Int.reduceMul, Int.reduceNeg, Int.reduceLT, Int.reduceLE, Int.reduceMod, Int.reduceDiv, sMeth1_ap, sSl_ap, sRev_ap, oNo_ap, oPart_ap, sDict0_ap, sSetL_ap, isi_lst, kit_list_int, kit_list_bool]
/-- within the greatest -/
def Iz (i : Int) : Bool := decide (-1000000000000000000000000000000000000000000000000000000000000 < i) && decide (i < 1000000000000000000000000000000000000000000000000000000000000)
theorem Iz.ok {i : Int} (s : Sm 199 i) : Iz i = true := by
  have := s.lt
  have h2 : (2 : Nat) ^ 199 < 1000000000000000000000000000000000000000000000000000000000000 := by decide
  unfold Iz
  simp
  omega
theorem integer_int {i : Int} {h : Ph} : f_is_integer [.int i] h = .ok (.bl (Iz i)) h := by
  unfold f_is_integer Iz; simp (maxSteps := 4000000) (dsimp := false) (disch := first | assumption | decide | omega | walk_at "cm") only [runDef_ap, sVar_ap, sC_ap, sBin_ap, sNeg_ap, sAnd_ap, sOr_ap, sNot_ap, sIf_ap, sTst_ap, qAnd_ap, qOr_ap, qNot_ap, qYes_ap, sChain_ap, sChain3_ap, sNil_ap, sCons_ap, sTup_ap, sLst_ap, sLstM_ap, sCall_ap, g1_ap, g2_ap, sFn_ap, sAsg_ap, gNm_ap, gTp_ap, gConsS_ap, gNilS_ap, sPar_ap, sPar3_ap, sRet_ap, sRetN_ap, sNx_ap, sBrk_ap, sCnt_ap, sSeq_ap, sIte_ap, sDrop_ap, sFrz_ap, sAug_ap, iRange1_ap, iRange2_ap, iSeq_ap, sFor_ap, sLc_ap, R.toG_ok, ↓R.bind_bnd, bnd_ok, ↓R.bd_bdn, bdn_ok, ↓R.toF_tof, tof_ok, ↓F.seq_sqn, sqn_nx, sqn_ret, sqn_cnt, sqn_brk, ↓F.turn_trn, trn_nx, trn_ret, trn_cnt, trn_brk, F.end_nx, F.end_ret, ↓br_true, br_true, ↓br_false, br_false, Dbr, Dneg, Dtst, opt_some, dAdd_int, dSub_int, dLt_int, dLe_int, dGt_int, dGe_int, dEq_int, dNe_int, dEq_bl, dNe_bl, dMul_cm, dMod_pos, dDiv_pos, dAbs_int, dMax2_int, dMin2_int, dInt_int, dInt_bl, dIx_tup, dIx_lst, dIx_seq, dLen_tup, dLen_lst, dLen_seq, atI_0, atI_1, atI_2, atI_3, List.map_cons, List.map_nil, List.length_cons, List.length_nil, List.replicate_succ, List.replicate_zero, List.cons_append, List.nil_append, List.getElem?_cons_zero, List.getElem?_cons_succ, List.set_cons_zero, List.set_cons_succ, Nat.reduceAdd, Nat.reduceSub, Nat.zero_add, Nat.add_zero, Nat.sub_self, Nat.reduceMul, mostL_def, Nat.reduceLeDiff, Nat.reduceLT, ite_true, ite_false, if_true, if_false, ↓reduceIte, reduceIte, ↓br_ite, Bool.false_eq_true, reduceCtorEq, Bool.not_true, Bool.not_false, decide_true, decide_false, Int.cast_ofNat_Int, Int.reduceBEq, Int.reduceAdd, Int.reduceSub, Int.reduceMul, Int.reduceNeg, Int.reduceLT, Int.reduceLE, Int.reduceMod, Int.reduceDiv, sMeth1_ap, sSl_ap, sRev_ap, oNo_ap, oPart_ap, sDict0_ap, sSetL_ap, whole_int, sNeg_ap, it_bl, br_bl, it_and, br_and]
theorem integer_bl {i : Bool} {h : Ph} : f_is_integer [.bl i] h = .ok (.bl false) h := by
  unfold f_is_integer; simp (maxSteps := 4000000) (dsimp := false) (disch := first | assumption | decide | omega | walk_at "cm") only [runDef_ap, sVar_ap, sC_ap, sBin_ap, sNeg_ap, sAnd_ap, sOr_ap, sNot_ap, sIf_ap, sTst_ap, qAnd_ap, qOr_ap, qNot_ap, qYes_ap, sChain_ap, sChain3_ap, sNil_ap, sCons_ap, sTup_ap, sLst_ap, sLstM_ap, sCall_ap, g1_ap, g2_ap, sFn_ap, sAsg_ap, gNm_ap, gTp_ap, gConsS_ap, gNilS_ap, sPar_ap, sPar3_ap, sRet_ap, sRetN_ap, sNx_ap, sBrk_ap, sCnt_ap, sSeq_ap, sIte_ap, sDrop_ap, sFrz_ap, sAug_ap, iRange1_ap, iRange2_ap, iSeq_ap, sFor_ap, sLc_ap, R.toG_ok, ↓R.bind_bnd, bnd_ok, ↓R.bd_bdn, bdn_ok, ↓R.toF_tof, tof_ok, ↓F.seq_sqn, sqn_nx, sqn_ret, sqn_cnt, sqn_brk, ↓F.turn_trn, trn_nx, trn_ret, trn_cnt, trn_brk, F.end_nx, F.end_ret, ↓br_true, br_true, ↓br_false, br_false, Dbr, Dneg, Dtst, opt_some, dAdd_int, dSub_int, dLt_int, dLe_int, dGt_int, dGe_int, dEq_int, dNe_int, dEq_bl, dNe_bl, dMul_cm, dMod_pos, dDiv_pos, dAbs_int, dMax2_int, dMin2_int, dInt_int, dInt_bl, dIx_tup, dIx_lst, dIx_seq, dLen_tup, dLen_lst, dLen_seq, atI_0, atI_1, atI_2, atI_3, List.map_cons, List.map_nil, List.length_cons, List.length_nil, List.replicate_succ, List.replicate_zero, List.cons_append, List.nil_append, List.getElem?_cons_zero, List.getElem?_cons_succ, List.set_cons_zero, List.set_cons_succ, Nat.reduceAdd, Nat.reduceSub, Nat.zero_add, Nat.add_zero, Nat.sub_self, Nat.reduceMul, mostL_def, Nat.reduceLeDiff, Nat.reduceLT, ite_true, ite_false, if_true, if_false, ↓reduceIte, reduceIte, ↓br_ite, Bool.false_eq_true, reduceCtorEq, Bool.not_true, Bool.not_false, decide_true, decide_false, Int.cast_ofNat_Int, Int.reduceBEq, Int.reduceAdd, Int.reduceSub, Int.reduceMul, Int.reduceNeg, Int.reduceLT, Int.reduceLE, Int.reduceMod, Int.reduceDiv, sMeth1_ap, sSl_ap, sRev_ap, oNo_ap, oPart_ap, sDict0_ap, sSetL_ap, whole_bl]
theorem integer_str {i : Str} {h : Ph} : f_is_integer [.str i] h = .ok (.bl false) h := by
  unfold f_is_integer; simp (maxSteps := 4000000) (dsimp := false) (disch := first | assumption | decide | omega | walk_at "cm") only [runDef_ap, sVar_ap, sC_ap, sBin_ap, sNeg_ap, sAnd_ap, sOr_ap, sNot_ap, sIf_ap, sTst_ap, qAnd_ap, qOr_ap, qNot_ap, qYes_ap, sChain_ap, sChain3_ap, sNil_ap, sCons_ap, sTup_ap, sLst_ap, sLstM_ap, sCall_ap, g1_ap, g2_ap, sFn_ap, sAsg_ap, gNm_ap, gTp_ap, gConsS_ap, gNilS_ap, sPar_ap, sPar3_ap, sRet_ap, sRetN_ap, sNx_ap, sBrk_ap, sCnt_ap, sSeq_ap, sIte_ap, sDrop_ap, sFrz_ap, sAug_ap, iRange1_ap, iRange2_ap, iSeq_ap, sFor_ap, sLc_ap, R.toG_ok, ↓R.bind_bnd, bnd_ok, ↓R.bd_bdn, bdn_ok, ↓R.toF_tof, tof_ok, ↓F.seq_sqn, sqn_nx, sqn_ret, sqn_cnt, sqn_brk, ↓F.turn_trn, trn_nx, trn_ret, trn_cnt, trn_brk, F.end_nx, F.end_ret, ↓br_true, br_true, ↓br_false, br_false, Dbr, Dneg, Dtst, opt_some, dAdd_int, dSub_int, dLt_int, dLe_int, dGt_int, dGe_int, dEq_int, dNe_int, dEq_bl, dNe_bl, dMul_cm, dMod_pos, dDiv_pos, dAbs_int, dMax2_int, dMin2_int, dInt_int, dInt_bl, dIx_tup, dIx_lst, dIx_seq, dLen_tup, dLen_lst, dLen_seq, atI_0, atI_1, atI_2, atI_3, List.map_cons, List.map_nil, List.length_cons, List.length_nil, List.replicate_succ, List.replicate_zero, List.cons_append, List.nil_append, List.getElem?_cons_zero, List.getElem?_cons_succ, List.set_cons_zero, List.set_cons_succ, Nat.reduceAdd, Nat.reduceSub, Nat.zero_add, Nat.add_zero, Nat.sub_self, Nat.reduceMul, mostL_def, Nat.reduceLeDiff, Nat.reduceLT, ite_true, ite_false, if_true, if_false, ↓reduceIte, reduceIte, ↓br_ite, Bool.false_eq_true, reduceCtorEq, Bool.not_true, Bool.not_false, decide_true, decide_false, Int.cast_ofNat_Int, Int.reduceBEq, Int.reduceAdd, Int.reduceSub, Int.reduceMul, Int.reduceNeg, Int.reduceLT, Int.reduceLE, Int.reduceMod, Int.reduceDiv, sMeth1_ap, sSl_ap, sRev_ap, oNo_ap, oPart_ap, sDict0_ap, sSetL_ap, whole_str]
theorem integer_non {h : Ph} : f_is_integer [.non] h = .ok (.bl false) h := by
  unfold f_is_integer; simp (maxSteps := 4000000) (dsimp := false) (disch := first | assumption | decide | omega | walk_at "cm") only [runDef_ap, sVar_ap, sC_ap, sBin_ap, sNeg_ap, sAnd_ap, sOr_ap, sNot_ap, sIf_ap, sTst_ap, qAnd_ap, qOr_ap, qNot_ap, qYes_ap, sChain_ap, sChain3_ap, sNil_ap, sCons_ap, sTup_ap, sLst_ap, sLstM_ap, sCall_ap, g1_ap, g2_ap, sFn_ap, sAsg_ap, gNm_ap, gTp_ap, gConsS_ap, gNilS_ap, sPar_ap, sPar3_ap, sRet_ap, sRetN_ap, sNx_ap, sBrk_ap, sCnt_ap, sSeq_ap, sIte_ap, sDrop_ap, sFrz_ap, sAug_ap, iRange1_ap, iRange2_ap, iSeq_ap, sFor_ap, sLc_ap, R.toG_ok, ↓R.bind_bnd, bnd_ok, ↓R.bd_bdn, bdn_ok, ↓R.toF_tof, tof_ok, ↓F.seq_sqn, sqn_nx, sqn_ret, sqn_cnt, sqn_brk, ↓F.turn_trn, trn_nx, trn_ret, trn_cnt, trn_brk, F.end_nx, F.end_ret, ↓br_true, br_true, ↓br_false, br_false, Dbr, Dneg, Dtst, opt_some, dAdd_int, dSub_int, dLt_int, dLe_int, dGt_int, dGe_int, dEq_int, dNe_int, dEq_bl, dNe_bl, dMul_cm, dMod_pos, dDiv_pos, dAbs_int, dMax2_int, dMin2_int, dInt_int, dInt_bl, dIx_tup, dIx_lst, dIx_seq, dLen_tup, dLen_lst, dLen_seq, atI_0, atI_1, atI_2, atI_3, List.map_cons, List.map_nil, List.length_cons, List.length_nil, List.replicate_succ, List.replicate_zero, List.cons_append, List.nil_append, List.getElem?_cons_zero, List.getElem?_cons_succ, List.set_cons_zero, List.set_cons_succ, Nat.reduceAdd, Nat.reduceSub, Nat.zero_add, Nat.add_zero, Nat.sub_self, Nat.reduceMul, mostL_def, Nat.reduceLeDiff, Nat.reduceLT, ite_true, ite_false, if_true, if_false, ↓reduceIte, reduceIte, ↓br_ite, Bool.false_eq_true, reduceCtorEq, Bool.not_true, Bool.not_false, decide_true, decide_false, Int.cast_ofNat_Int, Int.reduceBEq, Int.reduceAdd, Int.reduceSub, Int.reduceMul, Int.reduceNeg, Int.reduceLT, Int.reduceLE, Int.reduceMod, Int.reduceDiv, sMeth1_ap, sSl_ap, sRev_ap, oNo_ap, oPart_ap, sDict0_ap, sSetL_ap, whole_non]
theorem integer_tup {i : List D} {h : Ph} : f_is_integer [.tup i] h = .ok (.bl false) h := by
  unfold f_is_integer; simp (maxSteps := 4000000) (dsimp := false) (disch := first | assumption | decide | omega | walk_at "cm") only [runDef_ap, sVar_ap, sC_ap, sBin_ap, sNeg_ap, sAnd_ap, sOr_ap, sNot_ap, sIf_ap, sTst_ap, qAnd_ap, qOr_ap, qNot_ap, qYes_ap, sChain_ap, sChain3_ap, sNil_ap, sCons_ap, sTup_ap, sLst_ap, sLstM_ap, sCall_ap, g1_ap, g2_ap, sFn_ap, sAsg_ap, gNm_ap, gTp_ap, gConsS_ap, gNilS_ap, sPar_ap, sPar3_ap, sRet_ap, sRetN_ap, sNx_ap, sBrk_ap, sCnt_ap, sSeq_ap, sIte_ap, sDrop_ap, sFrz_ap, sAug_ap, iRange1_ap, iRange2_ap, iSeq_ap, sFor_ap, sLc_ap, R.toG_ok, ↓R.bind_bnd, bnd_ok, ↓R.bd_bdn, bdn_ok, ↓R.toF_tof, tof_ok, ↓F.seq_sqn, sqn_nx, sqn_ret, sqn_cnt, sqn_brk, ↓F.turn_trn, trn_nx, trn_ret, trn_cnt, trn_brk, F.end_nx, F.end_ret, ↓br_true, br_true, ↓br_false, br_false, Dbr, Dneg, Dtst, opt_some, dAdd_int, dSub_int, dLt_int, dLe_int, dGt_int, dGe_int, dEq_int, dNe_int, dEq_bl, dNe_bl, dMul_cm, dMod_pos, dDiv_pos, dAbs_int, dMax2_int, dMin2_int, dInt_int, dInt_bl, dIx_tup, dIx_lst, dIx_seq, dLen_tup, dLen_lst, dLen_seq, atI_0, atI_1, atI_2, atI_3, List.map_cons, List.map_nil, List.length_cons, List.length_nil, List.replicate_succ, List.replicate_zero, List.cons_append, List.nil_append, List.getElem?_cons_zero, List.getElem?_cons_succ, List.set_cons_zero, List.set_cons_succ, Nat.reduceAdd, Nat.reduceSub, Nat.zero_add, Nat.add_zero, Nat.sub_self, Nat.reduceMul, mostL_def, Nat.reduceLeDiff, Nat.reduceLT, ite_true, ite_false, if_true, if_false, ↓reduceIte, reduceIte, ↓br_ite, Bool.false_eq_true, reduceCtorEq, Bool.not_true, Bool.not_false, decide_true, decide_false, Int.cast_ofNat_Int, Int.reduceBEq, Int.reduceAdd, Int.reduceSub, Int.reduceMul, Int.reduceNeg, Int.reduceLT, Int.reduceLE, Int.reduceMod, Int.reduceDiv, sMeth1_ap, sSl_ap, sRev_ap, oNo_ap, oPart_ap, sDict0_ap, sSetL_ap, whole_tup]
/-! ### forms -/
theorem measure_in_ok {a b c : Int} {h : Ph} (sa : Sm 200 a) (sb : Sm 200 b) (sc : Sm 200 c) : f_measure_in [.tup [.int a, .int b, .int c]] h = .ok (.int (4 * a * c - b * b)) h := by
  unfold f_measure_in; simp (maxSteps := 4000000) (dsimp := false) (disch := first | assumption | decide | omega | walk_at "cm") only [runDef_ap, sVar_ap, sC_ap, sBin_ap, sNeg_ap, sAnd_ap, sOr_ap, sNot_ap, sIf_ap, sTst_ap, qAnd_ap, qOr_ap, qNot_ap, qYes_ap, sChain_ap, sChain3_ap, sNil_ap, sCons_ap, sTup_ap, sLst_ap, sLstM_ap, sCall_ap, g1_ap, g2_ap, sFn_ap, sAsg_ap, gNm_ap, gTp_ap, gConsS_ap, gNilS_ap, sPar_ap, sPar3_ap, sRet_ap, sRetN_ap, sNx_ap, sBrk_ap, sCnt_ap, sSeq_ap, sIte_ap, sDrop_ap, sFrz_ap, sAug_ap, iRange1_ap, iRange2_ap, iSeq_ap, sFor_ap, sLc_ap, R.toG_ok, ↓R.bind_bnd, bnd_ok, ↓R.bd_bdn, bdn_ok, ↓R.toF_tof, tof_ok, ↓F.seq_sqn, sqn_nx, sqn_ret, sqn_cnt, sqn_brk, ↓F.turn_trn, trn_nx, trn_ret, trn_cnt, trn_brk, F.end_nx, F.end_ret, ↓br_true, br_true, ↓br_false, br_false, Dbr, Dneg, Dtst, opt_some, dAdd_int, dSub_int, dLt_int, dLe_int, dGt_int, dGe_int, dEq_int, dNe_int, dEq_bl, dNe_bl, dMul_cm, dMod_pos, dDiv_pos, dAbs_int, dMax2_int, dMin2_int, dInt_int, dInt_bl, dIx_tup, dIx_lst, dIx_seq, dLen_tup, dLen_lst, dLen_seq, atI_0, atI_1, atI_2, atI_3, List.map_cons, List.map_nil, List.length_cons, List.length_nil, List.replicate_succ, List.replicate_zero, List.cons_append, List.nil_append, List.getElem?_cons_zero, List.getElem?_cons_succ, List.set_cons_zero, List.set_cons_succ, Nat.reduceAdd, Nat.reduceSub, Nat.zero_add, Nat.add_zero, Nat.sub_self, Nat.reduceMul, mostL_def, Nat.reduceLeDiff, Nat.reduceLT, ite_true, ite_false, if_true, if_false, ↓reduceIte, reduceIte, ↓br_ite, Bool.false_eq_true, reduceCtorEq, Bool.not_true, Bool.not_false, decide_true, decide_false, Int.cast_ofNat_Int, Int.reduceBEq, Int.reduceAdd, Int.reduceSub, Int.reduceMul, Int.reduceNeg, Int.reduceLT, Int.reduceLE, Int.reduceMod, Int.reduceDiv, sMeth1_ap, sSl_ap, sRev_ap, oNo_ap, oPart_ap, sDict0_ap, sSetL_ap]
theorem form_non {h : Ph} : f_is_form [.non] h = .ok (.bl false) h := by
  unfold f_is_form; simp (maxSteps := 4000000) (dsimp := false) (disch := first | assumption | decide | omega | walk_at "cm") only [runDef_ap, sVar_ap, sC_ap, sBin_ap, sNeg_ap, sAnd_ap, sOr_ap, sNot_ap, sIf_ap, sTst_ap, qAnd_ap, qOr_ap, qNot_ap, qYes_ap, sChain_ap, sChain3_ap, sNil_ap, sCons_ap, sTup_ap, sLst_ap, sLstM_ap, sCall_ap, g1_ap, g2_ap, sFn_ap, sAsg_ap, gNm_ap, gTp_ap, gConsS_ap, gNilS_ap, sPar_ap, sPar3_ap, sRet_ap, sRetN_ap, sNx_ap, sBrk_ap, sCnt_ap, sSeq_ap, sIte_ap, sDrop_ap, sFrz_ap, sAug_ap, iRange1_ap, iRange2_ap, iSeq_ap, sFor_ap, sLc_ap, R.toG_ok, ↓R.bind_bnd, bnd_ok, ↓R.bd_bdn, bdn_ok, ↓R.toF_tof, tof_ok, ↓F.seq_sqn, sqn_nx, sqn_ret, sqn_cnt, sqn_brk, ↓F.turn_trn, trn_nx, trn_ret, trn_cnt, trn_brk, F.end_nx, F.end_ret, ↓br_true, br_true, ↓br_false, br_false, Dbr, Dneg, Dtst, opt_some, dAdd_int, dSub_int, dLt_int, dLe_int, dGt_int, dGe_int, dEq_int, dNe_int, dEq_bl, dNe_bl, dMul_cm, dMod_pos, dDiv_pos, dAbs_int, dMax2_int, dMin2_int, dInt_int, dInt_bl, dIx_tup, dIx_lst, dIx_seq, dLen_tup, dLen_lst, dLen_seq, atI_0, atI_1, atI_2, atI_3, List.map_cons, List.map_nil, List.length_cons, List.length_nil, List.replicate_succ, List.replicate_zero, List.cons_append, List.nil_append, List.getElem?_cons_zero, List.getElem?_cons_succ, List.set_cons_zero, List.set_cons_succ, Nat.reduceAdd, Nat.reduceSub, Nat.zero_add, Nat.add_zero, Nat.sub_self, Nat.reduceMul, mostL_def, Nat.reduceLeDiff, Nat.reduceLT, ite_true, ite_false, if_true, if_false, ↓reduceIte, reduceIte, ↓br_ite, Bool.false_eq_true, reduceCtorEq, Bool.not_true, Bool.not_false, decide_true, decide_false, Int.cast_ofNat_Int, Int.reduceBEq, Int.reduceAdd, Int.reduceSub, Int.reduceMul, Int.reduceNeg, Int.reduceLT, Int.reduceLE, Int.reduceMod, Int.reduceDiv, sMeth1_ap, sSl_ap, sRev_ap, oNo_ap, oPart_ap, sDict0_ap, sSetL_ap, isi_non, kit_non_tuple]
theorem form_int {i : Int} {h : Ph} : f_is_form [.int i] h = .ok (.bl false) h := by
  unfold f_is_form; simp (maxSteps := 4000000) (dsimp := false) (disch := first | assumption | decide | omega | walk_at "cm") only [runDef_ap, sVar_ap, sC_ap, sBin_ap, sNeg_ap, sAnd_ap, sOr_ap, sNot_ap, sIf_ap, sTst_ap, qAnd_ap, qOr_ap, qNot_ap, qYes_ap, sChain_ap, sChain3_ap, sNil_ap, sCons_ap, sTup_ap, sLst_ap, sLstM_ap, sCall_ap, g1_ap, g2_ap, sFn_ap, sAsg_ap, gNm_ap, gTp_ap, gConsS_ap, gNilS_ap, sPar_ap, sPar3_ap, sRet_ap, sRetN_ap, sNx_ap, sBrk_ap, sCnt_ap, sSeq_ap, sIte_ap, sDrop_ap, sFrz_ap, sAug_ap, iRange1_ap, iRange2_ap, iSeq_ap, sFor_ap, sLc_ap, R.toG_ok, ↓R.bind_bnd, bnd_ok, ↓R.bd_bdn, bdn_ok, ↓R.toF_tof, tof_ok, ↓F.seq_sqn, sqn_nx, sqn_ret, sqn_cnt, sqn_brk, ↓F.turn_trn, trn_nx, trn_ret, trn_cnt, trn_brk, F.end_nx, F.end_ret, ↓br_true, br_true, ↓br_false, br_false, Dbr, Dneg, Dtst, opt_some, dAdd_int, dSub_int, dLt_int, dLe_int, dGt_int, dGe_int, dEq_int, dNe_int, dEq_bl, dNe_bl, dMul_cm, dMod_pos, dDiv_pos, dAbs_int, dMax2_int, dMin2_int, dInt_int, dInt_bl, dIx_tup, dIx_lst, dIx_seq, dLen_tup, dLen_lst, dLen_seq, atI_0, atI_1, atI_2, atI_3, List.map_cons, List.map_nil, List.length_cons, List.length_nil, List.replicate_succ, List.replicate_zero, List.cons_append, List.nil_append, List.getElem?_cons_zero, List.getElem?_cons_succ, List.set_cons_zero, List.set_cons_succ, Nat.reduceAdd, Nat.reduceSub, Nat.zero_add, Nat.add_zero, Nat.sub_self, Nat.reduceMul, mostL_def, Nat.reduceLeDiff, Nat.reduceLT, ite_true, ite_false, if_true, if_false, ↓reduceIte, reduceIte, ↓br_ite, Bool.false_eq_true, reduceCtorEq, Bool.not_true, Bool.not_false, decide_true, decide_false, Int.cast_ofNat_Int, Int.reduceBEq, Int.reduceAdd, Int.reduceSub, Int.reduceMul, Int.reduceNeg, Int.reduceLT, Int.reduceLE, Int.reduceMod, Int.reduceDiv, sMeth1_ap, sSl_ap, sRev_ap, oNo_ap, oPart_ap, sDict0_ap, sSetL_ap, isi_int, kit_int_tuple]
theorem form_str {i : Str} {h : Ph} : f_is_form [.str i] h = .ok (.bl false) h := by
  unfold f_is_form; simp (maxSteps := 4000000) (dsimp := false) (disch := first | assumption | decide | omega | walk_at "cm") only [runDef_ap, sVar_ap, sC_ap, sBin_ap, sNeg_ap, sAnd_ap, sOr_ap, sNot_ap, sIf_ap, sTst_ap, qAnd_ap, qOr_ap, qNot_ap, qYes_ap, sChain_ap, sChain3_ap, sNil_ap, sCons_ap, sTup_ap, sLst_ap, sLstM_ap, sCall_ap, g1_ap, g2_ap, sFn_ap, sAsg_ap, gNm_ap, gTp_ap, gConsS_ap, gNilS_ap, sPar_ap, sPar3_ap, sRet_ap, sRetN_ap, sNx_ap, sBrk_ap, sCnt_ap, sSeq_ap, sIte_ap, sDrop_ap, sFrz_ap, sAug_ap, iRange1_ap, iRange2_ap, iSeq_ap, sFor_ap, sLc_ap, R.toG_ok, ↓R.bind_bnd, bnd_ok, ↓R.bd_bdn, bdn_ok, ↓R.toF_tof, tof_ok, ↓F.seq_sqn, sqn_nx, sqn_ret, sqn_cnt, sqn_brk, ↓F.turn_trn, trn_nx, trn_ret, trn_cnt, trn_brk, F.end_nx, F.end_ret, ↓br_true, br_true, ↓br_false, br_false, Dbr, Dneg, Dtst, opt_some, dAdd_int, dSub_int, dLt_int, dLe_int, dGt_int, dGe_int, dEq_int, dNe_int, dEq_bl, dNe_bl, dMul_cm, dMod_pos, dDiv_pos, dAbs_int, dMax2_int, dMin2_int, dInt_int, dInt_bl, dIx_tup, dIx_lst, dIx_seq, dLen_tup, dLen_lst, dLen_seq, atI_0, atI_1, atI_2, atI_3, List.map_cons, List.map_nil, List.length_cons, List.length_nil, List.replicate_succ, List.replicate_zero, List.cons_append, List.nil_append, List.getElem?_cons_zero, List.getElem?_cons_succ, List.set_cons_zero, List.set_cons_succ, Nat.reduceAdd, Nat.reduceSub, Nat.zero_add, Nat.add_zero, Nat.sub_self, Nat.reduceMul, mostL_def, Nat.reduceLeDiff, Nat.reduceLT, ite_true, ite_false, if_true, if_false, ↓reduceIte, reduceIte, ↓br_ite, Bool.false_eq_true, reduceCtorEq, Bool.not_true, Bool.not_false, decide_true, decide_false, Int.cast_ofNat_Int, Int.reduceBEq, Int.reduceAdd, Int.reduceSub, Int.reduceMul, Int.reduceNeg, Int.reduceLT, Int.reduceLE, Int.reduceMod, Int.reduceDiv, sMeth1_ap, sSl_ap, sRev_ap, oNo_ap, oPart_ap, sDict0_ap, sSetL_ap, isi_str, kit_str_tuple]
theorem form_lst {i : List D} {h : Ph} : f_is_form [.lst i] h = .ok (.bl false) h := by
  unfold f_is_form; simp (maxSteps := 4000000) (dsimp := false) (disch := first | assumption | decide | omega | walk_at "cm") only [runDef_ap, sVar_ap, sC_ap, sBin_ap, sNeg_ap, sAnd_ap, sOr_ap, sNot_ap, sIf_ap, sTst_ap, qAnd_ap, qOr_ap, qNot_ap, qYes_ap, sChain_ap, sChain3_ap, sNil_ap, sCons_ap, sTup_ap, sLst_ap, sLstM_ap, sCall_ap, g1_ap, g2_ap, sFn_ap, sAsg_ap, gNm_ap, gTp_ap, gConsS_ap, gNilS_ap, sPar_ap, sPar3_ap, sRet_ap, sRetN_ap, sNx_ap, sBrk_ap, sCnt_ap, sSeq_ap, sIte_ap, sDrop_ap, sFrz_ap, sAug_ap, iRange1_ap, iRange2_ap, iSeq_ap, sFor_ap, sLc_ap, R.toG_ok, ↓R.bind_bnd, bnd_ok, ↓R.bd_bdn, bdn_ok, ↓R.toF_tof, tof_ok, ↓F.seq_sqn, sqn_nx, sqn_ret, sqn_cnt, sqn_brk, ↓F.turn_trn, trn_nx, trn_ret, trn_cnt, trn_brk, F.end_nx, F.end_ret, ↓br_true, br_true, ↓br_false, br_false, Dbr, Dneg, Dtst, opt_some, dAdd_int, dSub_int, dLt_int, dLe_int, dGt_int, dGe_int, dEq_int, dNe_int, dEq_bl, dNe_bl, dMul_cm, dMod_pos, dDiv_pos, dAbs_int, dMax2_int, dMin2_int, dInt_int, dInt_bl, dIx_tup, dIx_lst, dIx_seq, dLen_tup, dLen_lst, dLen_seq, atI_0, atI_1, atI_2, atI_3, List.map_cons, List.map_nil, List.length_cons, List.length_nil, List.replicate_succ, List.replicate_zero, List.cons_append, List.nil_append, List.getElem?_cons_zero, List.getElem?_cons_succ, List.set_cons_zero, List.set_cons_succ, Nat.reduceAdd, Nat.reduceSub, Nat.zero_add, Nat.add_zero, Nat.sub_self, Nat.reduceMul, mostL_def, Nat.reduceLeDiff, Nat.reduceLT, ite_true, ite_false, if_true, if_false, ↓reduceIte, reduceIte, ↓br_ite, Bool.false_eq_true, reduceCtorEq, Bool.not_true, Bool.not_false, decide_true, decide_false, Int.cast_ofNat_Int, Int.reduceBEq, Int.reduceAdd, Int.reduceSub, Int.reduceMul, Int.reduceNeg, Int.reduceLT, Int.reduceLE, Int.reduceMod, Int.reduceDiv, sMeth1_ap, sSl_ap, sRev_ap, oNo_ap, oPart_ap, sDict0_ap, sSetL_ap, isi_lst, kit_list_tuple]
theorem form_len {xs : List D} {h : Ph} (hn : ((xs.length : Int) == 3) = false) : f_is_form [.tup xs] h = .ok (.bl false) h := by
  unfold f_is_form; simp (maxSteps := 4000000) (dsimp := false) (disch := first | assumption | decide | omega | walk_at "cm") only [runDef_ap, sVar_ap, sC_ap, sBin_ap, sNeg_ap, sAnd_ap, sOr_ap, sNot_ap, sIf_ap, sTst_ap, qAnd_ap, qOr_ap, qNot_ap, qYes_ap, sChain_ap, sChain3_ap, sNil_ap, sCons_ap, sTup_ap, sLst_ap, sLstM_ap, sCall_ap, g1_ap, g2_ap, sFn_ap, sAsg_ap, gNm_ap, gTp_ap, gConsS_ap, gNilS_ap, sPar_ap, sPar3_ap, sRet_ap, sRetN_ap, sNx_ap, sBrk_ap, sCnt_ap, sSeq_ap, sIte_ap, sDrop_ap, sFrz_ap, sAug_ap, iRange1_ap, iRange2_ap, iSeq_ap, sFor_ap, sLc_ap, R.toG_ok, ↓R.bind_bnd, bnd_ok, ↓R.bd_bdn, bdn_ok, ↓R.toF_tof, tof_ok, ↓F.seq_sqn, sqn_nx, sqn_ret, sqn_cnt, sqn_brk, ↓F.turn_trn, trn_nx, trn_ret, trn_cnt, trn_brk, F.end_nx, F.end_ret, ↓br_true, br_true, ↓br_false, br_false, Dbr, Dneg, Dtst, opt_some, dAdd_int, dSub_int, dLt_int, dLe_int, dGt_int, dGe_int, dEq_int, dNe_int, dEq_bl, dNe_bl, dMul_cm, dMod_pos, dDiv_pos, dAbs_int, dMax2_int, dMin2_int, dInt_int, dInt_bl, dIx_tup, dIx_lst, dIx_seq, dLen_tup, dLen_lst, dLen_seq, atI_0, atI_1, atI_2, atI_3, List.map_cons, List.map_nil, List.length_cons, List.length_nil, List.replicate_succ, List.replicate_zero, List.cons_append, List.nil_append, List.getElem?_cons_zero, List.getElem?_cons_succ, List.set_cons_zero, List.set_cons_succ, Nat.reduceAdd, Nat.reduceSub, Nat.zero_add, Nat.add_zero, Nat.sub_self, Nat.reduceMul, mostL_def, Nat.reduceLeDiff, Nat.reduceLT, ite_true, ite_false, if_true, if_false, ↓reduceIte, reduceIte, ↓br_ite, Bool.false_eq_true, reduceCtorEq, Bool.not_true, Bool.not_false, decide_true, decide_false, Int.cast_ofNat_Int, Int.reduceBEq, Int.reduceAdd, Int.reduceSub, Int.reduceMul, Int.reduceNeg, Int.reduceLT, Int.reduceLE, Int.reduceMod, Int.reduceDiv, sMeth1_ap, sSl_ap, sRev_ap, oNo_ap, oPart_ap, sDict0_ap, sSetL_ap, isi_tup, kit_tuple_tuple, hn]
theorem form_bad {x y z : D} {p q r : Bool} {h : Ph} (hx : f_is_integer [x] h = .ok (.bl p) h) (hy : f_is_integer [y] h = .ok (.bl q) h) (hz : f_is_integer [z] h = .ok (.bl r) h) (hb : (p && (q && r)) = false) : f_is_form [.tup [x, y, z]] h = .ok (.bl false) h := by
  have e : ((3 : Int) == 3) = true := rfl
  unfold f_is_form; simp (maxSteps := 4000000) (dsimp := false) (disch := first | assumption | decide | omega | walk_at "cm") only [runDef_ap, sVar_ap, sC_ap, sBin_ap, sNeg_ap, sAnd_ap, sOr_ap, sNot_ap, sIf_ap, sTst_ap, qAnd_ap, qOr_ap, qNot_ap, qYes_ap, sChain_ap, sChain3_ap, sNil_ap, sCons_ap, sTup_ap, sLst_ap, sLstM_ap, sCall_ap, g1_ap, g2_ap, sFn_ap, sAsg_ap, gNm_ap, gTp_ap, gConsS_ap, gNilS_ap, sPar_ap, sPar3_ap, sRet_ap, sRetN_ap, sNx_ap, sBrk_ap, sCnt_ap, sSeq_ap, sIte_ap, sDrop_ap, sFrz_ap, sAug_ap, iRange1_ap, iRange2_ap, iSeq_ap, sFor_ap, sLc_ap, R.toG_ok, ↓R.bind_bnd, bnd_ok, ↓R.bd_bdn, bdn_ok, ↓R.toF_tof, tof_ok, ↓F.seq_sqn, sqn_nx, sqn_ret, sqn_cnt, sqn_brk, ↓F.turn_trn, trn_nx, trn_ret, trn_cnt, trn_brk, F.end_nx, F.end_ret, ↓br_true, br_true, ↓br_false, br_false, Dbr, Dneg, Dtst, opt_some, dAdd_int, dSub_int, dLt_int, dLe_int, dGt_int, dGe_int, dEq_int, dNe_int, dEq_bl, dNe_bl, dMul_cm, dMod_pos, dDiv_pos, dAbs_int, dMax2_int, dMin2_int, dInt_int, dInt_bl, dIx_tup, dIx_lst, dIx_seq, dLen_tup, dLen_lst, dLen_seq, atI_0, atI_1, atI_2, atI_3, List.map_cons, List.map_nil, List.length_cons, List.length_nil, List.replicate_succ, List.replicate_zero, List.cons_append, List.nil_append, List.getElem?_cons_zero, List.getElem?_cons_succ, List.set_cons_zero, List.set_cons_succ, Nat.reduceAdd, Nat.reduceSub, Nat.zero_add, Nat.add_zero, Nat.sub_self, Nat.reduceMul, mostL_def, Nat.reduceLeDiff, Nat.reduceLT, ite_true, ite_false, if_true, if_false, ↓reduceIte, reduceIte, ↓br_ite, Bool.false_eq_true, reduceCtorEq, Bool.not_true, Bool.not_false, decide_true, decide_false, Int.cast_ofNat_Int, Int.reduceBEq, Int.reduceAdd, Int.reduceSub, Int.reduceMul, Int.reduceNeg, Int.reduceLT, Int.reduceLE, Int.reduceMod, Int.reduceDiv, sMeth1_ap, sSl_ap, sRev_ap, oNo_ap, oPart_ap, sDict0_ap, sSetL_ap, isi_tup, kit_tuple_tuple, compGo_cons, compGo_nil, wipe_cons, wipe_nil, iSeq_at, dAll_lst, bls_cons, bls_nil, Option.map_some, List.all_cons, List.all_nil, id, hx, hy, hz, hb, Bool.and_true]
theorem form_ok {a b c : Int} {h : Ph} (sa : Sm 199 a) (sb : Sm 199 b) (sc : Sm 199 c) : f_is_form [.tup [.int a, .int b, .int c]] h = .ok (.bl (decide (0 < a) && decide (0 < 4 * a * c - b * b))) h := by
  have m := measure_in_ok (h := h) (sa.mono (by decide : 199 ≤ 200)) (sb.mono (by decide : 199 ≤ 200)) (sc.mono (by decide : 199 ≤ 200))
  unfold f_is_form; simp (maxSteps := 4000000) (dsimp := false) (disch := first | assumption | decide | omega | walk_at "cm") only [runDef_ap, sVar_ap, sC_ap, sBin_ap, sNeg_ap, sAnd_ap, sOr_ap, sNot_ap, sIf_ap, sTst_ap, qAnd_ap, qOr_ap, qNot_ap, qYes_ap, sChain_ap, sChain3_ap, sNil_ap, sCons_ap, sTup_ap, sLst_ap, sLstM_ap, sCall_ap, g1_ap, g2_ap, sFn_ap, sAsg_ap, gNm_ap, gTp_ap, gConsS_ap, gNilS_ap, sPar_ap, sPar3_ap, sRet_ap, sRetN_ap, sNx_ap, sBrk_ap, sCnt_ap, sSeq_ap, sIte_ap, sDrop_ap, sFrz_ap, sAug_ap, iRange1_ap, iRange2_ap, iSeq_ap, sFor_ap, sLc_ap, R.toG_ok, ↓R.bind_bnd, bnd_ok, ↓R.bd_bdn, bdn_ok, ↓R.toF_tof, tof_ok, ↓F.seq_sqn, sqn_nx, sqn_ret, sqn_cnt, sqn_brk, ↓F.turn_trn, trn_nx, trn_ret, trn_cnt, trn_brk, F.end_nx, F.end_ret, ↓br_true, br_true, ↓br_false, br_false, Dbr, Dneg, Dtst, opt_some, dAdd_int, dSub_int, dLt_int, dLe_int, dGt_int, dGe_int, dEq_int, dNe_int, dEq_bl, dNe_bl, dMul_cm, dMod_pos, dDiv_pos, dAbs_int, dMax2_int, dMin2_int, dInt_int, dInt_bl, dIx_tup, dIx_lst, dIx_seq, dLen_tup, dLen_lst, dLen_seq, atI_0, atI_1, atI_2, atI_3, List.map_cons, List.map_nil, List.length_cons, List.length_nil, List.replicate_succ, List.replicate_zero, List.cons_append, List.nil_append, List.getElem?_cons_zero, List.getElem?_cons_succ, List.set_cons_zero, List.set_cons_succ, Nat.reduceAdd, Nat.reduceSub, Nat.zero_add, Nat.add_zero, Nat.sub_self, Nat.reduceMul, mostL_def, Nat.reduceLeDiff, Nat.reduceLT, ite_true, ite_false, if_true, if_false, ↓reduceIte, reduceIte, ↓br_ite, Bool.false_eq_true, reduceCtorEq, Bool.not_true, Bool.not_false, decide_true, decide_false, Int.cast_ofNat_Int, Int.reduceBEq, Int.reduceAdd, Int.reduceSub, Int.reduceMul, Int.reduceNeg, Int.reduceLT, Int.reduceLE, Int.reduceMod, Int.reduceDiv, sMeth1_ap, sSl_ap, sRev_ap, oNo_ap, oPart_ap, sDict0_ap, sSetL_ap, isi_tup, kit_tuple_tuple, compGo_cons, compGo_nil, wipe_cons, wipe_nil, iSeq_at, dAll_lst, bls_cons, bls_nil, Option.map_some, List.all_cons, List.all_nil, id, integer_int, Iz.ok sa, Iz.ok sb, Iz.ok sc, Bool.and_true, m, it_bl, br_bl, it_and, br_and]
/-- three whole numbers of a form with a measure above 0 -/
structure Fm (k : Nat) (a b c : Int) : Prop where
  sa : Sm k a
  sb : Sm k b
  sc : Sm k c
  pos : 0 < a
  mea : 0 < 4 * a * c - b * b
theorem Fm.mono {j k : Nat} {a b c : Int} (f : Fm j a b c) (h : j ≤ k) : Fm k a b c := ⟨f.sa.mono h, f.sb.mono h, f.sc.mono h, f.pos, f.mea⟩
abbrev T3 (a b c : Int) : D := .tup [.int a, .int b, .int c]
abbrev T4 (a b c d : Int) : D := .tup [.int a, .int b, .int c, .int d]
section
variable {a b c : Int} {h : Ph}
theorem form_fm (f : Fm 199 a b c) : f_is_form [T3 a b c] h = .ok (.bl true) h := by
  rw [form_ok f.sa f.sb f.sc, decide_eq_true f.pos, decide_eq_true f.mea]; rfl
theorem require_form_fm (f : Fm 199 a b c) : f_require_form [T3 a b c] h = .ok .non h := by
  unfold f_require_form; simp (maxSteps := 4000000) (dsimp := false) (disch := first | assumption | decide | omega | walk_at "cm") only [runDef_ap, sVar_ap, sC_ap, sBin_ap, sNeg_ap, sAnd_ap, sOr_ap, sNot_ap, sIf_ap, sTst_ap, qAnd_ap, qOr_ap, qNot_ap, qYes_ap, sChain_ap, sChain3_ap, sNil_ap, sCons_ap, sTup_ap, sLst_ap, sLstM_ap, sCall_ap, g1_ap, g2_ap, sFn_ap, sAsg_ap, gNm_ap, gTp_ap, gConsS_ap, gNilS_ap, sPar_ap, sPar3_ap, sRet_ap, sRetN_ap, sNx_ap, sBrk_ap, sCnt_ap, sSeq_ap, sIte_ap, sDrop_ap, sFrz_ap, sAug_ap, iRange1_ap, iRange2_ap, iSeq_ap, sFor_ap, sLc_ap, R.toG_ok, ↓R.bind_bnd, bnd_ok, ↓R.bd_bdn, bdn_ok, ↓R.toF_tof, tof_ok, ↓F.seq_sqn, sqn_nx, sqn_ret, sqn_cnt, sqn_brk, ↓F.turn_trn, trn_nx, trn_ret, trn_cnt, trn_brk, F.end_nx, F.end_ret, ↓br_true, br_true, ↓br_false, br_false, Dbr, Dneg, Dtst, opt_some, dAdd_int, dSub_int, dLt_int, dLe_int, dGt_int, dGe_int, dEq_int, dNe_int, dEq_bl, dNe_bl, dMul_cm, dMod_pos, dDiv_pos, dAbs_int, dMax2_int, dMin2_int, dInt_int, dInt_bl, dIx_tup, dIx_lst, dIx_seq, dLen_tup, dLen_lst, dLen_seq, atI_0, atI_1, atI_2, atI_3, List.map_cons, List.map_nil, List.length_cons, List.length_nil, List.replicate_succ, List.replicate_zero, List.cons_append, List.nil_append, List.getElem?_cons_zero, List.getElem?_cons_succ, List.set_cons_zero, List.set_cons_succ, Nat.reduceAdd, Nat.reduceSub, Nat.zero_add, Nat.add_zero, Nat.sub_self, Nat.reduceMul, mostL_def, Nat.reduceLeDiff, Nat.reduceLT, ite_true, ite_false, if_true, if_false, ↓reduceIte, reduceIte, ↓br_ite, Bool.false_eq_true, reduceCtorEq, Bool.not_true, Bool.not_false, decide_true, decide_false, Int.cast_ofNat_Int, Int.reduceBEq, Int.reduceAdd, Int.reduceSub, Int.reduceMul, Int.reduceNeg, Int.reduceLT, Int.reduceLE, Int.reduceMod, Int.reduceDiv, sMeth1_ap, sSl_ap, sRev_ap, oNo_ap, oPart_ap, sDict0_ap, sSetL_ap, form_fm f]
theorem measure_of_fm (f : Fm 199 a b c) : f_measure_of [T3 a b c] h = .ok (.int (4 * a * c - b * b)) h := by
  unfold f_measure_of; simp (maxSteps := 4000000) (dsimp := false) (disch := first | assumption | decide | omega | walk_at "cm") only [runDef_ap, sVar_ap, sC_ap, sBin_ap, sNeg_ap, sAnd_ap, sOr_ap, sNot_ap, sIf_ap, sTst_ap, qAnd_ap, qOr_ap, qNot_ap, qYes_ap, sChain_ap, sChain3_ap, sNil_ap, sCons_ap, sTup_ap, sLst_ap, sLstM_ap, sCall_ap, g1_ap, g2_ap, sFn_ap, sAsg_ap, gNm_ap, gTp_ap, gConsS_ap, gNilS_ap, sPar_ap, sPar3_ap, sRet_ap, sRetN_ap, sNx_ap, sBrk_ap, sCnt_ap, sSeq_ap, sIte_ap, sDrop_ap, sFrz_ap, sAug_ap, iRange1_ap, iRange2_ap, iSeq_ap, sFor_ap, sLc_ap, R.toG_ok, ↓R.bind_bnd, bnd_ok, ↓R.bd_bdn, bdn_ok, ↓R.toF_tof, tof_ok, ↓F.seq_sqn, sqn_nx, sqn_ret, sqn_cnt, sqn_brk, ↓F.turn_trn, trn_nx, trn_ret, trn_cnt, trn_brk, F.end_nx, F.end_ret, ↓br_true, br_true, ↓br_false, br_false, Dbr, Dneg, Dtst, opt_some, dAdd_int, dSub_int, dLt_int, dLe_int, dGt_int, dGe_int, dEq_int, dNe_int, dEq_bl, dNe_bl, dMul_cm, dMod_pos, dDiv_pos, dAbs_int, dMax2_int, dMin2_int, dInt_int, dInt_bl, dIx_tup, dIx_lst, dIx_seq, dLen_tup, dLen_lst, dLen_seq, atI_0, atI_1, atI_2, atI_3, List.map_cons, List.map_nil, List.length_cons, List.length_nil, List.replicate_succ, List.replicate_zero, List.cons_append, List.nil_append, List.getElem?_cons_zero, List.getElem?_cons_succ, List.set_cons_zero, List.set_cons_succ, Nat.reduceAdd, Nat.reduceSub, Nat.zero_add, Nat.add_zero, Nat.sub_self, Nat.reduceMul, mostL_def, Nat.reduceLeDiff, Nat.reduceLT, ite_true, ite_false, if_true, if_false, ↓reduceIte, reduceIte, ↓br_ite, Bool.false_eq_true, reduceCtorEq, Bool.not_true, Bool.not_false, decide_true, decide_false, Int.cast_ofNat_Int, Int.reduceBEq, Int.reduceAdd, Int.reduceSub, Int.reduceMul, Int.reduceNeg, Int.reduceLT, Int.reduceLE, Int.reduceMod, Int.reduceDiv, sMeth1_ap, sSl_ap, sRev_ap, oNo_ap, oPart_ap, sDict0_ap, sSetL_ap, require_form_fm f, measure_in_ok (f.sa.mono (by decide : 199 ≤ 200)) (f.sb.mono (by decide : 199 ≤ 200)) (f.sc.mono (by decide : 199 ≤ 200))]
/-- reduced -/
def Lst (a b c : Int) : Bool := (decide (-a ≤ b) && (decide (b ≤ a) && decide (a ≤ c))) && (decide (0 ≤ b) || (!(b == -a) && !(a == c)))
theorem least_ok : f_is_least [T3 a b c] h = .ok (.bl (Lst a b c)) h := by
  unfold f_is_least Lst
  by_cases h1 : -a ≤ b <;> by_cases h2 : b ≤ a <;> by_cases h3 : a ≤ c <;> by_cases h4 : 0 ≤ b <;> first | (exfalso; omega) | (simp (maxSteps := 4000000) (dsimp := false) (disch := first | assumption | decide | omega | walk_at "cm") only [runDef_ap, sVar_ap, sC_ap, sBin_ap, sNeg_ap, sAnd_ap, sOr_ap, sNot_ap, sIf_ap, sTst_ap, qAnd_ap, qOr_ap, qNot_ap, qYes_ap, sChain_ap, sChain3_ap, sNil_ap, sCons_ap, sTup_ap, sLst_ap, sLstM_ap, sCall_ap, g1_ap, g2_ap, sFn_ap, sAsg_ap, gNm_ap, gTp_ap, gConsS_ap, gNilS_ap, sPar_ap, sPar3_ap, sRet_ap, sRetN_ap, sNx_ap, sBrk_ap, sCnt_ap, sSeq_ap, sIte_ap, sDrop_ap, sFrz_ap, sAug_ap, iRange1_ap, iRange2_ap, iSeq_ap, sFor_ap, sLc_ap, R.toG_ok, ↓R.bind_bnd, bnd_ok, ↓R.bd_bdn, bdn_ok, ↓R.toF_tof, tof_ok, ↓F.seq_sqn, sqn_nx, sqn_ret, sqn_cnt, sqn_brk, ↓F.turn_trn, trn_nx, trn_ret, trn_cnt, trn_brk, F.end_nx, F.end_ret, ↓br_true, br_true, ↓br_false, br_false, Dbr, Dneg, Dtst, opt_some, dAdd_int, dSub_int, dLt_int, dLe_int, dGt_int, dGe_int, dEq_int, dNe_int, dEq_bl, dNe_bl, dMul_cm, dMod_pos, dDiv_pos, dAbs_int, dMax2_int, dMin2_int, dInt_int, dInt_bl, dIx_tup, dIx_lst, dIx_seq, dLen_tup, dLen_lst, dLen_seq, atI_0, atI_1, atI_2, atI_3, List.map_cons, List.map_nil, List.length_cons, List.length_nil, List.replicate_succ, List.replicate_zero, List.cons_append, List.nil_append, List.getElem?_cons_zero, List.getElem?_cons_succ, List.set_cons_zero, List.set_cons_succ, Nat.reduceAdd, Nat.reduceSub, Nat.zero_add, Nat.add_zero, Nat.sub_self, Nat.reduceMul, mostL_def, Nat.reduceLeDiff, Nat.reduceLT, ite_true, ite_false, if_true, if_false, ↓reduceIte, reduceIte, ↓br_ite, Bool.false_eq_true, reduceCtorEq, Bool.not_true, Bool.not_false, decide_true, decide_false, Int.cast_ofNat_Int, Int.reduceBEq, Int.reduceAdd, Int.reduceSub, Int.reduceMul, Int.reduceNeg, Int.reduceLT, Int.reduceLE, Int.reduceMod, Int.reduceDiv, sMeth1_ap, sSl_ap, sRev_ap, oNo_ap, oPart_ap, sDict0_ap, sSetL_ap, gTp_ap, gConsS_ap, gNilS_ap, sNeg_ap, h1, h2, h3, h4, it_bl, br_bl, it_and, br_and, it_or, br_or]; done) | (simp (maxSteps := 4000000) (dsimp := false) (disch := first | assumption | decide | omega | walk_at "cm") only [runDef_ap, sVar_ap, sC_ap, sBin_ap, sNeg_ap, sAnd_ap, sOr_ap, sNot_ap, sIf_ap, sTst_ap, qAnd_ap, qOr_ap, qNot_ap, qYes_ap, sChain_ap, sChain3_ap, sNil_ap, sCons_ap, sTup_ap, sLst_ap, sLstM_ap, sCall_ap, g1_ap, g2_ap, sFn_ap, sAsg_ap, gNm_ap, gTp_ap, gConsS_ap, gNilS_ap, sPar_ap, sPar3_ap, sRet_ap, sRetN_ap, sNx_ap, sBrk_ap, sCnt_ap, sSeq_ap, sIte_ap, sDrop_ap, sFrz_ap, sAug_ap, iRange1_ap, iRange2_ap, iSeq_ap, sFor_ap, sLc_ap, R.toG_ok, ↓R.bind_bnd, bnd_ok, ↓R.bd_bdn, bdn_ok, ↓R.toF_tof, tof_ok, ↓F.seq_sqn, sqn_nx, sqn_ret, sqn_cnt, sqn_brk, ↓F.turn_trn, trn_nx, trn_ret, trn_cnt, trn_brk, F.end_nx, F.end_ret, ↓br_true, br_true, ↓br_false, br_false, Dbr, Dneg, Dtst, opt_some, dAdd_int, dSub_int, dLt_int, dLe_int, dGt_int, dGe_int, dEq_int, dNe_int, dEq_bl, dNe_bl, dMul_cm, dMod_pos, dDiv_pos, dAbs_int, dMax2_int, dMin2_int, dInt_int, dInt_bl, dIx_tup, dIx_lst, dIx_seq, dLen_tup, dLen_lst, dLen_seq, atI_0, atI_1, atI_2, atI_3, List.map_cons, List.map_nil, List.length_cons, List.length_nil, List.replicate_succ, List.replicate_zero, List.cons_append, List.nil_append, List.getElem?_cons_zero, List.getElem?_cons_succ, List.set_cons_zero, List.set_cons_succ, Nat.reduceAdd, Nat.reduceSub, Nat.zero_add, Nat.add_zero, Nat.sub_self, Nat.reduceMul, mostL_def, Nat.reduceLeDiff, Nat.reduceLT, ite_true, ite_false, if_true, if_false, ↓reduceIte, reduceIte, ↓br_ite, Bool.false_eq_true, reduceCtorEq, Bool.not_true, Bool.not_false, decide_true, decide_false, Int.cast_ofNat_Int, Int.reduceBEq, Int.reduceAdd, Int.reduceSub, Int.reduceMul, Int.reduceNeg, Int.reduceLT, Int.reduceLE, Int.reduceMod, Int.reduceDiv, sMeth1_ap, sSl_ap, sRev_ap, oNo_ap, oPart_ap, sDict0_ap, sSetL_ap, gTp_ap, gConsS_ap, gNilS_ap, sNeg_ap, h1, h2, h3, h4, it_bl, br_bl, it_and, br_and, it_or, br_or]; rfl)
theorem reduced_fm (f : Fm 199 a b c) : f_is_reduced [T3 a b c] h = .ok (.bl (Lst a b c)) h := by
  unfold f_is_reduced; simp (maxSteps := 4000000) (dsimp := false) (disch := first | assumption | decide | omega | walk_at "cm") only [runDef_ap, sVar_ap, sC_ap, sBin_ap, sNeg_ap, sAnd_ap, sOr_ap, sNot_ap, sIf_ap, sTst_ap, qAnd_ap, qOr_ap, qNot_ap, qYes_ap, sChain_ap, sChain3_ap, sNil_ap, sCons_ap, sTup_ap, sLst_ap, sLstM_ap, sCall_ap, g1_ap, g2_ap, sFn_ap, sAsg_ap, gNm_ap, gTp_ap, gConsS_ap, gNilS_ap, sPar_ap, sPar3_ap, sRet_ap, sRetN_ap, sNx_ap, sBrk_ap, sCnt_ap, sSeq_ap, sIte_ap, sDrop_ap, sFrz_ap, sAug_ap, iRange1_ap, iRange2_ap, iSeq_ap, sFor_ap, sLc_ap, R.toG_ok, ↓R.bind_bnd, bnd_ok, ↓R.bd_bdn, bdn_ok, ↓R.toF_tof, tof_ok, ↓F.seq_sqn, sqn_nx, sqn_ret, sqn_cnt, sqn_brk, ↓F.turn_trn, trn_nx, trn_ret, trn_cnt, trn_brk, F.end_nx, F.end_ret, ↓br_true, br_true, ↓br_false, br_false, Dbr, Dneg, Dtst, opt_some, dAdd_int, dSub_int, dLt_int, dLe_int, dGt_int, dGe_int, dEq_int, dNe_int, dEq_bl, dNe_bl, dMul_cm, dMod_pos, dDiv_pos, dAbs_int, dMax2_int, dMin2_int, dInt_int, dInt_bl, dIx_tup, dIx_lst, dIx_seq, dLen_tup, dLen_lst, dLen_seq, atI_0, atI_1, atI_2, atI_3, List.map_cons, List.map_nil, List.length_cons, List.length_nil, List.replicate_succ, List.replicate_zero, List.cons_append, List.nil_append, List.getElem?_cons_zero, List.getElem?_cons_succ, List.set_cons_zero, List.set_cons_succ, Nat.reduceAdd, Nat.reduceSub, Nat.zero_add, Nat.add_zero, Nat.sub_self, Nat.reduceMul, mostL_def, Nat.reduceLeDiff, Nat.reduceLT, ite_true, ite_false, if_true, if_false, ↓reduceIte, reduceIte, ↓br_ite, Bool.false_eq_true, reduceCtorEq, Bool.not_true, Bool.not_false, decide_true, decide_false, Int.cast_ofNat_Int, Int.reduceBEq, Int.reduceAdd, Int.reduceSub, Int.reduceMul, Int.reduceNeg, Int.reduceLT, Int.reduceLE, Int.reduceMod, Int.reduceDiv, sMeth1_ap, sSl_ap, sRev_ap, oNo_ap, oPart_ap, sDict0_ap, sSetL_ap, require_form_fm f, least_ok]
end
/-! ### the divisor -/
theorem dMod_f {i j : Int} {h : Ph} (hj : j ≠ 0) : dMod (.int i) (.int j) h = .ok (.int (i.fmod j)) h := by
  show (if 0 < j then _ else _) = _
  by_cases h0 : 0 < j
  · rw [if_pos h0, Int.fmod_eq_emod_of_nonneg i (by omega)]
  · rw [if_neg h0, if_pos hj]
theorem fmod_gcd (a b : Int) : Int.gcd b (a.fmod b) = Int.gcd a b := by
  have e : a.fmod b = a - b * a.fdiv b := by have := Int.mul_fdiv_add_fmod a b; omega
  rw [e, Int.gcd_sub_mul_left_right, Int.gcd_comm]
theorem fmod_lt (a b : Int) (h : b ≠ 0) : (a.fmod b).natAbs < b.natAbs := by
  by_cases h0 : 0 < b
  · have h1 := Int.fmod_lt_of_pos a h0
    have h2 := Int.fmod_nonneg_of_pos a h0
    omega
  · have h1 := Int.fmod_lt_of_pos (-a) (b := -b) (by omega)
    have h2 := Int.fmod_nonneg_of_pos (-a) (b := -b) (by omega)
    rw [Int.neg_fmod_neg] at h1 h2
    omega
theorem div_loop (c : ST) (hc : ∀ (a b : Int) (h : Ph), c [some (.int a), some (.int b)] h = .ok (!(b == 0)) h)
    (f : SS) (hf : ∀ (a b : Int) (h : Ph), b ≠ 0 → f [some (.int a), some (.int b)] h = .nx [some (.int b), some (.int (a.fmod b))] h) :
    ∀ (k : Nat) (a b : Int) (h : Ph) (N : Nat), b.natAbs ≤ k → k < N → ∃ x : Int, x.natAbs = Int.gcd a b ∧ sWhile N c f [some (.int a), some (.int b)] h = .nx [some (.int x), some (.int 0)] h := by
  intro k
  induction k with
  | zero =>
    intro a b h N hk hN
    obtain ⟨N, rfl⟩ : ∃ M, N = M + 1 := ⟨N - 1, by omega⟩
    have : b = 0 := by omega
    subst this
    refine ⟨a, (Int.gcd_zero_right a).symm, ?_⟩
    unfold sWhile
    rw [hc a 0 h]
    rfl
  | succ k ih =>
    intro a b h N hk hN
    obtain ⟨N, rfl⟩ : ∃ M, N = M + 1 := ⟨N - 1, by omega⟩
    by_cases h0 : b = 0
    · subst h0
      refine ⟨a, (Int.gcd_zero_right a).symm, ?_⟩
      unfold sWhile
      rw [hc a 0 h]
      rfl
    · have hl := fmod_lt a b h0
      obtain ⟨x, hx, hw⟩ := ih b (a.fmod b) h N (by omega) (by omega)
      refine ⟨x, by rw [hx, fmod_gcd], ?_⟩
      unfold sWhile
      rw [hc a b h, show (b == 0) = false from beq_false_of_ne h0]
      show (f [some (.int a), some (.int b)] h).turn _ = _
      rw [hf a b h h0]
      exact hw
theorem div_cond (a b : Int) (h : Ph) : sTst (sBin dNe (sVar 1) (sC (.int 0))) [some (.int a), some (.int b)] h = .ok (!(b == 0)) h := by
  simp (maxSteps := 4000000) (dsimp := false) (disch := first | assumption | decide | omega | walk_at "cm") only [runDef_ap, sVar_ap, sC_ap, sBin_ap, sNeg_ap, sAnd_ap, sOr_ap, sNot_ap, sIf_ap, sTst_ap, qAnd_ap, qOr_ap, qNot_ap, qYes_ap, sChain_ap, sChain3_ap, sNil_ap, sCons_ap, sTup_ap, sLst_ap, sLstM_ap, sCall_ap, g1_ap, g2_ap, sFn_ap, sAsg_ap, gNm_ap, gTp_ap, gConsS_ap, gNilS_ap, sPar_ap, sPar3_ap, sRet_ap, sRetN_ap, sNx_ap, sBrk_ap, sCnt_ap, sSeq_ap, sIte_ap, sDrop_ap, sFrz_ap, sAug_ap, iRange1_ap, iRange2_ap, iSeq_ap, sFor_ap, sLc_ap, R.toG_ok, ↓R.bind_bnd, bnd_ok, ↓R.bd_bdn, bdn_ok, ↓R.toF_tof, tof_ok, ↓F.seq_sqn, sqn_nx, sqn_ret, sqn_cnt, sqn_brk, ↓F.turn_trn, trn_nx, trn_ret, trn_cnt, trn_brk, F.end_nx, F.end_ret, ↓br_true, br_true, ↓br_false, br_false, Dbr, Dneg, Dtst, opt_some, dAdd_int, dSub_int, dLt_int, dLe_int, dGt_int, dGe_int, dEq_int, dNe_int, dEq_bl, dNe_bl, dMul_cm, dMod_pos, dDiv_pos, dAbs_int, dMax2_int, dMin2_int, dInt_int, dInt_bl, dIx_tup, dIx_lst, dIx_seq, dLen_tup, dLen_lst, dLen_seq, atI_0, atI_1, atI_2, atI_3, List.map_cons, List.map_nil, List.length_cons, List.length_nil, List.replicate_succ, List.replicate_zero, List.cons_append, List.nil_append, List.getElem?_cons_zero, List.getElem?_cons_succ, List.set_cons_zero, List.set_cons_succ, Nat.reduceAdd, Nat.reduceSub, Nat.zero_add, Nat.add_zero, Nat.sub_self, Nat.reduceMul, mostL_def, Nat.reduceLeDiff, Nat.reduceLT, ite_true, ite_false, if_true, if_false, ↓reduceIte, reduceIte, ↓br_ite, Bool.false_eq_true, reduceCtorEq, Bool.not_true, Bool.not_false, decide_true, decide_false, Int.cast_ofNat_Int, Int.reduceBEq, Int.reduceAdd, Int.reduceSub, Int.reduceMul, Int.reduceNeg, Int.reduceLT, Int.reduceLE, Int.reduceMod, Int.reduceDiv, sMeth1_ap, sSl_ap, sRev_ap, oNo_ap, oPart_ap, sDict0_ap, sSetL_ap]
theorem div_step (a b : Int) (h : Ph) (hb : b ≠ 0) : sPar 0 1 (sCons (sVar 1) (sCons (sBin dMod (sVar 0) (sVar 1)) (sNil))) [some (.int a), some (.int b)] h = .nx [some (.int b), some (.int (a.fmod b))] h := by
  simp (maxSteps := 4000000) (dsimp := false) (disch := first | assumption | decide | omega | walk_at "cm") only [runDef_ap, sVar_ap, sC_ap, sBin_ap, sNeg_ap, sAnd_ap, sOr_ap, sNot_ap, sIf_ap, sTst_ap, qAnd_ap, qOr_ap, qNot_ap, qYes_ap, sChain_ap, sChain3_ap, sNil_ap, sCons_ap, sTup_ap, sLst_ap, sLstM_ap, sCall_ap, g1_ap, g2_ap, sFn_ap, sAsg_ap, gNm_ap, gTp_ap, gConsS_ap, gNilS_ap, sPar_ap, sPar3_ap, sRet_ap, sRetN_ap, sNx_ap, sBrk_ap, sCnt_ap, sSeq_ap, sIte_ap, sDrop_ap, sFrz_ap, sAug_ap, iRange1_ap, iRange2_ap, iSeq_ap, sFor_ap, sLc_ap, R.toG_ok, ↓R.bind_bnd, bnd_ok, ↓R.bd_bdn, bdn_ok, ↓R.toF_tof, tof_ok, ↓F.seq_sqn, sqn_nx, sqn_ret, sqn_cnt, sqn_brk, ↓F.turn_trn, trn_nx, trn_ret, trn_cnt, trn_brk, F.end_nx, F.end_ret, ↓br_true, br_true, ↓br_false, br_false, Dbr, Dneg, Dtst, opt_some, dAdd_int, dSub_int, dLt_int, dLe_int, dGt_int, dGe_int, dEq_int, dNe_int, dEq_bl, dNe_bl, dMul_cm, dMod_pos, dDiv_pos, dAbs_int, dMax2_int, dMin2_int, dInt_int, dInt_bl, dIx_tup, dIx_lst, dIx_seq, dLen_tup, dLen_lst, dLen_seq, atI_0, atI_1, atI_2, atI_3, List.map_cons, List.map_nil, List.length_cons, List.length_nil, List.replicate_succ, List.replicate_zero, List.cons_append, List.nil_append, List.getElem?_cons_zero, List.getElem?_cons_succ, List.set_cons_zero, List.set_cons_succ, Nat.reduceAdd, Nat.reduceSub, Nat.zero_add, Nat.add_zero, Nat.sub_self, Nat.reduceMul, mostL_def, Nat.reduceLeDiff, Nat.reduceLT, ite_true, ite_false, if_true, if_false, ↓reduceIte, reduceIte, ↓br_ite, Bool.false_eq_true, reduceCtorEq, Bool.not_true, Bool.not_false, decide_true, decide_false, Int.cast_ofNat_Int, Int.reduceBEq, Int.reduceAdd, Int.reduceSub, Int.reduceMul, Int.reduceNeg, Int.reduceLT, Int.reduceLE, Int.reduceMod, Int.reduceDiv, sMeth1_ap, sSl_ap, sRev_ap, oNo_ap, oPart_ap, sDict0_ap, sSetL_ap, dMod_f]
theorem divisor_ok {a b : Int} {h : Ph} (hb : b.natAbs + 1 < FU) : f_divisor_of [.int a, .int b] h = .ok (.int (Int.gcd a b)) h := by
  generalize hF : FU = N at hb
  obtain ⟨x, hx, e⟩ := div_loop _ div_cond _ div_step b.natAbs a b h N (Nat.le_refl _) (by omega)
  have hx' : (if x < 0 then -x else x) = (Int.gcd a b : Int) := by rw [← hx]; split <;> omega
  unfold f_divisor_of
  rw [hF]
  simp (maxSteps := 4000000) (dsimp := false) (disch := first | assumption | decide | omega | walk_at "cm") only [runDef_ap, sVar_ap, sC_ap, sBin_ap, sNeg_ap, sAnd_ap, sOr_ap, sNot_ap, sIf_ap, sTst_ap, qAnd_ap, qOr_ap, qNot_ap, qYes_ap, sChain_ap, sChain3_ap, sNil_ap, sCons_ap, sTup_ap, sLst_ap, sLstM_ap, sCall_ap, g1_ap, g2_ap, sFn_ap, sAsg_ap, gNm_ap, gTp_ap, gConsS_ap, gNilS_ap, sPar_ap, sPar3_ap, sRet_ap, sRetN_ap, sNx_ap, sBrk_ap, sCnt_ap, sSeq_ap, sIte_ap, sDrop_ap, sFrz_ap, sAug_ap, iRange1_ap, iRange2_ap, iSeq_ap, sFor_ap, sLc_ap, R.toG_ok, ↓R.bind_bnd, bnd_ok, ↓R.bd_bdn, bdn_ok, ↓R.toF_tof, tof_ok, ↓F.seq_sqn, sqn_nx, sqn_ret, sqn_cnt, sqn_brk, ↓F.turn_trn, trn_nx, trn_ret, trn_cnt, trn_brk, F.end_nx, F.end_ret, ↓br_true, br_true, ↓br_false, br_false, Dbr, Dneg, Dtst, opt_some, dAdd_int, dSub_int, dLt_int, dLe_int, dGt_int, dGe_int, dEq_int, dNe_int, dEq_bl, dNe_bl, dMul_cm, dMod_pos, dDiv_pos, dAbs_int, dMax2_int, dMin2_int, dInt_int, dInt_bl, dIx_tup, dIx_lst, dIx_seq, dLen_tup, dLen_lst, dLen_seq, atI_0, atI_1, atI_2, atI_3, List.map_cons, List.map_nil, List.length_cons, List.length_nil, List.replicate_succ, List.replicate_zero, List.cons_append, List.nil_append, List.getElem?_cons_zero, List.getElem?_cons_succ, List.set_cons_zero, List.set_cons_succ, Nat.reduceAdd, Nat.reduceSub, Nat.zero_add, Nat.add_zero, Nat.sub_self, Nat.reduceMul, mostL_def, Nat.reduceLeDiff, Nat.reduceLT, ite_true, ite_false, if_true, if_false, ↓reduceIte, reduceIte, ↓br_ite, Bool.false_eq_true, reduceCtorEq, Bool.not_true, Bool.not_false, decide_true, decide_false, Int.cast_ofNat_Int, Int.reduceBEq, Int.reduceAdd, Int.reduceSub, Int.reduceMul, Int.reduceNeg, Int.reduceLT, Int.reduceLE, Int.reduceMod, Int.reduceDiv, sMeth1_ap, sSl_ap, sRev_ap, oNo_ap, oPart_ap, sDict0_ap, sSetL_ap, e, hx']
theorem fu_lt {x : Int} (s : Sm 600 x) : x.natAbs + 1 < FU := by
  have := s.lt
  have h2 : (2 : Nat) ^ 600 + 1 < FU := by decide +kernel
  omega
/-- the common divisor of three -/
def g3 (a b c : Int) : Nat := Int.gcd (Int.gcd a b) c
theorem whole_primitive_ok {a b c : Int} {h : Ph} (sb : Sm 600 b) (sc : Sm 600 c) : f_is_whole_primitive [T3 a b c] h = .ok (.bl ((g3 a b c : Int) == 1)) h := by
  have e1 := fun x h => divisor_ok (a := x) (h := h) (fu_lt sb)
  have e2 := fun x h => divisor_ok (a := x) (h := h) (fu_lt sc)
  unfold f_is_whole_primitive g3; simp (maxSteps := 4000000) (dsimp := false) (disch := first | assumption | decide | omega | walk_at "cm") only [runDef_ap, sVar_ap, sC_ap, sBin_ap, sNeg_ap, sAnd_ap, sOr_ap, sNot_ap, sIf_ap, sTst_ap, qAnd_ap, qOr_ap, qNot_ap, qYes_ap, sChain_ap, sChain3_ap, sNil_ap, sCons_ap, sTup_ap, sLst_ap, sLstM_ap, sCall_ap, g1_ap, g2_ap, sFn_ap, sAsg_ap, gNm_ap, gTp_ap, gConsS_ap, gNilS_ap, sPar_ap, sPar3_ap, sRet_ap, sRetN_ap, sNx_ap, sBrk_ap, sCnt_ap, sSeq_ap, sIte_ap, sDrop_ap, sFrz_ap, sAug_ap, iRange1_ap, iRange2_ap, iSeq_ap, sFor_ap, sLc_ap, R.toG_ok, ↓R.bind_bnd, bnd_ok, ↓R.bd_bdn, bdn_ok, ↓R.toF_tof, tof_ok, ↓F.seq_sqn, sqn_nx, sqn_ret, sqn_cnt, sqn_brk, ↓F.turn_trn, trn_nx, trn_ret, trn_cnt, trn_brk, F.end_nx, F.end_ret, ↓br_true, br_true, ↓br_false, br_false, Dbr, Dneg, Dtst, opt_some, dAdd_int, dSub_int, dLt_int, dLe_int, dGt_int, dGe_int, dEq_int, dNe_int, dEq_bl, dNe_bl, dMul_cm, dMod_pos, dDiv_pos, dAbs_int, dMax2_int, dMin2_int, dInt_int, dInt_bl, dIx_tup, dIx_lst, dIx_seq, dLen_tup, dLen_lst, dLen_seq, atI_0, atI_1, atI_2, atI_3, List.map_cons, List.map_nil, List.length_cons, List.length_nil, List.replicate_succ, List.replicate_zero, List.cons_append, List.nil_append, List.getElem?_cons_zero, List.getElem?_cons_succ, List.set_cons_zero, List.set_cons_succ, Nat.reduceAdd, Nat.reduceSub, Nat.zero_add, Nat.add_zero, Nat.sub_self, Nat.reduceMul, mostL_def, Nat.reduceLeDiff, Nat.reduceLT, ite_true, ite_false, if_true, if_false, ↓reduceIte, reduceIte, ↓br_ite, Bool.false_eq_true, reduceCtorEq, Bool.not_true, Bool.not_false, decide_true, decide_false, Int.cast_ofNat_Int, Int.reduceBEq, Int.reduceAdd, Int.reduceSub, Int.reduceMul, Int.reduceNeg, Int.reduceLT, Int.reduceLE, Int.reduceMod, Int.reduceDiv, sMeth1_ap, sSl_ap, sRev_ap, oNo_ap, oPart_ap, sDict0_ap, sSetL_ap, e1, e2]
theorem primitive_fm {a b c : Int} {h : Ph} (f : Fm 199 a b c) : f_is_primitive [T3 a b c] h = .ok (.bl ((g3 a b c : Int) == 1)) h := by
  unfold f_is_primitive; simp (maxSteps := 4000000) (dsimp := false) (disch := first | assumption | decide | omega | walk_at "cm") only [runDef_ap, sVar_ap, sC_ap, sBin_ap, sNeg_ap, sAnd_ap, sOr_ap, sNot_ap, sIf_ap, sTst_ap, qAnd_ap, qOr_ap, qNot_ap, qYes_ap, sChain_ap, sChain3_ap, sNil_ap, sCons_ap, sTup_ap, sLst_ap, sLstM_ap, sCall_ap, g1_ap, g2_ap, sFn_ap, sAsg_ap, gNm_ap, gTp_ap, gConsS_ap, gNilS_ap, sPar_ap, sPar3_ap, sRet_ap, sRetN_ap, sNx_ap, sBrk_ap, sCnt_ap, sSeq_ap, sIte_ap, sDrop_ap, sFrz_ap, sAug_ap, iRange1_ap, iRange2_ap, iSeq_ap, sFor_ap, sLc_ap, R.toG_ok, ↓R.bind_bnd, bnd_ok, ↓R.bd_bdn, bdn_ok, ↓R.toF_tof, tof_ok, ↓F.seq_sqn, sqn_nx, sqn_ret, sqn_cnt, sqn_brk, ↓F.turn_trn, trn_nx, trn_ret, trn_cnt, trn_brk, F.end_nx, F.end_ret, ↓br_true, br_true, ↓br_false, br_false, Dbr, Dneg, Dtst, opt_some, dAdd_int, dSub_int, dLt_int, dLe_int, dGt_int, dGe_int, dEq_int, dNe_int, dEq_bl, dNe_bl, dMul_cm, dMod_pos, dDiv_pos, dAbs_int, dMax2_int, dMin2_int, dInt_int, dInt_bl, dIx_tup, dIx_lst, dIx_seq, dLen_tup, dLen_lst, dLen_seq, atI_0, atI_1, atI_2, atI_3, List.map_cons, List.map_nil, List.length_cons, List.length_nil, List.replicate_succ, List.replicate_zero, List.cons_append, List.nil_append, List.getElem?_cons_zero, List.getElem?_cons_succ, List.set_cons_zero, List.set_cons_succ, Nat.reduceAdd, Nat.reduceSub, Nat.zero_add, Nat.add_zero, Nat.sub_self, Nat.reduceMul, mostL_def, Nat.reduceLeDiff, Nat.reduceLT, ite_true, ite_false, if_true, if_false, ↓reduceIte, reduceIte, ↓br_ite, Bool.false_eq_true, reduceCtorEq, Bool.not_true, Bool.not_false, decide_true, decide_false, Int.cast_ofNat_Int, Int.reduceBEq, Int.reduceAdd, Int.reduceSub, Int.reduceMul, Int.reduceNeg, Int.reduceLT, Int.reduceLE, Int.reduceMod, Int.reduceDiv, sMeth1_ap, sSl_ap, sRev_ap, oNo_ap, oPart_ap, sDict0_ap, sSetL_ap, require_form_fm f, whole_primitive_ok (f.sb.mono (by decide : 199 ≤ 600)) (f.sc.mono (by decide : 199 ≤ 600))]
theorem gcd3L {a b c : Int} {h : Ph} (sb : Sm 600 b) (sc : Sm 600 c) : (f__law_gcd [.int a, .int b] h = .ok (.int (Int.gcd a b)) h) ∧ f__law_gcd [.int (Int.gcd a b), .int c] h = .ok (.int (g3 a b c)) h := ⟨gcdL_ok _ _ _ (fu_lt sb), gcdL_ok _ _ _ (fu_lt sc)⟩
/-! ### values -/
theorem require_integer_ok {x : Int} {h : Ph} (s : Sm 199 x) : f_require_integer [.int x] h = .ok .non h := by
  unfold f_require_integer; simp (maxSteps := 4000000) (dsimp := false) (disch := first | assumption | decide | omega | walk_at "cm") only [runDef_ap, sVar_ap, sC_ap, sBin_ap, sNeg_ap, sAnd_ap, sOr_ap, sNot_ap, sIf_ap, sTst_ap, qAnd_ap, qOr_ap, qNot_ap, qYes_ap, sChain_ap, sChain3_ap, sNil_ap, sCons_ap, sTup_ap, sLst_ap, sLstM_ap, sCall_ap, g1_ap, g2_ap, sFn_ap, sAsg_ap, gNm_ap, gTp_ap, gConsS_ap, gNilS_ap, sPar_ap, sPar3_ap, sRet_ap, sRetN_ap, sNx_ap, sBrk_ap, sCnt_ap, sSeq_ap, sIte_ap, sDrop_ap, sFrz_ap, sAug_ap, iRange1_ap, iRange2_ap, iSeq_ap, sFor_ap, sLc_ap, R.toG_ok, ↓R.bind_bnd, bnd_ok, ↓R.bd_bdn, bdn_ok, ↓R.toF_tof, tof_ok, ↓F.seq_sqn, sqn_nx, sqn_ret, sqn_cnt, sqn_brk, ↓F.turn_trn, trn_nx, trn_ret, trn_cnt, trn_brk, F.end_nx, F.end_ret, ↓br_true, br_true, ↓br_false, br_false, Dbr, Dneg, Dtst, opt_some, dAdd_int, dSub_int, dLt_int, dLe_int, dGt_int, dGe_int, dEq_int, dNe_int, dEq_bl, dNe_bl, dMul_cm, dMod_pos, dDiv_pos, dAbs_int, dMax2_int, dMin2_int, dInt_int, dInt_bl, dIx_tup, dIx_lst, dIx_seq, dLen_tup, dLen_lst, dLen_seq, atI_0, atI_1, atI_2, atI_3, List.map_cons, List.map_nil, List.length_cons, List.length_nil, List.replicate_succ, List.replicate_zero, List.cons_append, List.nil_append, List.getElem?_cons_zero, List.getElem?_cons_succ, List.set_cons_zero, List.set_cons_succ, Nat.reduceAdd, Nat.reduceSub, Nat.zero_add, Nat.add_zero, Nat.sub_self, Nat.reduceMul, mostL_def, Nat.reduceLeDiff, Nat.reduceLT, ite_true, ite_false, if_true, if_false, ↓reduceIte, reduceIte, ↓br_ite, Bool.false_eq_true, reduceCtorEq, Bool.not_true, Bool.not_false, decide_true, decide_false, Int.cast_ofNat_Int, Int.reduceBEq, Int.reduceAdd, Int.reduceSub, Int.reduceMul, Int.reduceNeg, Int.reduceLT, Int.reduceLE, Int.reduceMod, Int.reduceDiv, sMeth1_ap, sSl_ap, sRev_ap, oNo_ap, oPart_ap, sDict0_ap, sSetL_ap, integer_int, Iz.ok s]
theorem value_at_ok {a b c x y : Int} {h : Ph} (sa : Sm 600 a) (sb : Sm 600 b) (sc : Sm 600 c) (sx : Sm 600 x) (sy : Sm 600 y) : f_value_at [T3 a b c, .int x, .int y] h = .ok (.int (a * x * x + b * x * y + c * y * y)) h := by
  unfold f_value_at; simp (maxSteps := 4000000) (dsimp := false) (disch := first | assumption | decide | omega | walk_at "cm") only [runDef_ap, sVar_ap, sC_ap, sBin_ap, sNeg_ap, sAnd_ap, sOr_ap, sNot_ap, sIf_ap, sTst_ap, qAnd_ap, qOr_ap, qNot_ap, qYes_ap, sChain_ap, sChain3_ap, sNil_ap, sCons_ap, sTup_ap, sLst_ap, sLstM_ap, sCall_ap, g1_ap, g2_ap, sFn_ap, sAsg_ap, gNm_ap, gTp_ap, gConsS_ap, gNilS_ap, sPar_ap, sPar3_ap, sRet_ap, sRetN_ap, sNx_ap, sBrk_ap, sCnt_ap, sSeq_ap, sIte_ap, sDrop_ap, sFrz_ap, sAug_ap, iRange1_ap, iRange2_ap, iSeq_ap, sFor_ap, sLc_ap, R.toG_ok, ↓R.bind_bnd, bnd_ok, ↓R.bd_bdn, bdn_ok, ↓R.toF_tof, tof_ok, ↓F.seq_sqn, sqn_nx, sqn_ret, sqn_cnt, sqn_brk, ↓F.turn_trn, trn_nx, trn_ret, trn_cnt, trn_brk, F.end_nx, F.end_ret, ↓br_true, br_true, ↓br_false, br_false, Dbr, Dneg, Dtst, opt_some, dAdd_int, dSub_int, dLt_int, dLe_int, dGt_int, dGe_int, dEq_int, dNe_int, dEq_bl, dNe_bl, dMul_cm, dMod_pos, dDiv_pos, dAbs_int, dMax2_int, dMin2_int, dInt_int, dInt_bl, dIx_tup, dIx_lst, dIx_seq, dLen_tup, dLen_lst, dLen_seq, atI_0, atI_1, atI_2, atI_3, List.map_cons, List.map_nil, List.length_cons, List.length_nil, List.replicate_succ, List.replicate_zero, List.cons_append, List.nil_append, List.getElem?_cons_zero, List.getElem?_cons_succ, List.set_cons_zero, List.set_cons_succ, Nat.reduceAdd, Nat.reduceSub, Nat.zero_add, Nat.add_zero, Nat.sub_self, Nat.reduceMul, mostL_def, Nat.reduceLeDiff, Nat.reduceLT, ite_true, ite_false, if_true, if_false, ↓reduceIte, reduceIte, ↓br_ite, Bool.false_eq_true, reduceCtorEq, Bool.not_true, Bool.not_false, decide_true, decide_false, Int.cast_ofNat_Int, Int.reduceBEq, Int.reduceAdd, Int.reduceSub, Int.reduceMul, Int.reduceNeg, Int.reduceLT, Int.reduceLE, Int.reduceMod, Int.reduceDiv, sMeth1_ap, sSl_ap, sRev_ap, oNo_ap, oPart_ap, sDict0_ap, sSetL_ap]
theorem value_of_ok {a b c x y : Int} {h : Ph} (f : Fm 199 a b c) (sx : Sm 199 x) (sy : Sm 199 y) : f_value_of [T3 a b c, .int x, .int y] h = .ok (.int (a * x * x + b * x * y + c * y * y)) h := by
  have e := value_at_ok (h := h) (f.sa.mono (by decide : 199 ≤ 600)) (f.sb.mono (by decide : 199 ≤ 600)) (f.sc.mono (by decide : 199 ≤ 600)) (sx.mono (by decide : 199 ≤ 600)) (sy.mono (by decide : 199 ≤ 600))
  unfold f_value_of; simp (maxSteps := 4000000) (dsimp := false) (disch := first | assumption | decide | omega | walk_at "cm") only [runDef_ap, sVar_ap, sC_ap, sBin_ap, sNeg_ap, sAnd_ap, sOr_ap, sNot_ap, sIf_ap, sTst_ap, qAnd_ap, qOr_ap, qNot_ap, qYes_ap, sChain_ap, sChain3_ap, sNil_ap, sCons_ap, sTup_ap, sLst_ap, sLstM_ap, sCall_ap, g1_ap, g2_ap, sFn_ap, sAsg_ap, gNm_ap, gTp_ap, gConsS_ap, gNilS_ap, sPar_ap, sPar3_ap, sRet_ap, sRetN_ap, sNx_ap, sBrk_ap, sCnt_ap, sSeq_ap, sIte_ap, sDrop_ap, sFrz_ap, sAug_ap, iRange1_ap, iRange2_ap, iSeq_ap, sFor_ap, sLc_ap, R.toG_ok, ↓R.bind_bnd, bnd_ok, ↓R.bd_bdn, bdn_ok, ↓R.toF_tof, tof_ok, ↓F.seq_sqn, sqn_nx, sqn_ret, sqn_cnt, sqn_brk, ↓F.turn_trn, trn_nx, trn_ret, trn_cnt, trn_brk, F.end_nx, F.end_ret, ↓br_true, br_true, ↓br_false, br_false, Dbr, Dneg, Dtst, opt_some, dAdd_int, dSub_int, dLt_int, dLe_int, dGt_int, dGe_int, dEq_int, dNe_int, dEq_bl, dNe_bl, dMul_cm, dMod_pos, dDiv_pos, dAbs_int, dMax2_int, dMin2_int, dInt_int, dInt_bl, dIx_tup, dIx_lst, dIx_seq, dLen_tup, dLen_lst, dLen_seq, atI_0, atI_1, atI_2, atI_3, List.map_cons, List.map_nil, List.length_cons, List.length_nil, List.replicate_succ, List.replicate_zero, List.cons_append, List.nil_append, List.getElem?_cons_zero, List.getElem?_cons_succ, List.set_cons_zero, List.set_cons_succ, Nat.reduceAdd, Nat.reduceSub, Nat.zero_add, Nat.add_zero, Nat.sub_self, Nat.reduceMul, mostL_def, Nat.reduceLeDiff, Nat.reduceLT, ite_true, ite_false, if_true, if_false, ↓reduceIte, reduceIte, ↓br_ite, Bool.false_eq_true, reduceCtorEq, Bool.not_true, Bool.not_false, decide_true, decide_false, Int.cast_ofNat_Int, Int.reduceBEq, Int.reduceAdd, Int.reduceSub, Int.reduceMul, Int.reduceNeg, Int.reduceLT, Int.reduceLE, Int.reduceMod, Int.reduceDiv, sMeth1_ap, sSl_ap, sRev_ap, oNo_ap, oPart_ap, sDict0_ap, sSetL_ap, require_form_fm f, require_integer_ok sx, require_integer_ok sy, e]
/-! ### matrices -/
/-- four whole numbers of the determinant 1 -/
structure Mx (k : Nat) (p q r s : Int) : Prop where
  sp : Sm k p
  sq : Sm k q
  sr : Sm k r
  ss : Sm k s
  det : p * s - q * r = 1
theorem Mx.mono {j k : Nat} {p q r s : Int} (f : Mx j p q r s) (h : j ≤ k) : Mx k p q r s := ⟨f.sp.mono h, f.sq.mono h, f.sr.mono h, f.ss.mono h, f.det⟩
section
variable {a b c p q r s : Int} {h : Ph}
theorem turn_mx (m : Mx 199 p q r s) : f_is_turn [T4 p q r s] h = .ok (.bl true) h := by
  have e := m.det
  have sp := m.sp
  have sq := m.sq
  have sr := m.sr
  have ss := m.ss
  unfold f_is_turn; simp (maxSteps := 4000000) (dsimp := false) (disch := first | assumption | decide | omega | walk_at "cm") only [runDef_ap, sVar_ap, sC_ap, sBin_ap, sNeg_ap, sAnd_ap, sOr_ap, sNot_ap, sIf_ap, sTst_ap, qAnd_ap, qOr_ap, qNot_ap, qYes_ap, sChain_ap, sChain3_ap, sNil_ap, sCons_ap, sTup_ap, sLst_ap, sLstM_ap, sCall_ap, g1_ap, g2_ap, sFn_ap, sAsg_ap, gNm_ap, gTp_ap, gConsS_ap, gNilS_ap, sPar_ap, sPar3_ap, sRet_ap, sRetN_ap, sNx_ap, sBrk_ap, sCnt_ap, sSeq_ap, sIte_ap, sDrop_ap, sFrz_ap, sAug_ap, iRange1_ap, iRange2_ap, iSeq_ap, sFor_ap, sLc_ap, R.toG_ok, ↓R.bind_bnd, bnd_ok, ↓R.bd_bdn, bdn_ok, ↓R.toF_tof, tof_ok, ↓F.seq_sqn, sqn_nx, sqn_ret, sqn_cnt, sqn_brk, ↓F.turn_trn, trn_nx, trn_ret, trn_cnt, trn_brk, F.end_nx, F.end_ret, ↓br_true, br_true, ↓br_false, br_false, Dbr, Dneg, Dtst, opt_some, dAdd_int, dSub_int, dLt_int, dLe_int, dGt_int, dGe_int, dEq_int, dNe_int, dEq_bl, dNe_bl, dMul_cm, dMod_pos, dDiv_pos, dAbs_int, dMax2_int, dMin2_int, dInt_int, dInt_bl, dIx_tup, dIx_lst, dIx_seq, dLen_tup, dLen_lst, dLen_seq, atI_0, atI_1, atI_2, atI_3, List.map_cons, List.map_nil, List.length_cons, List.length_nil, List.replicate_succ, List.replicate_zero, List.cons_append, List.nil_append, List.getElem?_cons_zero, List.getElem?_cons_succ, List.set_cons_zero, List.set_cons_succ, Nat.reduceAdd, Nat.reduceSub, Nat.zero_add, Nat.add_zero, Nat.sub_self, Nat.reduceMul, mostL_def, Nat.reduceLeDiff, Nat.reduceLT, ite_true, ite_false, if_true, if_false, ↓reduceIte, reduceIte, ↓br_ite, Bool.false_eq_true, reduceCtorEq, Bool.not_true, Bool.not_false, decide_true, decide_false, Int.cast_ofNat_Int, Int.reduceBEq, Int.reduceAdd, Int.reduceSub, Int.reduceMul, Int.reduceNeg, Int.reduceLT, Int.reduceLE, Int.reduceMod, Int.reduceDiv, sMeth1_ap, sSl_ap, sRev_ap, oNo_ap, oPart_ap, sDict0_ap, sSetL_ap, isi_tup, kit_tuple_tuple, compGo_cons, compGo_nil, wipe_cons, wipe_nil, iSeq_at, dAll_lst, bls_cons, bls_nil, Option.map_some, List.all_cons, List.all_nil, id, whole_int, Bool.and_true, e]
theorem require_turn_mx (m : Mx 199 p q r s) : f_require_turn [T4 p q r s] h = .ok .non h := by
  unfold f_require_turn; simp (maxSteps := 4000000) (dsimp := false) (disch := first | assumption | decide | omega | walk_at "cm") only [runDef_ap, sVar_ap, sC_ap, sBin_ap, sNeg_ap, sAnd_ap, sOr_ap, sNot_ap, sIf_ap, sTst_ap, qAnd_ap, qOr_ap, qNot_ap, qYes_ap, sChain_ap, sChain3_ap, sNil_ap, sCons_ap, sTup_ap, sLst_ap, sLstM_ap, sCall_ap, g1_ap, g2_ap, sFn_ap, sAsg_ap, gNm_ap, gTp_ap, gConsS_ap, gNilS_ap, sPar_ap, sPar3_ap, sRet_ap, sRetN_ap, sNx_ap, sBrk_ap, sCnt_ap, sSeq_ap, sIte_ap, sDrop_ap, sFrz_ap, sAug_ap, iRange1_ap, iRange2_ap, iSeq_ap, sFor_ap, sLc_ap, R.toG_ok, ↓R.bind_bnd, bnd_ok, ↓R.bd_bdn, bdn_ok, ↓R.toF_tof, tof_ok, ↓F.seq_sqn, sqn_nx, sqn_ret, sqn_cnt, sqn_brk, ↓F.turn_trn, trn_nx, trn_ret, trn_cnt, trn_brk, F.end_nx, F.end_ret, ↓br_true, br_true, ↓br_false, br_false, Dbr, Dneg, Dtst, opt_some, dAdd_int, dSub_int, dLt_int, dLe_int, dGt_int, dGe_int, dEq_int, dNe_int, dEq_bl, dNe_bl, dMul_cm, dMod_pos, dDiv_pos, dAbs_int, dMax2_int, dMin2_int, dInt_int, dInt_bl, dIx_tup, dIx_lst, dIx_seq, dLen_tup, dLen_lst, dLen_seq, atI_0, atI_1, atI_2, atI_3, List.map_cons, List.map_nil, List.length_cons, List.length_nil, List.replicate_succ, List.replicate_zero, List.cons_append, List.nil_append, List.getElem?_cons_zero, List.getElem?_cons_succ, List.set_cons_zero, List.set_cons_succ, Nat.reduceAdd, Nat.reduceSub, Nat.zero_add, Nat.add_zero, Nat.sub_self, Nat.reduceMul, mostL_def, Nat.reduceLeDiff, Nat.reduceLT, ite_true, ite_false, if_true, if_false, ↓reduceIte, reduceIte, ↓br_ite, Bool.false_eq_true, reduceCtorEq, Bool.not_true, Bool.not_false, decide_true, decide_false, Int.cast_ofNat_Int, Int.reduceBEq, Int.reduceAdd, Int.reduceSub, Int.reduceMul, Int.reduceNeg, Int.reduceLT, Int.reduceLE, Int.reduceMod, Int.reduceDiv, sMeth1_ap, sSl_ap, sRev_ap, oNo_ap, oPart_ap, sDict0_ap, sSetL_ap, turn_mx m, compGo_cons, compGo_nil, wipe_cons, wipe_nil, iSeq_at, dAll_lst, bls_cons, bls_nil, Option.map_some, List.all_cons, List.all_nil, id, integer_int, Iz.ok m.sp, Iz.ok m.sq, Iz.ok m.sr, Iz.ok m.ss, Bool.and_true]
abbrev lA (a b c p r : Int) : Int := a * p * p + b * p * r + c * r * r
abbrev lB (a b c p q r s : Int) : Int := 2 * a * p * q + b * (p * s + q * r) + 2 * c * r * s
theorem led_by_ok (sa : Sm 600 a) (sb : Sm 600 b) (sc : Sm 600 c) (m : Mx 600 p q r s) : f_led_by [T3 a b c, T4 p q r s] h = .ok (T3 (lA a b c p r) (lB a b c p q r s) (lA a b c q s)) h := by
  have sp := m.sp
  have sq := m.sq
  have sr := m.sr
  have ss := m.ss
  unfold f_led_by; simp (maxSteps := 4000000) (dsimp := false) (disch := first | assumption | decide | omega | walk_at "cm") only [runDef_ap, sVar_ap, sC_ap, sBin_ap, sNeg_ap, sAnd_ap, sOr_ap, sNot_ap, sIf_ap, sTst_ap, qAnd_ap, qOr_ap, qNot_ap, qYes_ap, sChain_ap, sChain3_ap, sNil_ap, sCons_ap, sTup_ap, sLst_ap, sLstM_ap, sCall_ap, g1_ap, g2_ap, sFn_ap, sAsg_ap, gNm_ap, gTp_ap, gConsS_ap, gNilS_ap, sPar_ap, sPar3_ap, sRet_ap, sRetN_ap, sNx_ap, sBrk_ap, sCnt_ap, sSeq_ap, sIte_ap, sDrop_ap, sFrz_ap, sAug_ap, iRange1_ap, iRange2_ap, iSeq_ap, sFor_ap, sLc_ap, R.toG_ok, ↓R.bind_bnd, bnd_ok, ↓R.bd_bdn, bdn_ok, ↓R.toF_tof, tof_ok, ↓F.seq_sqn, sqn_nx, sqn_ret, sqn_cnt, sqn_brk, ↓F.turn_trn, trn_nx, trn_ret, trn_cnt, trn_brk, F.end_nx, F.end_ret, ↓br_true, br_true, ↓br_false, br_false, Dbr, Dneg, Dtst, opt_some, dAdd_int, dSub_int, dLt_int, dLe_int, dGt_int, dGe_int, dEq_int, dNe_int, dEq_bl, dNe_bl, dMul_cm, dMod_pos, dDiv_pos, dAbs_int, dMax2_int, dMin2_int, dInt_int, dInt_bl, dIx_tup, dIx_lst, dIx_seq, dLen_tup, dLen_lst, dLen_seq, atI_0, atI_1, atI_2, atI_3, List.map_cons, List.map_nil, List.length_cons, List.length_nil, List.replicate_succ, List.replicate_zero, List.cons_append, List.nil_append, List.getElem?_cons_zero, List.getElem?_cons_succ, List.set_cons_zero, List.set_cons_succ, Nat.reduceAdd, Nat.reduceSub, Nat.zero_add, Nat.add_zero, Nat.sub_self, Nat.reduceMul, mostL_def, Nat.reduceLeDiff, Nat.reduceLT, ite_true, ite_false, if_true, if_false, ↓reduceIte, reduceIte, ↓br_ite, Bool.false_eq_true, reduceCtorEq, Bool.not_true, Bool.not_false, decide_true, decide_false, Int.cast_ofNat_Int, Int.reduceBEq, Int.reduceAdd, Int.reduceSub, Int.reduceMul, Int.reduceNeg, Int.reduceLT, Int.reduceLE, Int.reduceMod, Int.reduceDiv, sMeth1_ap, sSl_ap, sRev_ap, oNo_ap, oPart_ap, sDict0_ap, sSetL_ap, gTp_ap, gConsS_ap, gNilS_ap, value_at_ok sa sb sc sp sr, value_at_ok sa sb sc sq ss]
theorem led_form_ok (f : Fm 199 a b c) (m : Mx 199 p q r s) : f_led_form [T3 a b c, T4 p q r s] h = .ok (T3 (lA a b c p r) (lB a b c p q r s) (lA a b c q s)) h := by
  unfold f_led_form; simp (maxSteps := 4000000) (dsimp := false) (disch := first | assumption | decide | omega | walk_at "cm") only [runDef_ap, sVar_ap, sC_ap, sBin_ap, sNeg_ap, sAnd_ap, sOr_ap, sNot_ap, sIf_ap, sTst_ap, qAnd_ap, qOr_ap, qNot_ap, qYes_ap, sChain_ap, sChain3_ap, sNil_ap, sCons_ap, sTup_ap, sLst_ap, sLstM_ap, sCall_ap, g1_ap, g2_ap, sFn_ap, sAsg_ap, gNm_ap, gTp_ap, gConsS_ap, gNilS_ap, sPar_ap, sPar3_ap, sRet_ap, sRetN_ap, sNx_ap, sBrk_ap, sCnt_ap, sSeq_ap, sIte_ap, sDrop_ap, sFrz_ap, sAug_ap, iRange1_ap, iRange2_ap, iSeq_ap, sFor_ap, sLc_ap, R.toG_ok, ↓R.bind_bnd, bnd_ok, ↓R.bd_bdn, bdn_ok, ↓R.toF_tof, tof_ok, ↓F.seq_sqn, sqn_nx, sqn_ret, sqn_cnt, sqn_brk, ↓F.turn_trn, trn_nx, trn_ret, trn_cnt, trn_brk, F.end_nx, F.end_ret, ↓br_true, br_true, ↓br_false, br_false, Dbr, Dneg, Dtst, opt_some, dAdd_int, dSub_int, dLt_int, dLe_int, dGt_int, dGe_int, dEq_int, dNe_int, dEq_bl, dNe_bl, dMul_cm, dMod_pos, dDiv_pos, dAbs_int, dMax2_int, dMin2_int, dInt_int, dInt_bl, dIx_tup, dIx_lst, dIx_seq, dLen_tup, dLen_lst, dLen_seq, atI_0, atI_1, atI_2, atI_3, List.map_cons, List.map_nil, List.length_cons, List.length_nil, List.replicate_succ, List.replicate_zero, List.cons_append, List.nil_append, List.getElem?_cons_zero, List.getElem?_cons_succ, List.set_cons_zero, List.set_cons_succ, Nat.reduceAdd, Nat.reduceSub, Nat.zero_add, Nat.add_zero, Nat.sub_self, Nat.reduceMul, mostL_def, Nat.reduceLeDiff, Nat.reduceLT, ite_true, ite_false, if_true, if_false, ↓reduceIte, reduceIte, ↓br_ite, Bool.false_eq_true, reduceCtorEq, Bool.not_true, Bool.not_false, decide_true, decide_false, Int.cast_ofNat_Int, Int.reduceBEq, Int.reduceAdd, Int.reduceSub, Int.reduceMul, Int.reduceNeg, Int.reduceLT, Int.reduceLE, Int.reduceMod, Int.reduceDiv, sMeth1_ap, sSl_ap, sRev_ap, oNo_ap, oPart_ap, sDict0_ap, sSetL_ap, require_form_fm f, require_turn_mx m, led_by_ok (f.sa.mono (by decide : 199 ≤ 600)) (f.sb.mono (by decide : 199 ≤ 600)) (f.sc.mono (by decide : 199 ≤ 600)) (m.mono (by decide : 199 ≤ 600))]
theorem led_measure (m : p * s - q * r = 1) : 4 * lA a b c p r * lA a b c q s - lB a b c p q r s * lB a b c p q r s = 4 * a * c - b * b := by
  unfold lA lB; grind
end
end Pd

/-! Pg: loops, forms and matrices -/
namespace Pd
open PySem L2 Evl
local macro_rules | `(tactic| walk_at "sm") => `(tactic| first | assumption | exact Sm.lit | exact Sm.mul (by walk_at "sm") (by walk_at "sm") | exact Sm.add (by walk_at "sm") (by walk_at "sm") | exact Sm.sub (by walk_at "sm") (by walk_at "sm") | exact Sm.neg (by walk_at "sm"))
local macro_rules | `(tactic| walk_at "cm") => `(tactic| ((with_reducible show CM _ _); first | assumption | exact CM.left (by decide) | exact CM.right (by decide) | exact CM.left (by omega) | exact CM.right (by omega) | exact CM.of (by walk_at "sm") (by walk_at "sm") (by decide)))
theorem dEq_T3 {a b c p q r : Int} {h : Ph} : dEq (.tup [.int a, .int b, .int c]) (.tup [.int p, .int q, .int r]) h = .ok (.bl (a == p && (b == q && (c == r && true)))) h := rfl
theorem dNe_T3 {a b c p q r : Int} {h : Ph} : dNe (.tup [.int a, .int b, .int c]) (.tup [.int p, .int q, .int r]) h = .ok (.bl (!(a == p && (b == q && (c == r && true))))) h := rfl
theorem dNe_T3_same {a b c p q r : Int} {h : Ph} (e1 : a = p) (e2 : b = q) (e3 : c = r) : dNe (.tup [.int a, .int b, .int c]) (.tup [.int p, .int q, .int r]) h = .ok (.bl false) h := by
  rw [dNe_T3, e1, e2, e3]; simp
theorem dNe_nil {h : Ph} : dNe (.lst []) (.lst []) h = .ok (.bl false) h := rfl
theorem dList_tup {xs : List D} {h : Ph} : dList (.tup xs) h = .ok (.lst xs) h := rfl
theorem dStr_int {i : Int} {h : Ph} (s : Sm 1000 i) : dStr (.int i) h = .ok (.str (toString i)) h := if_pos (c := i.natAbs.log2 < 1920) (Nat.lt_of_le_of_lt (log_lt s.lt) (by decide))
theorem dAdd_lst {xs ys : List D} {h : Ph} : dAdd (.lst xs) (.lst ys) h = if xs.length + ys.length ≤ mostL then .ok (.lst (xs ++ ys)) h else .bad := rfl
theorem dCat_lst {xs ys : List D} {h : Ph} (hl : xs.length + ys.length ≤ mostL) : dAdd (.lst xs) (.lst ys) h = .ok (.lst (xs ++ ys)) h := if_pos (c := xs.length + ys.length ≤ mostL) hl
/-! ### loops -/
theorem forGo_nil {g : SG} {f : SS} {e : Pe} {h : Ph} : forGo g f [] e h = .nx e h := rfl
/-- a loop through, with what holds after each round -/
theorem forGo_inv {g : SG} {f : SS} (P : Nat → Pe → Ph → Prop) : ∀ (xs : List D) (k : Nat) (e : Pe) (h : Ph), P k e h →
    (∀ x ∈ xs, ∀ j e h, k ≤ j → j < k + xs.length → P j e h → ∃ e1 h1 e2 h2, g x e h = .ok e1 h1 ∧ f e1 h1 = .nx e2 h2 ∧ P (j + 1) e2 h2) →
    ∃ e' h', forGo g f xs e h = .nx e' h' ∧ P (k + xs.length) e' h' := by
  intro xs
  induction xs with
  | nil => intro k e h p _; exact ⟨e, h, rfl, p⟩
  | cons x r ih =>
    intro k e h p H
    obtain ⟨e1, h1, e2, h2, q1, q2, q3⟩ := H x (by simp) k e h (by omega) (by simp) p
    obtain ⟨e', h', r1, r2⟩ := ih (k + 1) e2 h2 q3 (fun y hy j e h hj hj2 pj => H y (by simp [hy]) j e h (by omega) (by simp; omega) pj)
    refine ⟨e', h', ?_, by rw [List.length_cons, show k + (r.length + 1) = k + 1 + r.length by omega]; exact r2⟩
    unfold forGo
    rw [q1]
    show (f e1 h1).turn _ = _
    rw [q2]
    exact r1
theorem range1_ok {f : SA} {n : Int} {e : Pe} {h h1 : Ph} (e1 : f e h = .ok [.int n] h1) (hn : 0 ≤ n) (hb : n < 1000000) : iRange1 f e h = .ok (rangeD 0 n.toNat) h1 := by
  unfold iRange1
  rw [e1]
  show (if -(2 ^ 62) ≤ n ∧ n < 2 ^ 62 then _ else _) = _
  rw [if_pos ⟨by omega, by omega⟩]
theorem rng_ok {n : Int} {h : Ph} (h0 : 0 ≤ n) (hb : n < 1000000) : (if -(2 ^ 62) ≤ n ∧ n < 2 ^ 62 then R.ok (rangeD 0 n.toNat) h else R.bad) = R.ok (rangeD 0 n.toNat) h := if_pos ⟨by omega, by omega⟩
theorem rangeD_len {lo : Int} {n : Nat} : (rangeD lo n).length = n := by unfold rangeD; rw [List.length_map, List.length_range]
theorem rangeD_mem {lo : Int} {n : Nat} {x : D} (h : x ∈ rangeD lo n) : ∃ k : Nat, k < n ∧ x = .int (lo + k) := by
  unfold rangeD at h
  obtain ⟨k, hk, e⟩ := List.mem_map.mp h
  exact ⟨k, List.mem_range.mp hk, e.symm⟩
/-! ### sizes -/
theorem Sm.add1 {a : Nat} {x y : Int} (s : Sm a x) (t : Sm a y) : Sm (a + 1) (x + y) := ⟨by
  have h1 := s.lt
  have h2 := t.lt
  have h5 : (2 : Nat) ^ (a + 1) = 2 * 2 ^ a := by rw [Nat.pow_succ]; omega
  omega⟩
theorem Sm.sub1 {a : Nat} {x y : Int} (s : Sm a x) (t : Sm a y) : Sm (a + 1) (x - y) := ⟨by
  have h1 := s.lt
  have h2 := t.lt
  have h5 : (2 : Nat) ^ (a + 1) = 2 * 2 ^ a := by rw [Nat.pow_succ]; omega
  omega⟩
theorem Sm.of_lt {x : Int} (k : Nat) {n : Int} (h1 : -n < x) (h2 : x < n) (h3 : n ≤ ((2 : Nat) ^ k : Nat)) : Sm k x := ⟨by omega⟩
/-! ### forms -/
theorem sq_nonneg' (x : Int) : 0 ≤ x * x := by
  by_cases h : 0 ≤ x
  · exact Int.mul_nonneg h h
  · have := Int.mul_nonneg (a := -x) (b := -x) (by omega) (by omega); rwa [Int.neg_mul_neg] at this
theorem sq_pos' {x : Int} (hx : x ≠ 0) : 0 < x * x := by
  by_cases h : 0 < x
  · exact Int.mul_pos h h
  · have := Int.mul_pos (a := -x) (b := -x) (by omega) (by omega); rwa [Int.neg_mul_neg] at this
theorem value_pos {a b c p r : Int} (ha : 0 < a) (hm : 0 < 4 * a * c - b * b) (hn : p ≠ 0 ∨ r ≠ 0) : 0 < lA a b c p r := by
  have key : 4 * a * lA a b c p r = (2 * a * p + b * r) * (2 * a * p + b * r) + (4 * a * c - b * b) * (r * r) := by unfold lA; grind
  by_cases hr : r = 0
  · subst hr
    have hp : p ≠ 0 := by omega
    have : lA a b c p 0 = a * (p * p) := by unfold lA; grind
    rw [this]
    exact Int.mul_pos ha (sq_pos' hp)
  · have h1 := Int.mul_pos hm (sq_pos' hr)
    have h2 := sq_nonneg' (2 * a * p + b * r)
    have h3 : 0 < 4 * a * lA a b c p r := by rw [key]; omega
    exact Int.pos_of_mul_pos_right h3 (by omega)
theorem Fm.led {k m : Nat} {a b c p q r s : Int} (f : Fm k a b c) (x : Mx m p q r s) : Fm (k + 2 * m + 4) (lA a b c p r) (lB a b c p q r s) (lA a b c q s) := by
  have d := x.det
  have la : ∀ {p r : Int}, Sm m p → Sm m r → Sm (k + 2 * m + 4) (lA a b c p r) := fun sp sr => by
    have h1 : Sm (k + 2 * m) (a * _ * _) := ((f.sa.mul sp).mul sp).mono (by omega)
    have h2 : Sm (k + 2 * m) (b * _ * _) := ((f.sb.mul sp).mul sr).mono (by omega)
    have h3 : Sm (k + 2 * m) (c * _ * _) := ((f.sc.mul sr).mul sr).mono (by omega)
    exact ((h1.add1 h2).add1 (h3.mono (by omega))).mono (by omega)
  refine ⟨la x.sp x.sr, ?_, la x.sq x.ss, ?_, ?_⟩
  · have h1 : Sm (k + 2 * m + 2) (2 * a * p * q) := (((Sm.lit (n := 2)).mul f.sa |>.mul x.sp).mul x.sq).mono (by show (2 + k + m + m) ≤ _; omega)
    have h3 : Sm (k + 2 * m + 2) (2 * c * r * s) := (((Sm.lit (n := 2)).mul f.sc |>.mul x.sr).mul x.ss).mono (by show (2 + k + m + m) ≤ _; omega)
    have h2 : Sm (k + 2 * m + 2) (b * (p * s + q * r)) := (f.sb.mul (((x.sp.mul x.ss)).add1 ((x.sq.mul x.sr)))).mono (by omega)
    exact ((h1.add1 h2).add1 (h3.mono (by omega))).mono (by omega)
  · refine value_pos f.pos f.mea ?_
    by_cases hp : p = 0
    · right
      intro hr
      subst hp; subst hr
      simp at d
    · exact .inl hp
  · have := f.mea
    rw [led_measure d]
    exact this
theorem Mx.prod {j k : Nat} {a b c d p q r s : Int} (x : Mx j a b c d) (y : Mx k p q r s) : Mx (j + k + 1) (a * p + b * r) (a * q + b * s) (c * p + d * r) (c * q + d * s) :=
  ⟨(x.sp.mul y.sp).add1 (x.sq.mul y.sr), (x.sp.mul y.sq).add1 (x.sq.mul y.ss), (x.sr.mul y.sp).add1 (x.ss.mul y.sr), (x.sr.mul y.sq).add1 (x.ss.mul y.ss), by
    have h1 := x.det
    have h2 := y.det
    have : (a * p + b * r) * (c * q + d * s) - (a * q + b * s) * (c * p + d * r) = (a * d - b * c) * (p * s - q * r) := by grind
    rw [this, h1, h2]; rfl⟩
theorem led_dvd {d a b c p r : Int} (h1 : d ∣ a) (h2 : d ∣ b) (h3 : d ∣ c) : d ∣ lA a b c p r := by
  obtain ⟨x, rfl⟩ := h1
  obtain ⟨y, rfl⟩ := h2
  obtain ⟨z, rfl⟩ := h3
  exact ⟨lA x y z p r, by unfold lA; grind⟩
theorem ledB_dvd {d a b c p q r s : Int} (h1 : d ∣ a) (h2 : d ∣ b) (h3 : d ∣ c) : d ∣ lB a b c p q r s := by
  obtain ⟨x, rfl⟩ := h1
  obtain ⟨y, rfl⟩ := h2
  obtain ⟨z, rfl⟩ := h3
  exact ⟨lB x y z p q r s, by unfold lB; grind⟩
theorem g3_iff {d : Nat} {a b c : Int} : d ∣ g3 a b c ↔ ((d : Int) ∣ a ∧ (d : Int) ∣ b) ∧ (d : Int) ∣ c := by
  unfold g3
  constructor
  · intro h
    have h1 : (d : Int) ∣ (Int.gcd (Int.gcd a b) c : Int) := Int.natCast_dvd_natCast.mpr h
    have h2 := Int.dvd_trans h1 (Int.gcd_dvd_left _ _)
    exact ⟨⟨Int.dvd_trans h2 (Int.gcd_dvd_left _ _), Int.dvd_trans h2 (Int.gcd_dvd_right _ _)⟩, Int.dvd_trans h1 (Int.gcd_dvd_right _ _)⟩
  · intro ⟨⟨h1, h2⟩, h3⟩
    exact Int.dvd_gcd (Int.dvd_coe_gcd h1 h2) h3
theorem g3_led {a b c p q r s : Int} (d : p * s - q * r = 1) : g3 (lA a b c p r) (lB a b c p q r s) (lA a b c q s) = g3 a b c := by
  apply Nat.dvd_antisymm
  · have h := (g3_iff (d := g3 (lA a b c p r) (lB a b c p q r s) (lA a b c q s))).mp (Nat.dvd_refl _)
    obtain ⟨⟨h1, h2⟩, h3⟩ := h
    have e1 : lA (lA a b c p r) (lB a b c p q r s) (lA a b c q s) s (-r) = (p * s - q * r) * (p * s - q * r) * a := by unfold lA lB; grind
    have e2 : lB (lA a b c p r) (lB a b c p q r s) (lA a b c q s) s (-q) (-r) p = (p * s - q * r) * (p * s - q * r) * b := by unfold lA lB; grind
    have e3 : lA (lA a b c p r) (lB a b c p q r s) (lA a b c q s) (-q) p = (p * s - q * r) * (p * s - q * r) * c := by unfold lA lB; grind
    rw [d] at e1 e2 e3
    have q1 := led_dvd (p := s) (r := -r) h1 h2 h3
    have q2 := ledB_dvd (p := s) (q := -q) (r := -r) (s := p) h1 h2 h3
    have q3 := led_dvd (p := -q) (r := p) h1 h2 h3
    rw [e1] at q1
    rw [e2] at q2
    rw [e3] at q3
    refine g3_iff.mpr ⟨⟨?_, ?_⟩, ?_⟩
    · simpa using q1
    · simpa using q2
    · simpa using q3
  · have h := (g3_iff (d := g3 a b c)).mp (Nat.dvd_refl _)
    obtain ⟨⟨h1, h2⟩, h3⟩ := h
    exact g3_iff.mpr ⟨⟨led_dvd h1 h2 h3, ledB_dvd h1 h2 h3⟩, led_dvd h1 h2 h3⟩
theorem led_led {a b c p q r s p' r' : Int} : lA (lA a b c p r) (lB a b c p q r s) (lA a b c q s) p' r' = lA a b c (p * p' + q * r') (r * p' + s * r') := by unfold lA lB; grind
theorem led_ledB {a b c p q r s p' q' r' s' : Int} : lB (lA a b c p r) (lB a b c p q r s) (lA a b c q s) p' q' r' s' = lB a b c (p * p' + q * r') (p * q' + q * s') (r * p' + s * r') (r * q' + s * s') := by unfold lA lB; grind
theorem g3_scale {k a b c : Int} (hk : 0 < k) : (g3 (k * a) (k * b) (k * c) : Int) = k * g3 a b c := by
  unfold g3
  rw [Int.gcd_mul_left, Int.natCast_mul, show ((k.natAbs : Nat) : Int) = k by omega, Int.gcd_mul_left, Int.natCast_mul, show ((k.natAbs : Nat) : Int) = k by omega]
theorem Fm.scale {j m : Nat} {k a b c : Int} (f : Fm j a b c) (hk : 0 < k) (sk : Sm m k) : Fm (m + j) (k * a) (k * b) (k * c) := by
  refine ⟨sk.mul f.sa, sk.mul f.sb, sk.mul f.sc, Int.mul_pos hk f.pos, ?_⟩
  have : 4 * (k * a) * (k * c) - k * b * (k * b) = k * k * (4 * a * c - b * b) := by grind
  rw [this]
  exact Int.mul_pos (Int.mul_pos hk hk) f.mea
end Pd

/-! Fz: reduced forms, plain -/
namespace Pd
/-- b within -a .. a -/
theorem form_min {a b c x y : Int} (h1 : -a ≤ b) (h2 : b ≤ a) (h3 : a ≤ c) (hy : y ≠ 0) : c ≤ a * x * x + b * x * y + c * y * y := by
  have a0 : 0 ≤ a := by omega
  -- signs away
  have key : ∀ X Y : Int, 0 ≤ X → 1 ≤ Y → c ≤ a * X * X - a * X * Y + c * Y * Y := by
    intro X Y hX hY
    by_cases hXY : Y ≤ X
    · have e1 : 0 ≤ a * X * (X - Y) := Int.mul_nonneg (Int.mul_nonneg a0 hX) (by omega)
      have e2 : 0 ≤ c * (Y * Y - 1) := Int.mul_nonneg (by omega) (by have : 1 * 1 ≤ Y * Y := Int.mul_le_mul hY hY (by omega) (by omega); omega)
      grind
    · have e1 : 0 ≤ (c - a) * (X * (Y - X)) := Int.mul_nonneg (by omega) (Int.mul_nonneg hX (by omega))
      have e3 : 1 * 1 ≤ (Y - X) * Y := Int.mul_le_mul (by omega) hY (by omega) (by omega)
      have e4 : 0 ≤ X * X := Int.mul_nonneg hX hX
      have e2 : 0 ≤ c * ((Y - X) * Y + X * X - 1) := Int.mul_nonneg (by omega) (by omega)
      grind
  have fin : ∀ X Y : Int, 0 ≤ X → 1 ≤ Y → ∀ x y : Int, (x = X ∨ x = -X) → (y = Y ∨ y = -Y) → c ≤ a * x * x + b * x * y + c * y * y := by
    intro X Y hX hY x y hx hy
    have k := key X Y hX hY
    have t1 : 0 ≤ (b + a) * (X * Y) := Int.mul_nonneg (by omega) (Int.mul_nonneg hX (by omega))
    have t2 : 0 ≤ (a - b) * (X * Y) := Int.mul_nonneg (by omega) (Int.mul_nonneg hX (by omega))
    clear key
    rcases hx with rfl | rfl <;> rcases hy with rfl | rfl <;> grind
  exact fin x.natAbs y.natAbs (by omega) (by omega) x y (by omega) (by omega)
theorem form_min0 {a b c x y : Int} (h1 : -a ≤ b) (h2 : b ≤ a) (h3 : a ≤ c) (hn : x ≠ 0 ∨ y ≠ 0) : a ≤ a * x * x + b * x * y + c * y * y := by
  by_cases hy : y = 0
  · subst hy
    have hx : x ≠ 0 := by omega
    have : 1 ≤ x * x := by have := sq_pos' hx; omega
    have e : 0 ≤ a * (x * x - 1) := Int.mul_nonneg (by omega) (by omega)
    grind
  · have := form_min (x := x) h1 h2 h3 hy
    omega
theorem lst_iff {a b c : Int} : Lst a b c = true ↔ (-a ≤ b ∧ b ≤ a ∧ a ≤ c) ∧ (0 ≤ b ∨ (b ≠ -a ∧ a ≠ c)) := by
  unfold Lst
  simp only [Bool.and_eq_true, Bool.or_eq_true, decide_eq_true_eq, Bool.not_eq_true', beq_eq_false_iff_ne, ne_eq]
/-- one reduced form alone is alike to a form -/
theorem reduced_one {a b c p q r s : Int} (ha : 0 < a) (hm : 0 < 4 * a * c - b * b) (l1 : Lst a b c = true) (d : p * s - q * r = 1) (l2 : Lst (lA a b c p r) (lB a b c p q r s) (lA a b c q s) = true) :
    lA a b c p r = a ∧ lB a b c p q r s = b ∧ lA a b c q s = c := by
  obtain ⟨⟨r1, r2, r3⟩, r4⟩ := lst_iff.mp l1
  obtain ⟨⟨s1, s2, s3⟩, s4⟩ := lst_iff.mp l2
  have hD := led_measure (a := a) (b := b) (c := c) d
  have i1 : lA (lA a b c p r) (lB a b c p q r s) (lA a b c q s) s (-r) = a := by
    rw [led_led]
    have e1 : p * s + q * (-r) = 1 := by grind
    have e2 : r * s + s * (-r) = 0 := by grind
    rw [e1, e2]; unfold lA; grind
  have i2 : lB (lA a b c p r) (lB a b c p q r s) (lA a b c q s) s (-q) (-r) p = b := by
    rw [led_ledB]
    have e1 : p * s + q * (-r) = 1 := by grind
    have e2 : r * s + s * (-r) = 0 := by grind
    have e3 : p * (-q) + q * p = 0 := by grind
    have e4 : r * (-q) + s * p = 1 := by grind
    rw [e1, e2, e3, e4]; unfold lB; grind
  have hpr : p ≠ 0 ∨ r ≠ 0 := by
    by_cases hp : p = 0
    · right; intro hr; subst hp; subst hr; simp at d
    · exact .inl hp
  have hsr : s ≠ 0 ∨ -r ≠ 0 := by
    by_cases hp : s = 0
    · right; intro hr; have : r = 0 := by omega
      subst hp; subst this; simp at d
    · exact .inl hp
  have A1 : a ≤ lA a b c p r := form_min0 r1 r2 r3 hpr
  generalize hA : lA a b c p r = A at *
  generalize hB : lB a b c p q r s = B at *
  generalize hC : lA a b c q s = C at *
  have A2 : A ≤ a := by rw [← i1]; exact form_min0 s1 s2 s3 hsr
  have eA : A = a := by omega
  subst eA
  have fin : B = b → C = c := fun e => by
    subst e
    have : 4 * A * (C - c) = 0 := by grind
    rcases Int.mul_eq_zero.mp this with h | h <;> omega
  by_cases hr : r = 0
  · subst hr
    have hps : p * s = 1 := by grind
    have eB : B = 2 * A * (p * q) + b := by rw [← hB]; unfold lB; grind
    have : p * q = 0 := by
      by_cases h0 : p * q = 0
      · exact h0
      · by_cases hpos : 0 < p * q
        · have : 0 ≤ A * (p * q - 1) := Int.mul_nonneg (by omega) (by omega)
          have h3 : 2 * A * (p * q) = 2 * (A * (p * q - 1)) + 2 * A := by grind
          have b1 : -A < b := by rcases r4 with h | h <;> omega
          omega
        · have : 0 ≤ A * (-(p * q) - 1) := Int.mul_nonneg (by omega) (by omega)
          have h3 : 2 * A * (p * q) = -(2 * (A * (-(p * q) - 1))) - 2 * A := by grind
          have b1 : -A < B := by rcases s4 with h | h <;> omega
          omega
    have e : B = b := by rw [eB, this]; simp
    exact ⟨rfl, e, fin e⟩
  · have c1 : c ≤ A := by rw [← hA]; exact form_min r1 r2 r3 hr
    have c2 : C ≤ A := by
      have := form_min (x := s) s1 s2 s3 (y := -r) (by omega)
      have i1' : A * s * s + B * s * -r + C * -r * -r = A := i1
      omega
    have ec : c = A := by omega
    have eC : C = A := by omega
    subst ec
    subst eC
    have b0 : 0 ≤ b := by rcases r4 with h | h <;> omega
    have b1 : 0 ≤ B := by rcases s4 with h | h <;> omega
    have hsq : (B - b) * (B + b) = 0 := by grind
    refine ⟨rfl, ?_, rfl⟩
    rcases Int.mul_eq_zero.mp hsq with h | h <;> omega
end Pd

/-! Pj: reducing forms -/
namespace Pd
open PySem L2 Evl
local macro_rules | `(tactic| walk_at "sm") => `(tactic| first | assumption | exact Sm.lit | exact Sm.mul (by walk_at "sm") (by walk_at "sm") | exact Sm.add (by walk_at "sm") (by walk_at "sm") | exact Sm.sub (by walk_at "sm") (by walk_at "sm") | exact Sm.neg (by walk_at "sm"))
local macro_rules | `(tactic| walk_at "cm") => `(tactic| ((with_reducible show CM _ _); first | assumption | exact CM.left (by decide) | exact CM.right (by decide) | exact CM.left (by omega) | exact CM.right (by omega) | exact CM.of (by walk_at "sm") (by walk_at "sm") (by decide)))
/-- a while by a measure -/
theorem while_run {c : ST} {f : SS} (P : Nat → Pe → Ph → Prop) (Q : Pe → Ph → Prop) (H : ∀ m e h, P m e h → (∃ h1, c e h = .ok false h1 ∧ Q e h1) ∨ ∃ h1 e2 h2 m2, c e h = .ok true h1 ∧ (f e h1 = .nx e2 h2 ∨ f e h1 = .cnt e2 h2) ∧ m2 < m ∧ P m2 e2 h2) :
    ∀ (m N : Nat) (e : Pe) (h : Ph), m < N → P m e h → ∃ e1 h1, sWhile N c f e h = .nx e1 h1 ∧ Q e1 h1 := by
  intro m
  induction m using Nat.strongRecOn with
  | _ m ih =>
    intro N e h hN p
    obtain ⟨N, rfl⟩ : ∃ M, N = M + 1 := ⟨N - 1, by omega⟩
    rcases H m e h p with ⟨h1, e1, q⟩ | ⟨h1, e2, h2, m2, e1, e3, lt, p2⟩
    · refine ⟨e, h1, ?_, q⟩
      unfold sWhile
      rw [e1]
      rfl
    · obtain ⟨e4, h4, q1, q2⟩ := ih m2 lt N e2 h2 (by omega) p2
      refine ⟨e4, h4, ?_, q2⟩
      unfold sWhile
      rw [e1]
      show (f e h1).turn _ = _
      rcases e3 with e3 | e3 <;> rw [e3] <;> exact q1
def f__law_bf_drawn : Fn := runDef 4 (sSeq (sPar 2 3 (sCons (sBin dAdd (sC (.int 1)) (sFn f__law_roll (sCons (sVar 0) (sCons (sVar 1) (sNil))))) (sCons (sBin dSub (sFn f__law_roll (sCons (sVar 0) (sCons (sBin dAdd (sBin dMul (sC (.int 2)) (sVar 1)) (sC (.int 1))) (sNil)))) (sVar 1)) (sNil)))) (sRet (sTup (sCons (sVar 2) (sCons (sVar 3) (sCons (sBin dAdd (sBin dAdd (sBin dDiv (sBin dMul (sVar 3) (sVar 3)) (sBin dMul (sC (.int 4)) (sVar 2))) (sC (.int 1))) (sFn f__law_roll (sCons (sVar 0) (sCons (sVar 1) (sNil))))) (sNil)))))))
def f__law_bf_is_least : Fn := runDef 4 (sSeq (sAsg (sVar 0) (gTp 3 (gConsS (gNm 1) (gConsS (gNm 2) (gConsS (gNm 3) (gNilS)))))) (sSeq (sIte (qOr (sTst (sBin dLt (sVar 2) (sNeg (sVar 1)))) (qOr (sTst (sBin dGt (sVar 2) (sVar 1))) (sTst (sBin dLt (sVar 3) (sVar 1))))) (sRet (sC (.bl false))) (sNx)) (sRet (sOr (sBin dGe (sVar 2) (sC (.int 0))) (sAnd (sBin dNe (sVar 2) (sNeg (sVar 1))) (sBin dNe (sVar 1) (sVar 3)))))))
def f__law_bf_product : Fn := runDef 10 (sSeq (sAsg (sVar 0) (gTp 4 (gConsS (gNm 2) (gConsS (gNm 3) (gConsS (gNm 4) (gConsS (gNm 5) (gNilS))))))) (sSeq (sAsg (sVar 1) (gTp 4 (gConsS (gNm 6) (gConsS (gNm 7) (gConsS (gNm 8) (gConsS (gNm 9) (gNilS))))))) (sRet (sTup (sCons (sBin dAdd (sBin dMul (sVar 2) (sVar 6)) (sBin dMul (sVar 3) (sVar 8))) (sCons (sBin dAdd (sBin dMul (sVar 2) (sVar 7)) (sBin dMul (sVar 3) (sVar 9))) (sCons (sBin dAdd (sBin dMul (sVar 4) (sVar 6)) (sBin dMul (sVar 5) (sVar 8))) (sCons (sBin dAdd (sBin dMul (sVar 4) (sVar 7)) (sBin dMul (sVar 5) (sVar 9))) (sNil)))))))))
def f__law_bf_led : Fn := runDef 11 (sSeq (sAsg (sVar 0) (gTp 3 (gConsS (gNm 2) (gConsS (gNm 3) (gConsS (gNm 4) (gNilS)))))) (sSeq (sAsg (sVar 1) (gTp 4 (gConsS (gNm 5) (gConsS (gNm 6) (gConsS (gNm 7) (gConsS (gNm 8) (gNilS))))))) (sSeq (sPar 9 10 (sCons (sBin dMul (sVar 3) (sBin dAdd (sBin dMul (sVar 5) (sVar 8)) (sBin dMul (sVar 6) (sVar 7)))) (sCons (sBin dAdd (sBin dMul (sBin dMul (sVar 2) (sVar 5)) (sVar 6)) (sBin dMul (sBin dMul (sVar 4) (sVar 7)) (sVar 8))) (sNil)))) (sRet (sTup (sCons (sBin dAdd (sBin dAdd (sBin dMul (sBin dMul (sVar 2) (sVar 5)) (sVar 5)) (sBin dMul (sBin dMul (sVar 3) (sVar 5)) (sVar 7))) (sBin dMul (sBin dMul (sVar 4) (sVar 7)) (sVar 7))) (sCons (sBin dAdd (sVar 9) (sBin dMul (sC (.int 2)) (sVar 10))) (sCons (sBin dAdd (sBin dAdd (sBin dMul (sBin dMul (sVar 2) (sVar 6)) (sVar 6)) (sBin dMul (sBin dMul (sVar 3) (sVar 6)) (sVar 8))) (sBin dMul (sBin dMul (sVar 4) (sVar 8)) (sVar 8))) (sNil)))))))))
def l__law_bf_least_1 : SS := sSeq (sIte (sTst (sFn f__law_bf_is_least (sCons (sVar 2) (sNil)))) (sBrk) (sNx)) (sSeq (sAsg (sBin dDiv (sBin dSub (sBin dIx (sVar 2) (sC (.int 0))) (sBin dIx (sVar 2) (sC (.int 1)))) (sBin dMul (sC (.int 2)) (sBin dIx (sVar 2) (sC (.int 0))))) (gNm 4)) (sSeq (sAsg (sIf (sTst (sBin dNe (sVar 4) (sC (.int 0)))) (sTup (sCons (sC (.int 1)) (sCons (sVar 4) (sCons (sC (.int 0)) (sCons (sC (.int 1)) (sNil)))))) (sTup (sCons (sC (.int 0)) (sCons (sC (.int (-1))) (sCons (sC (.int 1)) (sCons (sC (.int 0)) (sNil))))))) (gNm 5)) (sPar 2 3 (sCons (sFn f__law_bf_led (sCons (sVar 2) (sCons (sVar 5) (sNil)))) (sCons (sFn f__law_bf_product (sCons (sVar 3) (sCons (sVar 5) (sNil)))) (sNil))))))
def f__law_bf_least : Fn := runDef 6 (sSeq (sPar 2 3 (sCons (sVar 0) (sCons (sTup (sCons (sC (.int 1)) (sCons (sC (.int 0)) (sCons (sC (.int 0)) (sCons (sC (.int 1)) (sNil)))))) (sNil)))) (sSeq (sFor (iRange1 (sCons (sC (.int 4000)) (sNil))) (gNm 1) (l__law_bf_least_1)) (sRet (sTup (sCons (sVar 2) (sCons (sVar 3) (sNil)))))))
def f_product_of : Fn := runDef 10 (sSeq (sAsg (sVar 0) (gTp 4 (gConsS (gNm 2) (gConsS (gNm 3) (gConsS (gNm 4) (gConsS (gNm 5) (gNilS))))))) (sSeq (sAsg (sVar 1) (gTp 4 (gConsS (gNm 6) (gConsS (gNm 7) (gConsS (gNm 8) (gConsS (gNm 9) (gNilS))))))) (sRet (sTup (sCons (sBin dAdd (sBin dMul (sVar 2) (sVar 6)) (sBin dMul (sVar 3) (sVar 8))) (sCons (sBin dAdd (sBin dMul (sVar 2) (sVar 7)) (sBin dMul (sVar 3) (sVar 9))) (sCons (sBin dAdd (sBin dMul (sVar 4) (sVar 6)) (sBin dMul (sVar 5) (sVar 8))) (sCons (sBin dAdd (sBin dMul (sVar 4) (sVar 7)) (sBin dMul (sVar 5) (sVar 9))) (sNil)))))))))
def l_reducing_1 : SS := sSeq (sAsg (sVar 1) (gTp 3 (gConsS (gNm 3) (gConsS (gNm 4) (gConsS (gNm 5) (gNilS)))))) (sSeq (sIte (sTst (sChain dLt dLe (sNeg (sVar 3)) (sVar 4) (sVar 3))) (sAsg (sTup (sCons (sC (.int 0)) (sCons (sC (.int (-1))) (sCons (sC (.int 1)) (sCons (sC (.int 0)) (sNil)))))) (gNm 6)) (sAsg (sTup (sCons (sC (.int 1)) (sCons (sBin dDiv (sBin dSub (sVar 3) (sVar 4)) (sBin dMul (sC (.int 2)) (sVar 3))) (sCons (sC (.int 0)) (sCons (sC (.int 1)) (sNil)))))) (gNm 6))) (sPar 1 2 (sCons (sFn f_led_by (sCons (sVar 1) (sCons (sVar 6) (sNil)))) (sCons (sFn f_product_of (sCons (sVar 2) (sCons (sVar 6) (sNil)))) (sNil)))))
def f_reducing : Fn := runDef 7 (sSeq (sPar 1 2 (sCons (sVar 0) (sCons (sC (.tup [(.int (1)), (.int (0)), (.int (0)), (.int (1))])) (sNil)))) (sSeq (sWhile FU (qNot (sTst (sFn f_is_least (sCons (sVar 1) (sNil))))) (l_reducing_1)) (sRet (sTup (sCons (sVar 1) (sCons (sVar 2) (sNil)))))))
def f_reduced_form : Fn := runDef 1 (sSeq (sDrop (sFn f_require_form (sCons (sVar 0) (sNil)))) (sRet (sBin dIx (sFn f_reducing (sCons (sVar 0) (sNil))) (sC (.int 0)))))
def l__law_bf_matrix_1 : SS := sSeq (sAsg (sBin dAdd (sC (.int 1)) (sFn f__law_roll (sCons (sVar 0) (sCons (sC (.int 9)) (sNil))))) (gNm 4)) (sSeq (sAsg (sFn f__law_pick (sCons (sVar 0) (sCons (sLst (sCons (sTup (sCons (sC (.int 0)) (sCons (sC (.int (-1))) (sCons (sC (.int 1)) (sCons (sC (.int 0)) (sNil)))))) (sCons (sTup (sCons (sC (.int 1)) (sCons (sVar 4) (sCons (sC (.int 0)) (sCons (sC (.int 1)) (sNil)))))) (sCons (sTup (sCons (sC (.int 1)) (sCons (sC (.int 0)) (sCons (sNeg (sVar 4)) (sCons (sC (.int 1)) (sNil)))))) (sCons (sTup (sCons (sC (.int 1)) (sCons (sNeg (sVar 4)) (sCons (sC (.int 0)) (sCons (sC (.int 1)) (sNil)))))) (sNil)))))) (sNil)))) (gNm 5)) (sAsg (sFn f__law_bf_product (sCons (sVar 2) (sCons (sVar 5) (sNil)))) (gNm 2)))
def f__law_bf_matrix : Fn := runDef 6 (sSeq (sAsg (sTup (sCons (sC (.int 1)) (sCons (sC (.int 0)) (sCons (sC (.int 0)) (sCons (sC (.int 1)) (sNil)))))) (gNm 2)) (sSeq (sFor (iRange1 (sCons (sFn f__law_roll (sCons (sVar 0) (sCons (sBin dAdd (sVar 1) (sC (.int 1))) (sNil)))) (sNil))) (gNm 3) (l__law_bf_matrix_1)) (sRet (sVar 2))))
def f_reducing_matrix : Fn := runDef 1 (sSeq (sDrop (sFn f_require_form (sCons (sVar 0) (sNil)))) (sRet (sBin dIx (sFn f_reducing (sCons (sVar 0) (sNil))) (sC (.int 1)))))
def c__law_bf_keepers_1 : SE := sLc (iSeq (sVar 3)) (gNm 7) (sTst (sBin dEq (sBin dSub (sBin dMul (sVar 1) (sVar 7)) (sBin dMul (sVar 4) (sVar 5))) (sC (.int 1)))) (sTup (sCons (sVar 1) (sCons (sVar 4) (sCons (sVar 5) (sCons (sVar 7) (sNil)))))) [7]
def l__law_bf_keepers_2 : SS := sAsg (sBin dAdd (sVar 2) (c__law_bf_keepers_1)) (gNm 2)
def l__law_bf_keepers_3 : SS := sFor (iSeq (sVar 3)) (gNm 5) (l__law_bf_keepers_2)
def l__law_bf_keepers_4 : SS := sFor (iSeq (sVar 3)) (gNm 4) (l__law_bf_keepers_3)
def c__law_bf_keepers_5 : SE := sLc (iSeq (sVar 2)) (gNm 6) (sTst (sBin dEq (sFn f__law_bf_led (sCons (sVar 0) (sCons (sVar 6) (sNil)))) (sVar 0))) (sVar 6) [6]
def f__law_bf_keepers : Fn := runDef 8 (sSeq (sPar 2 3 (sCons (sLst (sNil)) (sCons (sLst (sCons (sC (.int (-1))) (sCons (sC (.int 0)) (sCons (sC (.int 1)) (sNil))))) (sNil)))) (sSeq (sFor (iSeq (sVar 3)) (gNm 1) (l__law_bf_keepers_4)) (sRet (c__law_bf_keepers_5))))
def f_is_reducing : Fn := runDef 2 (sSeq (sDrop (sFn f_require_form (sCons (sVar 0) (sNil)))) (sRet (sAnd (sFn f_is_turn (sCons (sVar 1) (sNil))) (sBin dEq (sFn f_led_by (sCons (sVar 0) (sCons (sVar 1) (sNil)))) (sBin dIx (sFn f_reducing (sCons (sVar 0) (sNil))) (sC (.int 0)))))))
theorem bf_least_ok {a b c : Int} {h : Ph} : f__law_bf_is_least [T3 a b c] h = .ok (.bl (Lst a b c)) h := by
  unfold f__law_bf_is_least Lst
  by_cases h1 : b < -a <;> by_cases h2 : a < b <;> by_cases h3 : c < a <;> by_cases h4 : 0 ≤ b <;> first | (exfalso; omega) | (
    have k1 : (-a ≤ b) = ¬ (b < -a) := by simp
    have k2 : (b ≤ a) = ¬ (a < b) := by simp
    have k3 : (a ≤ c) = ¬ (c < a) := by simp
    simp only [k1, k2, k3]
    first
    | (simp (maxSteps := 4000000) (dsimp := false) (disch := first | assumption | decide | omega | walk_at "cm") only [runDef_ap, sVar_ap, sC_ap, sBin_ap, sNeg_ap, sAnd_ap, sOr_ap, sNot_ap, sIf_ap, sTst_ap, qAnd_ap, qOr_ap, qNot_ap, qYes_ap, sChain_ap, sChain3_ap, sNil_ap, sCons_ap, sTup_ap, sLst_ap, sLstM_ap, sCall_ap, g1_ap, g2_ap, sFn_ap, sAsg_ap, gNm_ap, gTp_ap, gConsS_ap, gNilS_ap, sPar_ap, sPar3_ap, sRet_ap, sRetN_ap, sNx_ap, sBrk_ap, sCnt_ap, sSeq_ap, sIte_ap, sDrop_ap, sFrz_ap, sAug_ap, iRange1_ap, iRange2_ap, iSeq_ap, sFor_ap, sLc_ap, R.toG_ok, ↓R.bind_bnd, bnd_ok, ↓R.bd_bdn, bdn_ok, ↓R.toF_tof, tof_ok, ↓F.seq_sqn, sqn_nx, sqn_ret, sqn_cnt, sqn_brk, ↓F.turn_trn, trn_nx, trn_ret, trn_cnt, trn_brk, F.end_nx, F.end_ret, ↓br_true, br_true, ↓br_false, br_false, Dbr, Dneg, Dtst, opt_some, dAdd_int, dSub_int, dLt_int, dLe_int, dGt_int, dGe_int, dEq_int, dNe_int, dEq_bl, dNe_bl, dMul_cm, dMod_pos, dDiv_pos, dAbs_int, dMax2_int, dMin2_int, dInt_int, dInt_bl, dIx_tup, dIx_lst, dIx_seq, dLen_tup, dLen_lst, dLen_seq, atI_0, atI_1, atI_2, atI_3, List.map_cons, List.map_nil, List.length_cons, List.length_nil, List.replicate_succ, List.replicate_zero, List.cons_append, List.nil_append, List.getElem?_cons_zero, List.getElem?_cons_succ, List.set_cons_zero, List.set_cons_succ, Nat.reduceAdd, Nat.reduceSub, Nat.zero_add, Nat.add_zero, Nat.sub_self, Nat.reduceMul, mostL_def, Nat.reduceLeDiff, Nat.reduceLT, ite_true, ite_false, if_true, if_false, ↓reduceIte, reduceIte, ↓br_ite, Bool.false_eq_true, reduceCtorEq, Bool.not_true, Bool.not_false, decide_true, decide_false, Int.cast_ofNat_Int, Int.reduceBEq, Int.reduceAdd, Int.reduceSub, Int.reduceMul, Int.reduceNeg, Int.reduceLT, Int.reduceLE, Int.reduceMod, Int.reduceDiv, sMeth1_ap, sSl_ap, sRev_ap, oNo_ap, oPart_ap, sDict0_ap, sSetL_ap, gTp_ap, gConsS_ap, gNilS_ap, sNeg_ap, h1, h2, h3, h4, it_bl, br_bl, it_and, br_and, it_or, br_or, not_true_eq_false, not_false_eq_true]; done) | (simp (maxSteps := 4000000) (dsimp := false) (disch := first | assumption | decide | omega | walk_at "cm") only [runDef_ap, sVar_ap, sC_ap, sBin_ap, sNeg_ap, sAnd_ap, sOr_ap, sNot_ap, sIf_ap, sTst_ap, qAnd_ap, qOr_ap, qNot_ap, qYes_ap, sChain_ap, sChain3_ap, sNil_ap, sCons_ap, sTup_ap, sLst_ap, sLstM_ap, sCall_ap, g1_ap, g2_ap, sFn_ap, sAsg_ap, gNm_ap, gTp_ap, gConsS_ap, gNilS_ap, sPar_ap, sPar3_ap, sRet_ap, sRetN_ap, sNx_ap, sBrk_ap, sCnt_ap, sSeq_ap, sIte_ap, sDrop_ap, sFrz_ap, sAug_ap, iRange1_ap, iRange2_ap, iSeq_ap, sFor_ap, sLc_ap, R.toG_ok, ↓R.bind_bnd, bnd_ok, ↓R.bd_bdn, bdn_ok, ↓R.toF_tof, tof_ok, ↓F.seq_sqn, sqn_nx, sqn_ret, sqn_cnt, sqn_brk, ↓F.turn_trn, trn_nx, trn_ret, trn_cnt, trn_brk, F.end_nx, F.end_ret, ↓br_true, br_true, ↓br_false, br_false, Dbr, Dneg, Dtst, opt_some, dAdd_int, dSub_int, dLt_int, dLe_int, dGt_int, dGe_int, dEq_int, dNe_int, dEq_bl, dNe_bl, dMul_cm, dMod_pos, dDiv_pos, dAbs_int, dMax2_int, dMin2_int, dInt_int, dInt_bl, dIx_tup, dIx_lst, dIx_seq, dLen_tup, dLen_lst, dLen_seq, atI_0, atI_1, atI_2, atI_3, List.map_cons, List.map_nil, List.length_cons, List.length_nil, List.replicate_succ, List.replicate_zero, List.cons_append, List.nil_append, List.getElem?_cons_zero, List.getElem?_cons_succ, List.set_cons_zero, List.set_cons_succ, Nat.reduceAdd, Nat.reduceSub, Nat.zero_add, Nat.add_zero, Nat.sub_self, Nat.reduceMul, mostL_def, Nat.reduceLeDiff, Nat.reduceLT, ite_true, ite_false, if_true, if_false, ↓reduceIte, reduceIte, ↓br_ite, Bool.false_eq_true, reduceCtorEq, Bool.not_true, Bool.not_false, decide_true, decide_false, Int.cast_ofNat_Int, Int.reduceBEq, Int.reduceAdd, Int.reduceSub, Int.reduceMul, Int.reduceNeg, Int.reduceLT, Int.reduceLE, Int.reduceMod, Int.reduceDiv, sMeth1_ap, sSl_ap, sRev_ap, oNo_ap, oPart_ap, sDict0_ap, sSetL_ap, gTp_ap, gConsS_ap, gNilS_ap, sNeg_ap, h1, h2, h3, h4, it_bl, br_bl, it_and, br_and, it_or, br_or, not_true_eq_false, not_false_eq_true]; rfl))
theorem bf_product_ok {j k : Nat} {a b c d p q r s : Int} {h : Ph} (x : Mx j a b c d) (y : Mx k p q r s) (hj : j ≤ 600) (hk : k ≤ 600) : f__law_bf_product [T4 a b c d, T4 p q r s] h = .ok (T4 (a * p + b * r) (a * q + b * s) (c * p + d * r) (c * q + d * s)) h := by
  have x' := x.mono hj
  have y' := y.mono hk
  have e1 := x'.sp
  have e2 := x'.sq
  have e3 := x'.sr
  have e4 := x'.ss
  have e5 := y'.sp
  have e6 := y'.sq
  have e7 := y'.sr
  have e8 := y'.ss
  unfold f__law_bf_product; simp (maxSteps := 4000000) (dsimp := false) (disch := first | assumption | decide | omega | walk_at "cm") only [runDef_ap, sVar_ap, sC_ap, sBin_ap, sNeg_ap, sAnd_ap, sOr_ap, sNot_ap, sIf_ap, sTst_ap, qAnd_ap, qOr_ap, qNot_ap, qYes_ap, sChain_ap, sChain3_ap, sNil_ap, sCons_ap, sTup_ap, sLst_ap, sLstM_ap, sCall_ap, g1_ap, g2_ap, sFn_ap, sAsg_ap, gNm_ap, gTp_ap, gConsS_ap, gNilS_ap, sPar_ap, sPar3_ap, sRet_ap, sRetN_ap, sNx_ap, sBrk_ap, sCnt_ap, sSeq_ap, sIte_ap, sDrop_ap, sFrz_ap, sAug_ap, iRange1_ap, iRange2_ap, iSeq_ap, sFor_ap, sLc_ap, R.toG_ok, ↓R.bind_bnd, bnd_ok, ↓R.bd_bdn, bdn_ok, ↓R.toF_tof, tof_ok, ↓F.seq_sqn, sqn_nx, sqn_ret, sqn_cnt, sqn_brk, ↓F.turn_trn, trn_nx, trn_ret, trn_cnt, trn_brk, F.end_nx, F.end_ret, ↓br_true, br_true, ↓br_false, br_false, Dbr, Dneg, Dtst, opt_some, dAdd_int, dSub_int, dLt_int, dLe_int, dGt_int, dGe_int, dEq_int, dNe_int, dEq_bl, dNe_bl, dMul_cm, dMod_pos, dDiv_pos, dAbs_int, dMax2_int, dMin2_int, dInt_int, dInt_bl, dIx_tup, dIx_lst, dIx_seq, dLen_tup, dLen_lst, dLen_seq, atI_0, atI_1, atI_2, atI_3, List.map_cons, List.map_nil, List.length_cons, List.length_nil, List.replicate_succ, List.replicate_zero, List.cons_append, List.nil_append, List.getElem?_cons_zero, List.getElem?_cons_succ, List.set_cons_zero, List.set_cons_succ, Nat.reduceAdd, Nat.reduceSub, Nat.zero_add, Nat.add_zero, Nat.sub_self, Nat.reduceMul, mostL_def, Nat.reduceLeDiff, Nat.reduceLT, ite_true, ite_false, if_true, if_false, ↓reduceIte, reduceIte, ↓br_ite, Bool.false_eq_true, reduceCtorEq, Bool.not_true, Bool.not_false, decide_true, decide_false, Int.cast_ofNat_Int, Int.reduceBEq, Int.reduceAdd, Int.reduceSub, Int.reduceMul, Int.reduceNeg, Int.reduceLT, Int.reduceLE, Int.reduceMod, Int.reduceDiv, sMeth1_ap, sSl_ap, sRev_ap, oNo_ap, oPart_ap, sDict0_ap, sSetL_ap, gTp_ap, gConsS_ap, gNilS_ap]
theorem bf_led_ok {a b c p q r s : Int} {h : Ph} (sa : Sm 600 a) (sb : Sm 600 b) (sc : Sm 600 c) (m : Mx 600 p q r s) : f__law_bf_led [T3 a b c, T4 p q r s] h = .ok (T3 (lA a b c p r) (lB a b c p q r s) (lA a b c q s)) h := by
  have sp := m.sp
  have sq := m.sq
  have sr := m.sr
  have ss := m.ss
  have e : b * (p * s + q * r) + 2 * (a * p * q + c * r * s) = lB a b c p q r s := by unfold lB; grind
  unfold f__law_bf_led; simp (maxSteps := 4000000) (dsimp := false) (disch := first | assumption | decide | omega | walk_at "cm") only [runDef_ap, sVar_ap, sC_ap, sBin_ap, sNeg_ap, sAnd_ap, sOr_ap, sNot_ap, sIf_ap, sTst_ap, qAnd_ap, qOr_ap, qNot_ap, qYes_ap, sChain_ap, sChain3_ap, sNil_ap, sCons_ap, sTup_ap, sLst_ap, sLstM_ap, sCall_ap, g1_ap, g2_ap, sFn_ap, sAsg_ap, gNm_ap, gTp_ap, gConsS_ap, gNilS_ap, sPar_ap, sPar3_ap, sRet_ap, sRetN_ap, sNx_ap, sBrk_ap, sCnt_ap, sSeq_ap, sIte_ap, sDrop_ap, sFrz_ap, sAug_ap, iRange1_ap, iRange2_ap, iSeq_ap, sFor_ap, sLc_ap, R.toG_ok, ↓R.bind_bnd, bnd_ok, ↓R.bd_bdn, bdn_ok, ↓R.toF_tof, tof_ok, ↓F.seq_sqn, sqn_nx, sqn_ret, sqn_cnt, sqn_brk, ↓F.turn_trn, trn_nx, trn_ret, trn_cnt, trn_brk, F.end_nx, F.end_ret, ↓br_true, br_true, ↓br_false, br_false, Dbr, Dneg, Dtst, opt_some, dAdd_int, dSub_int, dLt_int, dLe_int, dGt_int, dGe_int, dEq_int, dNe_int, dEq_bl, dNe_bl, dMul_cm, dMod_pos, dDiv_pos, dAbs_int, dMax2_int, dMin2_int, dInt_int, dInt_bl, dIx_tup, dIx_lst, dIx_seq, dLen_tup, dLen_lst, dLen_seq, atI_0, atI_1, atI_2, atI_3, List.map_cons, List.map_nil, List.length_cons, List.length_nil, List.replicate_succ, List.replicate_zero, List.cons_append, List.nil_append, List.getElem?_cons_zero, List.getElem?_cons_succ, List.set_cons_zero, List.set_cons_succ, Nat.reduceAdd, Nat.reduceSub, Nat.zero_add, Nat.add_zero, Nat.sub_self, Nat.reduceMul, mostL_def, Nat.reduceLeDiff, Nat.reduceLT, ite_true, ite_false, if_true, if_false, ↓reduceIte, reduceIte, ↓br_ite, Bool.false_eq_true, reduceCtorEq, Bool.not_true, Bool.not_false, decide_true, decide_false, Int.cast_ofNat_Int, Int.reduceBEq, Int.reduceAdd, Int.reduceSub, Int.reduceMul, Int.reduceNeg, Int.reduceLT, Int.reduceLE, Int.reduceMod, Int.reduceDiv, sMeth1_ap, sSl_ap, sRev_ap, oNo_ap, oPart_ap, sDict0_ap, sSetL_ap, gTp_ap, gConsS_ap, gNilS_ap, e]
theorem drawn_ok {n : Nat} {h : Ph} {T : Int} (hd : Dc h n) (hT : 0 < T) (hb : T ≤ 1000000000) : ∃ a b c h', f__law_bf_drawn [.ref n, .int T] h = .ok (T3 a b c) h' ∧ Fm 62 a b c ∧ Dr n h h' := by
  have lg : ∀ {X : Int}, 0 < X → X < 4294967296 → X.natAbs.log2 < 9000 := fun h1 h2 => Nat.lt_of_le_of_lt (log_lt (k := 32) (by omega)) (by decide)
  obtain ⟨v, h1, e1, v0, v1, d1⟩ := roll_ok hd hT (lg hT (by omega))
  obtain ⟨w, h2, e2, w0, w1, d2⟩ := roll_ok (T := 2 * T + 1) d1.dc (by omega) (lg (by omega) (by omega))
  obtain ⟨u, h3, e3, u0, u1, d3⟩ := roll_ok d2.dc hT (lg hT (by omega))
  have hp : 0 < 4 * (1 + v) := by omega
  have hlg : (4 * (1 + v)).natAbs.log2 < 9000 := Nat.lt_of_le_of_lt (log_lt (k := 40) (by omega)) (by decide)
  refine ⟨1 + v, w - T, (w - T) * (w - T) / (4 * (1 + v)) + 1 + u, h3, ?_, ?_, (d1.trans d2).trans d3⟩
  · unfold f__law_bf_drawn
    simp (maxSteps := 4000000) (dsimp := false) (disch := first | assumption | decide | omega | walk_at "cm") only [runDef_ap, sVar_ap, sC_ap, sBin_ap, sNeg_ap, sAnd_ap, sOr_ap, sNot_ap, sIf_ap, sTst_ap, qAnd_ap, qOr_ap, qNot_ap, qYes_ap, sChain_ap, sChain3_ap, sNil_ap, sCons_ap, sTup_ap, sLst_ap, sLstM_ap, sCall_ap, g1_ap, g2_ap, sFn_ap, sAsg_ap, gNm_ap, gTp_ap, gConsS_ap, gNilS_ap, sPar_ap, sPar3_ap, sRet_ap, sRetN_ap, sNx_ap, sBrk_ap, sCnt_ap, sSeq_ap, sIte_ap, sDrop_ap, sFrz_ap, sAug_ap, iRange1_ap, iRange2_ap, iSeq_ap, sFor_ap, sLc_ap, R.toG_ok, ↓R.bind_bnd, bnd_ok, ↓R.bd_bdn, bdn_ok, ↓R.toF_tof, tof_ok, ↓F.seq_sqn, sqn_nx, sqn_ret, sqn_cnt, sqn_brk, ↓F.turn_trn, trn_nx, trn_ret, trn_cnt, trn_brk, F.end_nx, F.end_ret, ↓br_true, br_true, ↓br_false, br_false, Dbr, Dneg, Dtst, opt_some, dAdd_int, dSub_int, dLt_int, dLe_int, dGt_int, dGe_int, dEq_int, dNe_int, dEq_bl, dNe_bl, dMul_cm, dMod_pos, dDiv_pos, dAbs_int, dMax2_int, dMin2_int, dInt_int, dInt_bl, dIx_tup, dIx_lst, dIx_seq, dLen_tup, dLen_lst, dLen_seq, atI_0, atI_1, atI_2, atI_3, List.map_cons, List.map_nil, List.length_cons, List.length_nil, List.replicate_succ, List.replicate_zero, List.cons_append, List.nil_append, List.getElem?_cons_zero, List.getElem?_cons_succ, List.set_cons_zero, List.set_cons_succ, Nat.reduceAdd, Nat.reduceSub, Nat.zero_add, Nat.add_zero, Nat.sub_self, Nat.reduceMul, mostL_def, Nat.reduceLeDiff, Nat.reduceLT, ite_true, ite_false, if_true, if_false, ↓reduceIte, reduceIte, ↓br_ite, Bool.false_eq_true, reduceCtorEq, Bool.not_true, Bool.not_false, decide_true, decide_false, Int.cast_ofNat_Int, Int.reduceBEq, Int.reduceAdd, Int.reduceSub, Int.reduceMul, Int.reduceNeg, Int.reduceLT, Int.reduceLE, Int.reduceMod, Int.reduceDiv, sMeth1_ap, sSl_ap, sRev_ap, oNo_ap, oPart_ap, sDict0_ap, sSetL_ap, e1, e2, e3]
  · have sb : Sm 31 (w - T) := Sm.of_lt 31 (n := 2000000000) (by omega) (by omega) (by decide)
    have hbb : (w - T) * (w - T) < 4611686018427387904 := by have := (sb.mul sb).lt; have e : (2 : Nat) ^ (31 + 31) = 4611686018427387904 := rfl; omega
    have hb0 := sq_nonneg' (w - T)
    have hdm := Int.mul_ediv_add_emod ((w - T) * (w - T)) (4 * (1 + v))
    have hm1 := Int.emod_lt_of_pos ((w - T) * (w - T)) hp
    have hm0 := Int.emod_nonneg ((w - T) * (w - T)) (Int.ne_of_gt hp)
    have hq0 : 0 ≤ (w - T) * (w - T) / (4 * (1 + v)) := Int.ediv_nonneg hb0 (by omega)
    have hq1 : (w - T) * (w - T) / (4 * (1 + v)) * 4 ≤ (w - T) * (w - T) := by
      have k : 0 ≤ v * ((w - T) * (w - T) / (4 * (1 + v))) := Int.mul_nonneg v0 hq0
      have : 4 * (1 + v) * ((w - T) * (w - T) / (4 * (1 + v))) = 4 * ((w - T) * (w - T) / (4 * (1 + v))) + 4 * (v * ((w - T) * (w - T) / (4 * (1 + v)))) := by grind
      omega
    generalize hq : (w - T) * (w - T) / (4 * (1 + v)) = Q at *
    refine ⟨Sm.of_lt 62 (n := 2000000000) (by omega) (by omega) (by decide), sb.mono (by decide), Sm.of_lt 62 (n := 4611686018427387904) (by omega) (by omega) (by decide), by omega, ?_⟩
    have k : 0 ≤ (1 + v) * u := Int.mul_nonneg (by omega) u0
    have : 4 * (1 + v) * (Q + 1 + u) = 4 * (1 + v) * Q + 4 * (1 + v) + 4 * ((1 + v) * u) := by grind
    omega
/-- one more part of a matrix -/
theorem matrix_step {n : Nat} {h : Ph} {k : Nat} {p q r s : Int} {z : Int} {o3 o4 o5 : Option D} (hd : Dc h n) (x : Mx k p q r s) (hk : k ≤ 200) : ∃ a b c d o4' o5' h', l__law_bf_matrix_1 [some (.ref n), some (.int z), some (T4 p q r s), o3, o4, o5] h = .nx [some (.ref n), some (.int z), some (T4 a b c d), o3, o4', o5'] h' ∧ Mx (k + 5) a b c d ∧ Dr n h h' := by
  obtain ⟨v, h1, e1, v0, v1, d1⟩ := roll_ok (T := 9) hd (by decide) (by decide)
  have sv : Sm 4 (1 + v) := Sm.of_lt 4 (n := 11) (by omega) (by omega) (by decide)
  obtain ⟨d, h2, e2, md, d2⟩ := pick_ok (xs := [T4 0 (-1) 1 0, T4 1 (1 + v) 0 1, T4 1 0 (-(1 + v)) 1, T4 1 (-(1 + v)) 0 1]) d1.dc (by simp) (by simp)
  have : ∃ a b c t, d = T4 a b c t ∧ Mx 4 a b c t := by
    have s0 : Sm 4 0 := ⟨by decide⟩
    have s1 : Sm 4 1 := ⟨by decide⟩
    have s2 : Sm 4 (-1) := ⟨by decide⟩
    have sn := sv.neg
    simp only [List.mem_cons, List.not_mem_nil, or_false] at md
    rcases md with rfl | rfl | rfl | rfl
    · exact ⟨_, _, _, _, rfl, s0, s2, s1, s0, by decide⟩
    · exact ⟨_, _, _, _, rfl, s1, sv, s0, s1, by simp⟩
    · exact ⟨_, _, _, _, rfl, s1, s0, sn, s1, by simp⟩
    · exact ⟨_, _, _, _, rfl, s1, sn, s0, s1, by simp⟩
  obtain ⟨a, b, c, t, rfl, y⟩ := this
  refine ⟨p * a + q * c, p * b + q * t, r * a + s * c, r * b + s * t, some (.int (1 + v)), some (T4 a b c t), h2, ?_, (x.prod y).mono (by omega), d1.trans d2⟩
  have e3 := bf_product_ok (h := h2) x y (by omega) (by omega)
  unfold l__law_bf_matrix_1
  simp (maxSteps := 4000000) (dsimp := false) (disch := first | assumption | decide | omega | walk_at "cm") only [runDef_ap, sVar_ap, sC_ap, sBin_ap, sNeg_ap, sAnd_ap, sOr_ap, sNot_ap, sIf_ap, sTst_ap, qAnd_ap, qOr_ap, qNot_ap, qYes_ap, sChain_ap, sChain3_ap, sNil_ap, sCons_ap, sTup_ap, sLst_ap, sLstM_ap, sCall_ap, g1_ap, g2_ap, sFn_ap, sAsg_ap, gNm_ap, gTp_ap, gConsS_ap, gNilS_ap, sPar_ap, sPar3_ap, sRet_ap, sRetN_ap, sNx_ap, sBrk_ap, sCnt_ap, sSeq_ap, sIte_ap, sDrop_ap, sFrz_ap, sAug_ap, iRange1_ap, iRange2_ap, iSeq_ap, sFor_ap, sLc_ap, R.toG_ok, ↓R.bind_bnd, bnd_ok, ↓R.bd_bdn, bdn_ok, ↓R.toF_tof, tof_ok, ↓F.seq_sqn, sqn_nx, sqn_ret, sqn_cnt, sqn_brk, ↓F.turn_trn, trn_nx, trn_ret, trn_cnt, trn_brk, F.end_nx, F.end_ret, ↓br_true, br_true, ↓br_false, br_false, Dbr, Dneg, Dtst, opt_some, dAdd_int, dSub_int, dLt_int, dLe_int, dGt_int, dGe_int, dEq_int, dNe_int, dEq_bl, dNe_bl, dMul_cm, dMod_pos, dDiv_pos, dAbs_int, dMax2_int, dMin2_int, dInt_int, dInt_bl, dIx_tup, dIx_lst, dIx_seq, dLen_tup, dLen_lst, dLen_seq, atI_0, atI_1, atI_2, atI_3, List.map_cons, List.map_nil, List.length_cons, List.length_nil, List.replicate_succ, List.replicate_zero, List.cons_append, List.nil_append, List.getElem?_cons_zero, List.getElem?_cons_succ, List.set_cons_zero, List.set_cons_succ, Nat.reduceAdd, Nat.reduceSub, Nat.zero_add, Nat.add_zero, Nat.sub_self, Nat.reduceMul, mostL_def, Nat.reduceLeDiff, Nat.reduceLT, ite_true, ite_false, if_true, if_false, ↓reduceIte, reduceIte, ↓br_ite, Bool.false_eq_true, reduceCtorEq, Bool.not_true, Bool.not_false, decide_true, decide_false, Int.cast_ofNat_Int, Int.reduceBEq, Int.reduceAdd, Int.reduceSub, Int.reduceMul, Int.reduceNeg, Int.reduceLT, Int.reduceLE, Int.reduceMod, Int.reduceDiv, sMeth1_ap, sSl_ap, sRev_ap, oNo_ap, oPart_ap, sDict0_ap, sSetL_ap, e1, e2, e3, sNeg_ap, Int.reduceNeg]
theorem matrix_ok {z : Int} {n : Nat} {h : Ph} (hd : Dc h n) (z0 : 0 ≤ z) (z1 : z ≤ 30) : ∃ a b c d h', f__law_bf_matrix [.ref n, .int z] h = .ok (T4 a b c d) h' ∧ Mx (1 + 5 * z.toNat) a b c d ∧ Dr n h h' := by
  obtain ⟨v, h1, e1, v0, v1, d1⟩ := roll_ok (T := z + 1) hd (by omega) (Nat.lt_of_le_of_lt (log_lt (k := 32) (by omega)) (by decide))
  have P0 : Mx 1 1 0 0 1 := ⟨⟨by decide⟩, ⟨by decide⟩, ⟨by decide⟩, ⟨by decide⟩, by decide⟩
  obtain ⟨e', h', q1, q2⟩ := forGo_inv (g := gNm 3) (f := l__law_bf_matrix_1) (fun j e h' => j ≤ z.toNat ∧ ∃ a b c d o3 o4 o5, e = [some (.ref n), some (.int z), some (T4 a b c d), o3, o4, o5] ∧ Mx (1 + 5 * j) a b c d ∧ Dr n h h') (rangeD 0 v.toNat) 0 [some (.ref n), some (.int z), some (T4 1 0 0 1), none, none, none] h1 ⟨by omega, 1, 0, 0, 1, none, none, none, rfl, P0, d1⟩
    (fun x hx j e h2 hj hj2 ⟨_, a, b, c, d, o3, o4, o5, he, m, dr⟩ => by
      rw [rangeD_len] at hj2
      subst he
      obtain ⟨a', b', c', d', o4', o5', h3, s1, s2, s3⟩ := matrix_step (o3 := some x) (o4 := o4) (o5 := o5) dr.dc m (by omega)
      exact ⟨_, _, _, _, rfl, s1, by omega, a', b', c', d', some x, o4', o5', rfl, s2.mono (by omega), dr.trans s3⟩)
  obtain ⟨_, a, b, c, d, o3, o4, o5, he, m, dr⟩ := q2
  rw [rangeD_len] at m
  subst he
  refine ⟨a, b, c, d, h', ?_, m.mono (by omega), dr⟩
  unfold f__law_bf_matrix
  simp (maxSteps := 4000000) (dsimp := false) (disch := first | assumption | decide | omega | walk_at "cm") only [runDef_ap, sVar_ap, sC_ap, sBin_ap, sNeg_ap, sAnd_ap, sOr_ap, sNot_ap, sIf_ap, sTst_ap, qAnd_ap, qOr_ap, qNot_ap, qYes_ap, sChain_ap, sChain3_ap, sNil_ap, sCons_ap, sTup_ap, sLst_ap, sLstM_ap, sCall_ap, g1_ap, g2_ap, sFn_ap, sAsg_ap, gNm_ap, gTp_ap, gConsS_ap, gNilS_ap, sPar_ap, sPar3_ap, sRet_ap, sRetN_ap, sNx_ap, sBrk_ap, sCnt_ap, sSeq_ap, sIte_ap, sDrop_ap, sFrz_ap, sAug_ap, iRange1_ap, iRange2_ap, iSeq_ap, sFor_ap, sLc_ap, R.toG_ok, ↓R.bind_bnd, bnd_ok, ↓R.bd_bdn, bdn_ok, ↓R.toF_tof, tof_ok, ↓F.seq_sqn, sqn_nx, sqn_ret, sqn_cnt, sqn_brk, ↓F.turn_trn, trn_nx, trn_ret, trn_cnt, trn_brk, F.end_nx, F.end_ret, ↓br_true, br_true, ↓br_false, br_false, Dbr, Dneg, Dtst, opt_some, dAdd_int, dSub_int, dLt_int, dLe_int, dGt_int, dGe_int, dEq_int, dNe_int, dEq_bl, dNe_bl, dMul_cm, dMod_pos, dDiv_pos, dAbs_int, dMax2_int, dMin2_int, dInt_int, dInt_bl, dIx_tup, dIx_lst, dIx_seq, dLen_tup, dLen_lst, dLen_seq, atI_0, atI_1, atI_2, atI_3, List.map_cons, List.map_nil, List.length_cons, List.length_nil, List.replicate_succ, List.replicate_zero, List.cons_append, List.nil_append, List.getElem?_cons_zero, List.getElem?_cons_succ, List.set_cons_zero, List.set_cons_succ, Nat.reduceAdd, Nat.reduceSub, Nat.zero_add, Nat.add_zero, Nat.sub_self, Nat.reduceMul, mostL_def, Nat.reduceLeDiff, Nat.reduceLT, ite_true, ite_false, if_true, if_false, ↓reduceIte, reduceIte, ↓br_ite, Bool.false_eq_true, reduceCtorEq, Bool.not_true, Bool.not_false, decide_true, decide_false, Int.cast_ofNat_Int, Int.reduceBEq, Int.reduceAdd, Int.reduceSub, Int.reduceMul, Int.reduceNeg, Int.reduceLT, Int.reduceLE, Int.reduceMod, Int.reduceDiv, sMeth1_ap, sSl_ap, sRev_ap, oNo_ap, oPart_ap, sDict0_ap, sSetL_ap, rng_ok, e1, q1]
/-! ### reducing -/
theorem product_of_ok {j k : Nat} {a b c d p q r s : Int} {h : Ph} (x : Mx j a b c d) (y : Mx k p q r s) (hj : j ≤ 600) (hk : k ≤ 600) : f_product_of [T4 a b c d, T4 p q r s] h = .ok (T4 (a * p + b * r) (a * q + b * s) (c * p + d * r) (c * q + d * s)) h := by
  have x' := x.mono hj
  have y' := y.mono hk
  have e1 := x'.sp
  have e2 := x'.sq
  have e3 := x'.sr
  have e4 := x'.ss
  have e5 := y'.sp
  have e6 := y'.sq
  have e7 := y'.sr
  have e8 := y'.ss
  unfold f_product_of; simp (maxSteps := 4000000) (dsimp := false) (disch := first | assumption | decide | omega | walk_at "cm") only [runDef_ap, sVar_ap, sC_ap, sBin_ap, sNeg_ap, sAnd_ap, sOr_ap, sNot_ap, sIf_ap, sTst_ap, qAnd_ap, qOr_ap, qNot_ap, qYes_ap, sChain_ap, sChain3_ap, sNil_ap, sCons_ap, sTup_ap, sLst_ap, sLstM_ap, sCall_ap, g1_ap, g2_ap, sFn_ap, sAsg_ap, gNm_ap, gTp_ap, gConsS_ap, gNilS_ap, sPar_ap, sPar3_ap, sRet_ap, sRetN_ap, sNx_ap, sBrk_ap, sCnt_ap, sSeq_ap, sIte_ap, sDrop_ap, sFrz_ap, sAug_ap, iRange1_ap, iRange2_ap, iSeq_ap, sFor_ap, sLc_ap, R.toG_ok, ↓R.bind_bnd, bnd_ok, ↓R.bd_bdn, bdn_ok, ↓R.toF_tof, tof_ok, ↓F.seq_sqn, sqn_nx, sqn_ret, sqn_cnt, sqn_brk, ↓F.turn_trn, trn_nx, trn_ret, trn_cnt, trn_brk, F.end_nx, F.end_ret, ↓br_true, br_true, ↓br_false, br_false, Dbr, Dneg, Dtst, opt_some, dAdd_int, dSub_int, dLt_int, dLe_int, dGt_int, dGe_int, dEq_int, dNe_int, dEq_bl, dNe_bl, dMul_cm, dMod_pos, dDiv_pos, dAbs_int, dMax2_int, dMin2_int, dInt_int, dInt_bl, dIx_tup, dIx_lst, dIx_seq, dLen_tup, dLen_lst, dLen_seq, atI_0, atI_1, atI_2, atI_3, List.map_cons, List.map_nil, List.length_cons, List.length_nil, List.replicate_succ, List.replicate_zero, List.cons_append, List.nil_append, List.getElem?_cons_zero, List.getElem?_cons_succ, List.set_cons_zero, List.set_cons_succ, Nat.reduceAdd, Nat.reduceSub, Nat.zero_add, Nat.add_zero, Nat.sub_self, Nat.reduceMul, mostL_def, Nat.reduceLeDiff, Nat.reduceLT, ite_true, ite_false, if_true, if_false, ↓reduceIte, reduceIte, ↓br_ite, Bool.false_eq_true, reduceCtorEq, Bool.not_true, Bool.not_false, decide_true, decide_false, Int.cast_ofNat_Int, Int.reduceBEq, Int.reduceAdd, Int.reduceSub, Int.reduceMul, Int.reduceNeg, Int.reduceLT, Int.reduceLE, Int.reduceMod, Int.reduceDiv, sMeth1_ap, sSl_ap, sRev_ap, oNo_ap, oPart_ap, sDict0_ap, sSetL_ap, gTp_ap, gConsS_ap, gNilS_ap]
theorem Sm.of_sq {m : Nat} {x : Int} (h : x * x < (2 ^ (2 * m) : Nat)) : Sm m x := ⟨by
  have e : ((x.natAbs * x.natAbs : Nat) : Int) = x * x := Int.natAbs_mul_self
  have h2 : x.natAbs * x.natAbs < 2 ^ m * 2 ^ m := by
    rw [← Nat.pow_add, show m + m = 2 * m by omega]
    omega
  exact Nat.lt_of_not_le fun g => absurd (Nat.mul_le_mul g g) (by omega)⟩
structure Rst (k : Nat) (a b c A B C p q r s : Int) : Prop where
  eA : lA a b c p r = A
  eB : lB a b c p q r s = B
  eC : lA a b c q s = C
  det : p * s - q * r = 1
  pos : 0 < A
  le : A ≤ a
  sB : Sm k B
theorem Rst.mea {k : Nat} {a b c A B C p q r s : Int} (x : Rst k a b c A B C p q r s) : 4 * A * C - B * B = 4 * a * c - b * b := by
  rw [← x.eA, ← x.eB, ← x.eC]; exact led_measure x.det
theorem Rst.fm {k : Nat} {a b c A B C p q r s : Int} (f : Fm k a b c) (x : Rst k a b c A B C p q r s) : Fm (2 * k + 3) A B C := by
  have hm := x.mea
  have hp := x.pos
  have hle := x.le
  have h1 := f.sa.lt
  have sD : Sm (2 * k + 2) (4 * a * c - b * b) := ⟨by
    have h2 := f.mea
    have h3 := (f.sa.mul f.sc).lt
    have e : (2 : Nat) ^ (2 * k + 2) = 4 * 2 ^ (k + k) := by rw [show 2 * k + 2 = (k + k) + 2 by omega, Nat.pow_add]; omega
    have e4 : 4 * a * c = 4 * (a * c) := Int.mul_assoc 4 a c
    have := sq_nonneg' b
    omega⟩
  have sBB := (x.sB.mul x.sB).lt
  have h4 := f.mea
  have hBB := sq_nonneg' B
  have hC : 0 < C := by
    have : 0 < 4 * A * C := by omega
    exact Int.pos_of_mul_pos_right this (by omega)
  have hAC : C ≤ A * C := by
    have : 0 ≤ (A - 1) * C := Int.mul_nonneg (by omega) (by omega)
    grind
  refine ⟨⟨?_⟩, x.sB.mono (by omega), ⟨?_⟩, hp, by rw [hm]; exact h4⟩
  · exact Nat.lt_of_lt_of_le (by omega : A.natAbs < 2 ^ k) (Nat.pow_le_pow_right (by decide) (by omega))
  · have e : (2 : Nat) ^ (2 * k + 3) = 2 * 2 ^ (2 * k + 2) := by rw [show 2 * k + 3 = (2 * k + 2) + 1 by omega, Nat.pow_succ]; omega
    have e2 : (2 : Nat) ^ (2 * k + 2) = 4 * 2 ^ (k + k) := by rw [show 2 * k + 2 = (k + k) + 2 by omega, Nat.pow_add]; omega
    have h5 := sD.lt
    have e4 : 4 * A * C = 4 * (A * C) := Int.mul_assoc 4 A C
    omega
theorem lead_sq {a b c p r D : Int} (hD : 4 * a * c - b * b = D) : 4 * c * lA a b c p r = (2 * c * r + b * p) * (2 * c * r + b * p) + D * (p * p) ∧ 4 * a * lA a b c p r = (2 * a * p + b * r) * (2 * a * p + b * r) + D * (r * r) := by
  subst hD
  unfold lA
  constructor <;> grind
theorem Rst.mx {k : Nat} {a b c A B C p q r s : Int} (f : Fm k a b c) (x : Rst k a b c A B C p q r s) : Mx (2 * k + 3) p q r s := by
  have g := x.fm f
  have hD := f.mea
  have hp := x.pos
  have key : ∀ u v w t : Int, Sm k u → Sm (2 * k + 3) v → 4 * u * v = w * w + (4 * a * c - b * b) * (t * t) → Sm (2 * k + 3) t := by
    intro u v w t su sv e
    refine Sm.of_sq ?_
    have h1 := (su.mul sv).lt
    have h2 := sq_nonneg' w
    have h3 : 0 ≤ (4 * a * c - b * b - 1) * (t * t) := Int.mul_nonneg (by omega) (sq_nonneg' t)
    have h4 : (4 * a * c - b * b - 1) * (t * t) = (4 * a * c - b * b) * (t * t) - t * t := by grind
    have e4 : 4 * u * v = 4 * (u * v) := Int.mul_assoc 4 u v
    have e5 : 4 * 2 ^ (k + (2 * k + 3)) ≤ 2 ^ (2 * (2 * k + 3)) := by
      have e6 : 4 * 2 ^ (k + (2 * k + 3)) = 2 ^ ((k + (2 * k + 3)) + 2) := by rw [Nat.pow_add 2 (k + (2 * k + 3)) 2]; omega
      rw [e6]
      exact Nat.pow_le_pow_right (by decide) (by omega)
    generalize 2 ^ (k + (2 * k + 3)) = P at h1 e5
    generalize 2 ^ (2 * (2 * k + 3)) = P2 at e5
    omega
  have l1 := lead_sq (a := a) (b := b) (c := c) (p := p) (r := r) rfl
  have l2 := lead_sq (a := a) (b := b) (c := c) (p := q) (r := s) rfl
  rw [x.eA] at l1
  rw [x.eC] at l2
  exact ⟨key _ _ _ _ f.sc g.sa l1.1, key _ _ _ _ f.sc g.sc l2.1, key _ _ _ _ f.sa g.sa l1.2, key _ _ _ _ f.sa g.sc l2.2, x.det⟩
theorem Rst.one {k : Nat} {a b c : Int} (f : Fm k a b c) : Rst k a b c a b c 1 0 0 1 := ⟨by unfold lA; grind, by unfold lB; grind, by unfold lA; grind, by decide, f.pos, Int.le_refl _, f.sb⟩
/-- how far a form is from a reduced one -/
def rmu (A B C : Int) : Nat := 4 * A.toNat + (if -A < B ∧ B ≤ A then (if Lst A B C = true then 0 else 1) else 3)
theorem rmu_le {A B C : Int} : rmu A B C ≤ 4 * A.toNat + 3 := by unfold rmu; split <;> (try split) <;> omega
theorem rmu_in {A B C : Int} (h1 : -A < B ∧ B ≤ A) : rmu A B C = 4 * A.toNat + (if Lst A B C = true then 0 else 1) := by unfold rmu; rw [if_pos h1]
theorem rmu_out {A B C : Int} (h1 : ¬ (-A < B ∧ B ≤ A)) : rmu A B C = 4 * A.toNat + 3 := by unfold rmu; rw [if_neg h1]
theorem Rst.turn {k : Nat} {a b c A B C p q r s : Int} (x : Rst k a b c A B C p q r s) (h1 : -A < B ∧ B ≤ A) (hl : Lst A B C = false) (hC : 0 < C) : Rst k a b c C (-B) A q (-p) s (-r) ∧ rmu C (-B) A < rmu A B C := by
  have hn : ¬ ((-A ≤ B ∧ B ≤ A ∧ A ≤ C) ∧ (0 ≤ B ∨ (B ≠ -A ∧ A ≠ C))) := fun z => by rw [lst_iff.mpr z] at hl; cases hl
  have hle := x.le
  refine ⟨⟨x.eC, by rw [← x.eB]; unfold lB; grind, by rw [← x.eA]; unfold lA; grind, by have := x.det; grind, hC, ?_, x.sB.neg⟩, ?_⟩
  · by_cases h : C ≤ A
    · omega
    · exact absurd ⟨⟨by omega, h1.2, by omega⟩, .inr ⟨by omega, by omega⟩⟩ hn
  · have v1 := rmu_in (C := C) h1
    rw [hl] at v1
    simp only [Bool.false_eq_true, if_false] at v1
    by_cases h : C < A
    · have v2 := rmu_le (A := C) (B := -B) (C := A)
      omega
    · have e : C = A := by
        by_cases h2 : C = A
        · exact h2
        · exact absurd ⟨⟨by omega, h1.2, by omega⟩, .inr ⟨by omega, by omega⟩⟩ hn
      subst e
      have hb : B < 0 := by
        by_cases h2 : 0 ≤ B
        · exact absurd ⟨⟨by omega, h1.2, by omega⟩, .inl h2⟩ hn
        · omega
      have l2 : Lst C (-B) C = true := lst_iff.mpr ⟨⟨by omega, by omega, by omega⟩, .inl (by omega)⟩
      have v2 := rmu_in (A := C) (B := -B) (C := C) (by omega)
      rw [l2] at v2
      simp only [if_true] at v2
      omega
theorem Rst.shift {k : Nat} {a b c A B C p q r s : Int} (x : Rst k a b c A B C p q r s) (sa : Sm k a) (h1 : ¬ (-A < B ∧ B ≤ A)) :
    Rst k a b c A (B + 2 * A * ((A - B) / (2 * A))) (A * ((A - B) / (2 * A)) * ((A - B) / (2 * A)) + B * ((A - B) / (2 * A)) + C) p (p * ((A - B) / (2 * A)) + q) r (r * ((A - B) / (2 * A)) + s) ∧
    rmu A (B + 2 * A * ((A - B) / (2 * A))) (A * ((A - B) / (2 * A)) * ((A - B) / (2 * A)) + B * ((A - B) / (2 * A)) + C) < rmu A B C := by
  have hp := x.pos
  have hle := x.le
  have q1 := Int.mul_ediv_add_emod (A - B) (2 * A)
  have q2 := Int.emod_lt_of_pos (A - B) (by omega : 0 < 2 * A)
  have q3 := Int.emod_nonneg (A - B) (by omega : 2 * A ≠ 0)
  generalize (A - B) / (2 * A) = t at *
  have b1 : -A < B + 2 * A * t ∧ B + 2 * A * t ≤ A := by omega
  refine ⟨⟨x.eA, by rw [← x.eB, ← x.eA]; unfold lA lB; grind, by rw [← x.eB, ← x.eA, ← x.eC]; unfold lA lB; grind, by have := x.det; grind, hp, hle, ?_⟩, ?_⟩
  · have := sa.lt
    exact ⟨by omega⟩
  · have v1 := rmu_out (C := C) h1
    have v2 := rmu_in (C := A * t * t + B * t + C) b1
    have : (if Lst A (B + 2 * A * t) (A * t * t + B * t + C) = true then 0 else 1) ≤ 1 := by split <;> omega
    omega
theorem reducing_cond {A B C : Int} {d o2 o3 o4 o5 o6 : Option D} {h : Ph} : qNot (sTst (sFn f_is_least (sCons (sVar 1) (sNil)))) [d, some (T3 A B C), o2, o3, o4, o5, o6] h = .ok (!(Lst A B C)) h := by
  simp (maxSteps := 4000000) (dsimp := false) (disch := first | assumption | decide | omega | walk_at "cm") only [runDef_ap, sVar_ap, sC_ap, sBin_ap, sNeg_ap, sAnd_ap, sOr_ap, sNot_ap, sIf_ap, sTst_ap, qAnd_ap, qOr_ap, qNot_ap, qYes_ap, sChain_ap, sChain3_ap, sNil_ap, sCons_ap, sTup_ap, sLst_ap, sLstM_ap, sCall_ap, g1_ap, g2_ap, sFn_ap, sAsg_ap, gNm_ap, gTp_ap, gConsS_ap, gNilS_ap, sPar_ap, sPar3_ap, sRet_ap, sRetN_ap, sNx_ap, sBrk_ap, sCnt_ap, sSeq_ap, sIte_ap, sDrop_ap, sFrz_ap, sAug_ap, iRange1_ap, iRange2_ap, iSeq_ap, sFor_ap, sLc_ap, R.toG_ok, ↓R.bind_bnd, bnd_ok, ↓R.bd_bdn, bdn_ok, ↓R.toF_tof, tof_ok, ↓F.seq_sqn, sqn_nx, sqn_ret, sqn_cnt, sqn_brk, ↓F.turn_trn, trn_nx, trn_ret, trn_cnt, trn_brk, F.end_nx, F.end_ret, ↓br_true, br_true, ↓br_false, br_false, Dbr, Dneg, Dtst, opt_some, dAdd_int, dSub_int, dLt_int, dLe_int, dGt_int, dGe_int, dEq_int, dNe_int, dEq_bl, dNe_bl, dMul_cm, dMod_pos, dDiv_pos, dAbs_int, dMax2_int, dMin2_int, dInt_int, dInt_bl, dIx_tup, dIx_lst, dIx_seq, dLen_tup, dLen_lst, dLen_seq, atI_0, atI_1, atI_2, atI_3, List.map_cons, List.map_nil, List.length_cons, List.length_nil, List.replicate_succ, List.replicate_zero, List.cons_append, List.nil_append, List.getElem?_cons_zero, List.getElem?_cons_succ, List.set_cons_zero, List.set_cons_succ, Nat.reduceAdd, Nat.reduceSub, Nat.zero_add, Nat.add_zero, Nat.sub_self, Nat.reduceMul, mostL_def, Nat.reduceLeDiff, Nat.reduceLT, ite_true, ite_false, if_true, if_false, ↓reduceIte, reduceIte, ↓br_ite, Bool.false_eq_true, reduceCtorEq, Bool.not_true, Bool.not_false, decide_true, decide_false, Int.cast_ofNat_Int, Int.reduceBEq, Int.reduceAdd, Int.reduceSub, Int.reduceMul, Int.reduceNeg, Int.reduceLT, Int.reduceLE, Int.reduceMod, Int.reduceDiv, sMeth1_ap, sSl_ap, sRev_ap, oNo_ap, oPart_ap, sDict0_ap, sSetL_ap, least_ok, qNot_ap, sTst_ap]
theorem reducing_step {k : Nat} {a b c A B C p q r s : Int} {d o3 o4 o5 o6 : Option D} {h : Ph} (f : Fm k a b c) (hk : k ≤ 250) (x : Rst k a b c A B C p q r s) (hl : Lst A B C = false) :
    ∃ A' B' C' p' q' r' s' o3' o4' o5' o6', l_reducing_1 [d, some (T3 A B C), some (T4 p q r s), o3, o4, o5, o6] h = .nx [d, some (T3 A' B' C'), some (T4 p' q' r' s'), o3', o4', o5', o6'] h ∧ Rst k a b c A' B' C' p' q' r' s' ∧ rmu A' B' C' < rmu A B C := by
  have g := (x.fm f).mono (by omega : 2 * k + 3 ≤ 503)
  have m := (x.mx f).mono (by omega : 2 * k + 3 ≤ 503)
  have hC : 0 < C := by
    have h1 := g.mea
    have h2 := sq_nonneg' B
    have : 0 < 4 * A * C := by omega
    exact Int.pos_of_mul_pos_right this (by have := g.pos; omega)
  have hp := g.pos
  by_cases h1 : -A < B ∧ B ≤ A
  · obtain ⟨y, lt⟩ := x.turn h1 hl hC
    have ms : Mx 4 0 (-1) 1 0 := ⟨⟨by decide⟩, ⟨by decide⟩, ⟨by decide⟩, ⟨by decide⟩, by decide⟩
    have e1 := led_by_ok (h := h) (g.sa.mono (by omega : 503 ≤ 600)) (g.sb.mono (by omega)) (g.sc.mono (by omega)) (ms.mono (by omega))
    have e2 := product_of_ok (h := h) m ms (by omega) (by omega)
    have z1 : lA A B C 0 1 = C := by unfold lA; grind
    have z2 : lB A B C 0 (-1) 1 0 = -B := by unfold lB; grind
    have z3 : lA A B C (-1) 0 = A := by unfold lA; grind
    have z4 : p * 0 + q * 1 = q := by omega
    have z5 : p * -1 + q * 0 = -p := by omega
    have z6 : r * 0 + s * 1 = s := by omega
    have z7 : r * -1 + s * 0 = -r := by omega
    rw [z1, z2, z3] at e1
    rw [z4, z5, z6, z7] at e2
    have c1 := h1.1
    have c2 := h1.2
    refine ⟨C, -B, A, q, -p, s, -r, some (.int A), some (.int B), some (.int C), some (T4 0 (-1) 1 0), ?_, y, lt⟩
    unfold l_reducing_1
    simp (maxSteps := 4000000) (dsimp := false) (disch := first | assumption | decide | omega | walk_at "cm") only [runDef_ap, sVar_ap, sC_ap, sBin_ap, sNeg_ap, sAnd_ap, sOr_ap, sNot_ap, sIf_ap, sTst_ap, qAnd_ap, qOr_ap, qNot_ap, qYes_ap, sChain_ap, sChain3_ap, sNil_ap, sCons_ap, sTup_ap, sLst_ap, sLstM_ap, sCall_ap, g1_ap, g2_ap, sFn_ap, sAsg_ap, gNm_ap, gTp_ap, gConsS_ap, gNilS_ap, sPar_ap, sPar3_ap, sRet_ap, sRetN_ap, sNx_ap, sBrk_ap, sCnt_ap, sSeq_ap, sIte_ap, sDrop_ap, sFrz_ap, sAug_ap, iRange1_ap, iRange2_ap, iSeq_ap, sFor_ap, sLc_ap, R.toG_ok, ↓R.bind_bnd, bnd_ok, ↓R.bd_bdn, bdn_ok, ↓R.toF_tof, tof_ok, ↓F.seq_sqn, sqn_nx, sqn_ret, sqn_cnt, sqn_brk, ↓F.turn_trn, trn_nx, trn_ret, trn_cnt, trn_brk, F.end_nx, F.end_ret, ↓br_true, br_true, ↓br_false, br_false, Dbr, Dneg, Dtst, opt_some, dAdd_int, dSub_int, dLt_int, dLe_int, dGt_int, dGe_int, dEq_int, dNe_int, dEq_bl, dNe_bl, dMul_cm, dMod_pos, dDiv_pos, dAbs_int, dMax2_int, dMin2_int, dInt_int, dInt_bl, dIx_tup, dIx_lst, dIx_seq, dLen_tup, dLen_lst, dLen_seq, atI_0, atI_1, atI_2, atI_3, List.map_cons, List.map_nil, List.length_cons, List.length_nil, List.replicate_succ, List.replicate_zero, List.cons_append, List.nil_append, List.getElem?_cons_zero, List.getElem?_cons_succ, List.set_cons_zero, List.set_cons_succ, Nat.reduceAdd, Nat.reduceSub, Nat.zero_add, Nat.add_zero, Nat.sub_self, Nat.reduceMul, mostL_def, Nat.reduceLeDiff, Nat.reduceLT, ite_true, ite_false, if_true, if_false, ↓reduceIte, reduceIte, ↓br_ite, Bool.false_eq_true, reduceCtorEq, Bool.not_true, Bool.not_false, decide_true, decide_false, Int.cast_ofNat_Int, Int.reduceBEq, Int.reduceAdd, Int.reduceSub, Int.reduceMul, Int.reduceNeg, Int.reduceLT, Int.reduceLE, Int.reduceMod, Int.reduceDiv, sMeth1_ap, sSl_ap, sRev_ap, oNo_ap, oPart_ap, sDict0_ap, sSetL_ap, e1, e2, gTp_ap, gConsS_ap, gNilS_ap, sNeg_ap, c1, c2]
  · obtain ⟨y, lt⟩ := x.shift f.sa h1
    have sA : Sm k A := ⟨by have := f.sa.lt; have := x.le; omega⟩
    have lg : (2 * A).natAbs.log2 < 9000 := Nat.lt_of_le_of_lt (log_lt ((Sm.lit (n := 2)).mul (sA.mono hk)).lt) (by decide)
    have st : Sm 501 ((A - B) / (2 * A)) := by
      have h2 := ((sA.sub x.sB).mono (by omega : k + k + 1 ≤ 501)).lt
      have h3 := Int.natAbs_ediv_le_natAbs (A - B) (2 * A)
      exact ⟨Nat.lt_of_le_of_lt h3 h2⟩
    generalize ht : (A - B) / (2 * A) = t at *
    have ms : Mx 501 1 t 0 1 := ⟨⟨by decide⟩, st, ⟨by decide⟩, ⟨by decide⟩, by omega⟩
    have e1 := led_by_ok (h := h) (g.sa.mono (by omega : 503 ≤ 600)) (g.sb.mono (by omega)) (g.sc.mono (by omega)) (ms.mono (by omega))
    have e2 := product_of_ok (h := h) m ms (by omega) (by omega)
    have z1 : lA A B C 1 0 = A := by unfold lA; grind
    have z2 : lB A B C 1 t 0 1 = B + 2 * A * t := by unfold lB; grind
    have z3 : lA A B C t 1 = A * t * t + B * t + C := by unfold lA; grind
    have z4 : p * 1 + q * 0 = p := by omega
    have z5 : p * t + q * 1 = p * t + q := by omega
    have z6 : r * 1 + s * 0 = r := by omega
    have z7 : r * t + s * 1 = r * t + s := by omega
    rw [z1, z2, z3] at e1
    rw [z4, z5, z6, z7] at e2
    have a2 : 0 < 2 * A := by omega
    refine ⟨A, _, _, p, _, r, _, some (.int A), some (.int B), some (.int C), some (T4 1 t 0 1), ?_, y, lt⟩
    unfold l_reducing_1
    by_cases c1 : -A < B
    · have c2 : ¬ B ≤ A := fun z => h1 ⟨c1, z⟩
      simp (maxSteps := 4000000) (dsimp := false) (disch := first | assumption | decide | omega | walk_at "cm") only [runDef_ap, sVar_ap, sC_ap, sBin_ap, sNeg_ap, sAnd_ap, sOr_ap, sNot_ap, sIf_ap, sTst_ap, qAnd_ap, qOr_ap, qNot_ap, qYes_ap, sChain_ap, sChain3_ap, sNil_ap, sCons_ap, sTup_ap, sLst_ap, sLstM_ap, sCall_ap, g1_ap, g2_ap, sFn_ap, sAsg_ap, gNm_ap, gTp_ap, gConsS_ap, gNilS_ap, sPar_ap, sPar3_ap, sRet_ap, sRetN_ap, sNx_ap, sBrk_ap, sCnt_ap, sSeq_ap, sIte_ap, sDrop_ap, sFrz_ap, sAug_ap, iRange1_ap, iRange2_ap, iSeq_ap, sFor_ap, sLc_ap, R.toG_ok, ↓R.bind_bnd, bnd_ok, ↓R.bd_bdn, bdn_ok, ↓R.toF_tof, tof_ok, ↓F.seq_sqn, sqn_nx, sqn_ret, sqn_cnt, sqn_brk, ↓F.turn_trn, trn_nx, trn_ret, trn_cnt, trn_brk, F.end_nx, F.end_ret, ↓br_true, br_true, ↓br_false, br_false, Dbr, Dneg, Dtst, opt_some, dAdd_int, dSub_int, dLt_int, dLe_int, dGt_int, dGe_int, dEq_int, dNe_int, dEq_bl, dNe_bl, dMul_cm, dMod_pos, dDiv_pos, dAbs_int, dMax2_int, dMin2_int, dInt_int, dInt_bl, dIx_tup, dIx_lst, dIx_seq, dLen_tup, dLen_lst, dLen_seq, atI_0, atI_1, atI_2, atI_3, List.map_cons, List.map_nil, List.length_cons, List.length_nil, List.replicate_succ, List.replicate_zero, List.cons_append, List.nil_append, List.getElem?_cons_zero, List.getElem?_cons_succ, List.set_cons_zero, List.set_cons_succ, Nat.reduceAdd, Nat.reduceSub, Nat.zero_add, Nat.add_zero, Nat.sub_self, Nat.reduceMul, mostL_def, Nat.reduceLeDiff, Nat.reduceLT, ite_true, ite_false, if_true, if_false, ↓reduceIte, reduceIte, ↓br_ite, Bool.false_eq_true, reduceCtorEq, Bool.not_true, Bool.not_false, decide_true, decide_false, Int.cast_ofNat_Int, Int.reduceBEq, Int.reduceAdd, Int.reduceSub, Int.reduceMul, Int.reduceNeg, Int.reduceLT, Int.reduceLE, Int.reduceMod, Int.reduceDiv, sMeth1_ap, sSl_ap, sRev_ap, oNo_ap, oPart_ap, sDict0_ap, sSetL_ap, e1, e2, gTp_ap, gConsS_ap, gNilS_ap, sNeg_ap, c1, c2, lg, ht]
    · simp (maxSteps := 4000000) (dsimp := false) (disch := first | assumption | decide | omega | walk_at "cm") only [runDef_ap, sVar_ap, sC_ap, sBin_ap, sNeg_ap, sAnd_ap, sOr_ap, sNot_ap, sIf_ap, sTst_ap, qAnd_ap, qOr_ap, qNot_ap, qYes_ap, sChain_ap, sChain3_ap, sNil_ap, sCons_ap, sTup_ap, sLst_ap, sLstM_ap, sCall_ap, g1_ap, g2_ap, sFn_ap, sAsg_ap, gNm_ap, gTp_ap, gConsS_ap, gNilS_ap, sPar_ap, sPar3_ap, sRet_ap, sRetN_ap, sNx_ap, sBrk_ap, sCnt_ap, sSeq_ap, sIte_ap, sDrop_ap, sFrz_ap, sAug_ap, iRange1_ap, iRange2_ap, iSeq_ap, sFor_ap, sLc_ap, R.toG_ok, ↓R.bind_bnd, bnd_ok, ↓R.bd_bdn, bdn_ok, ↓R.toF_tof, tof_ok, ↓F.seq_sqn, sqn_nx, sqn_ret, sqn_cnt, sqn_brk, ↓F.turn_trn, trn_nx, trn_ret, trn_cnt, trn_brk, F.end_nx, F.end_ret, ↓br_true, br_true, ↓br_false, br_false, Dbr, Dneg, Dtst, opt_some, dAdd_int, dSub_int, dLt_int, dLe_int, dGt_int, dGe_int, dEq_int, dNe_int, dEq_bl, dNe_bl, dMul_cm, dMod_pos, dDiv_pos, dAbs_int, dMax2_int, dMin2_int, dInt_int, dInt_bl, dIx_tup, dIx_lst, dIx_seq, dLen_tup, dLen_lst, dLen_seq, atI_0, atI_1, atI_2, atI_3, List.map_cons, List.map_nil, List.length_cons, List.length_nil, List.replicate_succ, List.replicate_zero, List.cons_append, List.nil_append, List.getElem?_cons_zero, List.getElem?_cons_succ, List.set_cons_zero, List.set_cons_succ, Nat.reduceAdd, Nat.reduceSub, Nat.zero_add, Nat.add_zero, Nat.sub_self, Nat.reduceMul, mostL_def, Nat.reduceLeDiff, Nat.reduceLT, ite_true, ite_false, if_true, if_false, ↓reduceIte, reduceIte, ↓br_ite, Bool.false_eq_true, reduceCtorEq, Bool.not_true, Bool.not_false, decide_true, decide_false, Int.cast_ofNat_Int, Int.reduceBEq, Int.reduceAdd, Int.reduceSub, Int.reduceMul, Int.reduceNeg, Int.reduceLT, Int.reduceLE, Int.reduceMod, Int.reduceDiv, sMeth1_ap, sSl_ap, sRev_ap, oNo_ap, oPart_ap, sDict0_ap, sSetL_ap, e1, e2, gTp_ap, gConsS_ap, gNilS_ap, sNeg_ap, c1, lg, ht]
end Pd

/-! Pk: loops; reduced forms told -/
namespace Pd
open PySem L2 Evl
local macro_rules | `(tactic| walk_at "sm") => `(tactic| first | assumption | exact Sm.lit | exact Sm.mul (by walk_at "sm") (by walk_at "sm") | exact Sm.add (by walk_at "sm") (by walk_at "sm") | exact Sm.sub (by walk_at "sm") (by walk_at "sm") | exact Sm.neg (by walk_at "sm"))
local macro_rules | `(tactic| walk_at "cm") => `(tactic| ((with_reducible show CM _ _); first | assumption | exact CM.left (by decide) | exact CM.right (by decide) | exact CM.left (by omega) | exact CM.right (by omega) | exact CM.of (by walk_at "sm") (by walk_at "sm") (by decide)))
/-! ### loops -/
/-- a for that breaks -/
theorem for_brk {g : SG} {f : SS} (P : Nat → Pe → Ph → Prop) (Q : Pe → Ph → Prop) (H : ∀ m x e h, P m e h → ∃ e1 h1, g x e h = .ok e1 h1 ∧ ((∃ e2 h2, f e1 h1 = .brk e2 h2 ∧ Q e2 h2) ∨ ∃ e2 h2 m2, (f e1 h1 = .nx e2 h2 ∨ f e1 h1 = .cnt e2 h2) ∧ m2 < m ∧ P m2 e2 h2)) :
    ∀ (xs : List D) (m : Nat) (e : Pe) (h : Ph), m < xs.length → P m e h → ∃ e1 h1, forGo g f xs e h = .nx e1 h1 ∧ Q e1 h1 := by
  intro xs
  induction xs with
  | nil => intro m e h hm; exact absurd hm (by simp)
  | cons x r ih =>
    intro m e h hm p
    obtain ⟨e1, h1, a, b⟩ := H m x e h p
    unfold forGo
    rw [a]
    show ∃ e3 h3, (f e1 h1).turn _ = _ ∧ _
    rcases b with ⟨e2, h2, b, q⟩ | ⟨e2, h2, m2, b, lt, p2⟩
    · rw [b]; exact ⟨e2, h2, rfl, q⟩
    · obtain ⟨e4, h4, q1, q2⟩ := ih m2 e2 h2 (by rw [List.length_cons] at hm; omega) p2
      refine ⟨e4, h4, ?_, q2⟩
      rcases b with b | b <;> rw [b] <;> exact q1
/-- a comprehension: filter and map -/
theorem compGo_fm {i : Nat} {tt : ST} {te : SE} {e : Pe} {h : Ph} (p : D → Bool) (f : D → D) : ∀ (xs : List D), (∀ x ∈ xs, tt (e.set i (some x)) h = .ok (p x) h) → (∀ x ∈ xs, p x = true → te (e.set i (some x)) h = .ok (f x) h) → compGo (gNm i) tt te xs e h = .ok ((xs.filter p).map f) h := by
  intro xs
  induction xs with
  | nil => intro _ _; rfl
  | cons x r ih =>
    intro hp hf
    have k := ih (fun y hy => hp y (List.mem_cons_of_mem _ hy)) (fun y hy => hf y (List.mem_cons_of_mem _ hy))
    rw [compGo_cons]
    show (tt (e.set i (some x)) h).bd _ = _
    rw [hp x List.mem_cons_self]
    cases hq : p x with
    | false =>
      rw [List.filter_cons_of_neg (by rw [hq]; simp)]
      exact k
    | true =>
      rw [List.filter_cons_of_pos hq]
      show (te (e.set i (some x)) h).bd _ = _
      rw [hf x List.mem_cons_self hq]
      show (compGo (gNm i) tt te r e h).bd _ = _
      rw [k]
      rfl
theorem lc_fm {it : SIt} {i : Nat} {tt : ST} {te : SE} {vs : List Nat} {e : Pe} {h h1 : Ph} {xs : List D} (p : D → Bool) (f : D → D) (hit : it e h = .ok xs h1) (hl : xs.length ≤ mostL) (hp : ∀ x ∈ xs, tt ((wipeD e vs).set i (some x)) h1 = .ok (p x) h1) (hf : ∀ x ∈ xs, p x = true → te ((wipeD e vs).set i (some x)) h1 = .ok (f x) h1) :
    sLc it (gNm i) tt te vs e h = .ok (.lst ((xs.filter p).map f)) h1 := by
  unfold sLc
  rw [hit]
  show (if xs.length ≤ mostL then _ else _) = _
  rw [if_pos hl, compGo_fm p f xs hp hf]
  rfl
theorem lc_mp {it : SIt} {i : Nat} {te : SE} {vs : List Nat} {e : Pe} {h h1 : Ph} {xs : List D} (f : D → D) (hit : it e h = .ok xs h1) (hl : xs.length ≤ mostL) (hf : ∀ x ∈ xs, te ((wipeD e vs).set i (some x)) h1 = .ok (f x) h1) :
    sLc it (gNm i) qYes te vs e h = .ok (.lst (xs.map f)) h1 := by
  have k := lc_fm (tt := qYes) (fun _ => true) f hit hl (fun _ _ => rfl) fun x hx _ => hf x hx
  rw [List.filter_eq_self.mpr (fun _ _ => rfl)] at k
  exact k
theorem lc_ex {it : SIt} {i : Nat} {tt : ST} {te : SE} {vs : List Nat} {e : Pe} {h h1 : Ph} {xs : List D} (R : D → Prop) (hit : it e h = .ok xs h1) (hl : xs.length ≤ mostL) (H : ∀ x ∈ xs, ∃ t, tt ((wipeD e vs).set i (some x)) h1 = .ok t h1 ∧ (t = true → ∃ y, te ((wipeD e vs).set i (some x)) h1 = .ok y h1 ∧ R y)) :
    ∃ ys, sLc it (gNm i) tt te vs e h = .ok (.lst ys) h1 ∧ (∀ y ∈ ys, R y) ∧ ys.length ≤ xs.length := by
  have go : ∀ xs : List D, (∀ x ∈ xs, ∃ t, tt ((wipeD e vs).set i (some x)) h1 = .ok t h1 ∧ (t = true → ∃ y, te ((wipeD e vs).set i (some x)) h1 = .ok y h1 ∧ R y)) → ∃ ys, compGo (gNm i) tt te xs (wipeD e vs) h1 = .ok ys h1 ∧ (∀ y ∈ ys, R y) ∧ ys.length ≤ xs.length := by
    intro xs
    induction xs with
    | nil => intro _; exact ⟨[], rfl, fun y hy => absurd hy (by simp), Nat.le_refl _⟩
    | cons x r ih =>
      intro H
      obtain ⟨ys, k1, k2, k3⟩ := ih fun y hy => H y (List.mem_cons_of_mem _ hy)
      obtain ⟨t, e1, e2⟩ := H x List.mem_cons_self
      rw [compGo_cons]
      show ∃ ys, (tt ((wipeD e vs).set i (some x)) h1).bd _ = _ ∧ _
      rw [e1]
      cases t with
      | false => exact ⟨ys, k1, k2, by rw [List.length_cons]; omega⟩
      | true =>
        obtain ⟨y, e3, ry⟩ := e2 rfl
        refine ⟨y :: ys, ?_, fun z hz => ?_, by rw [List.length_cons, List.length_cons]; omega⟩
        · show (te ((wipeD e vs).set i (some x)) h1).bd _ = _
          rw [e3]
          show (compGo (gNm i) tt te r (wipeD e vs) h1).bd _ = _
          rw [k1]
          rfl
        · rcases List.mem_cons.mp hz with q | q
          · rw [q]; exact ry
          · exact k2 z q
  obtain ⟨ys, k1, k2, k3⟩ := go xs H
  refine ⟨ys, ?_, k2, k3⟩
  unfold sLc
  rw [hit]
  show (if xs.length ≤ mostL then _ else _) = _
  rw [if_pos hl, k1]
  rfl
/-! ### reducing, told -/
theorem reducing_ok {k : Nat} {a b c : Int} {h : Ph} (f : Fm k a b c) (hk : k ≤ 250) : ∃ A B C p q r s, f_reducing [T3 a b c] h = .ok (.tup [T3 A B C, T4 p q r s]) h ∧ Rst k a b c A B C p q r s ∧ Lst A B C = true := by
  have sa := (f.sa.mono hk)
  obtain ⟨e1, h1, q1, rfl, A, B, C, p, q, r, s, o3, o4, o5, o6, rfl, x, l⟩ := while_run (c := qNot (sTst (sFn f_is_least (sCons (sVar 1) (sNil))))) (f := l_reducing_1)
    (fun m e h' => h' = h ∧ ∃ A B C p q r s o3 o4 o5 o6, e = [some (T3 a b c), some (T3 A B C), some (T4 p q r s), o3, o4, o5, o6] ∧ Rst k a b c A B C p q r s ∧ m = rmu A B C)
    (fun e h' => h' = h ∧ ∃ A B C p q r s o3 o4 o5 o6, e = [some (T3 a b c), some (T3 A B C), some (T4 p q r s), o3, o4, o5, o6] ∧ Rst k a b c A B C p q r s ∧ Lst A B C = true)
    (by
      rintro m e h' ⟨rfl, A, B, C, p, q, r, s, o3, o4, o5, o6, rfl, x, rfl⟩
      cases l : Lst A B C with
      | true => exact .inl ⟨h', by rw [reducing_cond, l]; rfl, rfl, A, B, C, p, q, r, s, o3, o4, o5, o6, rfl, x, l⟩
      | false =>
        obtain ⟨A', B', C', p', q', r', s', o3', o4', o5', o6', st, y, lt⟩ := reducing_step (d := some (T3 a b c)) (o3 := o3) (o4 := o4) (o5 := o5) (o6 := o6) (h := h') f hk x l
        exact .inr ⟨h', _, _, _, by rw [reducing_cond, l]; rfl, .inl st, lt, rfl, A', B', C', p', q', r', s', o3', o4', o5', o6', rfl, y, rfl⟩)
    (rmu a b c) FU [some (T3 a b c), some (T3 a b c), some (T4 1 0 0 1), none, none, none, none] h
    (by
      have h1 := rmu_le (A := a) (B := b) (C := c)
      have h2 := fu_lt (x := 4 * a) (((Sm.lit (n := 4)).mul sa).mono (by decide))
      have h3 := f.pos
      have h4 : 10 ≤ FU := by unfold FU; decide
      have h5 := ((Sm.lit (n := 8)).mul sa)
      have h6 := fu_lt (x := 8 * a) (h5.mono (by decide))
      omega)
    ⟨rfl, a, b, c, 1, 0, 0, 1, none, none, none, none, rfl, Rst.one f, rfl⟩
  refine ⟨A, B, C, p, q, r, s, ?_, x, l⟩
  unfold f_reducing
  simp (maxSteps := 4000000) (dsimp := false) (disch := first | assumption | decide | omega | walk_at "cm") only [runDef_ap, sVar_ap, sC_ap, sBin_ap, sNeg_ap, sAnd_ap, sOr_ap, sNot_ap, sIf_ap, sTst_ap, qAnd_ap, qOr_ap, qNot_ap, qYes_ap, sChain_ap, sChain3_ap, sNil_ap, sCons_ap, sTup_ap, sLst_ap, sLstM_ap, sCall_ap, g1_ap, g2_ap, sFn_ap, sAsg_ap, gNm_ap, gTp_ap, gConsS_ap, gNilS_ap, sPar_ap, sPar3_ap, sRet_ap, sRetN_ap, sNx_ap, sBrk_ap, sCnt_ap, sSeq_ap, sIte_ap, sDrop_ap, sFrz_ap, sAug_ap, iRange1_ap, iRange2_ap, iSeq_ap, sFor_ap, sLc_ap, R.toG_ok, ↓R.bind_bnd, bnd_ok, ↓R.bd_bdn, bdn_ok, ↓R.toF_tof, tof_ok, ↓F.seq_sqn, sqn_nx, sqn_ret, sqn_cnt, sqn_brk, ↓F.turn_trn, trn_nx, trn_ret, trn_cnt, trn_brk, F.end_nx, F.end_ret, ↓br_true, br_true, ↓br_false, br_false, Dbr, Dneg, Dtst, opt_some, dAdd_int, dSub_int, dLt_int, dLe_int, dGt_int, dGe_int, dEq_int, dNe_int, dEq_bl, dNe_bl, dMul_cm, dMod_pos, dDiv_pos, dAbs_int, dMax2_int, dMin2_int, dInt_int, dInt_bl, dIx_tup, dIx_lst, dIx_seq, dLen_tup, dLen_lst, dLen_seq, atI_0, atI_1, atI_2, atI_3, List.map_cons, List.map_nil, List.length_cons, List.length_nil, List.replicate_succ, List.replicate_zero, List.cons_append, List.nil_append, List.getElem?_cons_zero, List.getElem?_cons_succ, List.set_cons_zero, List.set_cons_succ, Nat.reduceAdd, Nat.reduceSub, Nat.zero_add, Nat.add_zero, Nat.sub_self, Nat.reduceMul, mostL_def, Nat.reduceLeDiff, Nat.reduceLT, ite_true, ite_false, if_true, if_false, ↓reduceIte, reduceIte, ↓br_ite, Bool.false_eq_true, reduceCtorEq, Bool.not_true, Bool.not_false, decide_true, decide_false, Int.cast_ofNat_Int, Int.reduceBEq, Int.reduceAdd, Int.reduceSub, Int.reduceMul, Int.reduceNeg, Int.reduceLT, Int.reduceLE, Int.reduceMod, Int.reduceDiv, sMeth1_ap, sSl_ap, sRev_ap, oNo_ap, oPart_ap, sDict0_ap, sSetL_ap, q1]
theorem det_mul {p q r s p' q' r' s' : Int} (d : p * s - q * r = 1) (d' : p' * s' - q' * r' = 1) : (p * p' + q * r') * (r * q' + s * s') - (p * q' + q * s') * (r * p' + s * r') = 1 := by
  have e : (p * p' + q * r') * (r * q' + s * s') - (p * q' + q * s') * (r * p' + s * r') = (p * s - q * r) * (p' * s' - q' * r') := by grind
  rw [e, d, d']; decide
/-- the reduced form of a form -/
structure Rdc (a b c A B C : Int) : Prop where
  l : Lst A B C = true
  u : ∀ A' B' C' p q r s, p * s - q * r = 1 → lA a b c p r = A' → lB a b c p q r s = B' → lA a b c q s = C' → Lst A' B' C' = true → A' = A ∧ B' = B ∧ C' = C
theorem Rst.rdc {k : Nat} {a b c A B C p q r s : Int} (f : Fm k a b c) (x : Rst k a b c A B C p q r s) (l : Lst A B C = true) : Rdc a b c A B C := by
  refine ⟨l, fun A' B' C' p' q' r' s' d e1 e2 e3 l' => ?_⟩
  have d0 := x.det
  have hm := x.mea
  have f1 := f.mea
  -- A', B', C' are led from A, B, C by undoing p q r s and then p' ..
  have t : ∀ u v, lA A B C u v = lA a b c (p * u + q * v) (r * u + s * v) := fun u v => by
    have t := led_led (a := a) (b := b) (c := c) (p := p) (q := q) (r := r) (s := s) (p' := u) (r' := v)
    rw [x.eA, x.eB, x.eC] at t
    exact t
  have t2 : ∀ u v w z, lB A B C u v w z = lB a b c (p * u + q * w) (p * v + q * z) (r * u + s * w) (r * v + s * z) := fun u v w z => by
    have t := led_ledB (a := a) (b := b) (c := c) (p := p) (q := q) (r := r) (s := s) (p' := u) (r' := w) (q' := v) (s' := z)
    rw [x.eA, x.eB, x.eC] at t
    exact t
  have g1 : p * (s * p' + -q * r') + q * (-r * p' + p * r') = p' := by grind
  have g2 : r * (s * p' + -q * r') + s * (-r * p' + p * r') = r' := by grind
  have g3 : p * (s * q' + -q * s') + q * (-r * q' + p * s') = q' := by grind
  have g4 : r * (s * q' + -q * s') + s * (-r * q' + p * s') = s' := by grind
  have u1 := t (s * p' + -q * r') (-r * p' + p * r')
  have u2 := t (s * q' + -q * s') (-r * q' + p * s')
  have u3 := t2 (s * p' + -q * r') (s * q' + -q * s') (-r * p' + p * r') (-r * q' + p * s')
  rw [g1, g2, e1] at u1
  rw [g3, g4, e3] at u2
  rw [g1, g2, g3, g4, e2] at u3
  have o := reduced_one (a := A) (b := B) (c := C) (p := s * p' + -q * r') (r := -r * p' + p * r') (q := s * q' + -q * s') (s := -r * q' + p * s') x.pos (by omega) l (det_mul (p := s) (q := -q) (r := -r) (s := p) (by grind) d) (by rw [u1, u2, u3]; exact l')
  rw [u1, u2, u3] at o
  exact o
/-- .. is that of all forms to which it is led -/
theorem Rdc.led {a b c A B C p q r s : Int} (x : Rdc a b c A B C) (d : p * s - q * r = 1) {a' b' c' : Int} (e1 : lA a b c p r = a') (e2 : lB a b c p q r s = b') (e3 : lA a b c q s = c') : Rdc a' b' c' A B C := by
  refine ⟨x.l, fun A' B' C' p' q' r' s' d' h1 h2 h3 l' => ?_⟩
  subst e1 e2 e3
  rw [led_led] at h1 h3
  rw [led_ledB] at h2
  exact x.u A' B' C' (p * p' + q * r') (p * q' + q * s') (r * p' + s * r') (r * q' + s * s') (det_mul d d') h1 h2 h3 l'
theorem Rdc.one {a b c A B C A' B' C' : Int} (x : Rdc a b c A B C) (y : Rdc a b c A' B' C') {p q r s : Int} (d : p * s - q * r = 1) (e1 : lA a b c p r = A) (e2 : lB a b c p q r s = B) (e3 : lA a b c q s = C) : A = A' ∧ B = B' ∧ C = C' := y.u A B C p q r s d e1 e2 e3 x.l
theorem reducing_rdc {k : Nat} {a b c A B C : Int} {h : Ph} (f : Fm k a b c) (hk : k ≤ 250) (x : Rdc a b c A B C) : ∃ p q r s, f_reducing [T3 a b c] h = .ok (.tup [T3 A B C, T4 p q r s]) h ∧ Rst k a b c A B C p q r s := by
  obtain ⟨A', B', C', p, q, r, s, e, y, l⟩ := reducing_ok (h := h) f hk
  obtain ⟨rfl, rfl, rfl⟩ := x.u A' B' C' p q r s y.det y.eA y.eB y.eC l
  exact ⟨p, q, r, s, e, y⟩
theorem rdc_some {k : Nat} {a b c : Int} (f : Fm k a b c) (hk : k ≤ 250) : ∃ A B C, Rdc a b c A B C ∧ Fm (2 * k + 3) A B C ∧ A ≤ a ∧ 4 * A * C - B * B = 4 * a * c - b * b := by
  obtain ⟨A, B, C, p, q, r, s, _, y, l⟩ := reducing_ok (h := []) f hk
  exact ⟨A, B, C, y.rdc f l, y.fm f, y.le, y.mea⟩
theorem reduced_form_ok {k : Nat} {a b c A B C : Int} {h : Ph} (f : Fm k a b c) (hk : k ≤ 199) (x : Rdc a b c A B C) : f_reduced_form [T3 a b c] h = .ok (T3 A B C) h := by
  obtain ⟨p, q, r, s, e, _⟩ := reducing_rdc (h := h) f (by omega) x
  have e1 := require_form_fm (h := h) (f.mono hk)
  unfold f_reduced_form; simp (maxSteps := 4000000) (dsimp := false) (disch := first | assumption | decide | omega | walk_at "cm") only [runDef_ap, sVar_ap, sC_ap, sBin_ap, sNeg_ap, sAnd_ap, sOr_ap, sNot_ap, sIf_ap, sTst_ap, qAnd_ap, qOr_ap, qNot_ap, qYes_ap, sChain_ap, sChain3_ap, sNil_ap, sCons_ap, sTup_ap, sLst_ap, sLstM_ap, sCall_ap, g1_ap, g2_ap, sFn_ap, sAsg_ap, gNm_ap, gTp_ap, gConsS_ap, gNilS_ap, sPar_ap, sPar3_ap, sRet_ap, sRetN_ap, sNx_ap, sBrk_ap, sCnt_ap, sSeq_ap, sIte_ap, sDrop_ap, sFrz_ap, sAug_ap, iRange1_ap, iRange2_ap, iSeq_ap, sFor_ap, sLc_ap, R.toG_ok, ↓R.bind_bnd, bnd_ok, ↓R.bd_bdn, bdn_ok, ↓R.toF_tof, tof_ok, ↓F.seq_sqn, sqn_nx, sqn_ret, sqn_cnt, sqn_brk, ↓F.turn_trn, trn_nx, trn_ret, trn_cnt, trn_brk, F.end_nx, F.end_ret, ↓br_true, br_true, ↓br_false, br_false, Dbr, Dneg, Dtst, opt_some, dAdd_int, dSub_int, dLt_int, dLe_int, dGt_int, dGe_int, dEq_int, dNe_int, dEq_bl, dNe_bl, dMul_cm, dMod_pos, dDiv_pos, dAbs_int, dMax2_int, dMin2_int, dInt_int, dInt_bl, dIx_tup, dIx_lst, dIx_seq, dLen_tup, dLen_lst, dLen_seq, atI_0, atI_1, atI_2, atI_3, List.map_cons, List.map_nil, List.length_cons, List.length_nil, List.replicate_succ, List.replicate_zero, List.cons_append, List.nil_append, List.getElem?_cons_zero, List.getElem?_cons_succ, List.set_cons_zero, List.set_cons_succ, Nat.reduceAdd, Nat.reduceSub, Nat.zero_add, Nat.add_zero, Nat.sub_self, Nat.reduceMul, mostL_def, Nat.reduceLeDiff, Nat.reduceLT, ite_true, ite_false, if_true, if_false, ↓reduceIte, reduceIte, ↓br_ite, Bool.false_eq_true, reduceCtorEq, Bool.not_true, Bool.not_false, decide_true, decide_false, Int.cast_ofNat_Int, Int.reduceBEq, Int.reduceAdd, Int.reduceSub, Int.reduceMul, Int.reduceNeg, Int.reduceLT, Int.reduceLE, Int.reduceMod, Int.reduceDiv, sMeth1_ap, sSl_ap, sRev_ap, oNo_ap, oPart_ap, sDict0_ap, sSetL_ap, e, e1]
theorem reducing_matrix_ok {k : Nat} {a b c A B C : Int} {h : Ph} (f : Fm k a b c) (hk : k ≤ 199) (x : Rdc a b c A B C) : ∃ p q r s, f_reducing_matrix [T3 a b c] h = .ok (T4 p q r s) h ∧ Rst k a b c A B C p q r s := by
  obtain ⟨p, q, r, s, e, y⟩ := reducing_rdc (h := h) f (by omega) x
  have e1 := require_form_fm (h := h) (f.mono hk)
  refine ⟨p, q, r, s, ?_, y⟩
  unfold f_reducing_matrix; simp (maxSteps := 4000000) (dsimp := false) (disch := first | assumption | decide | omega | walk_at "cm") only [runDef_ap, sVar_ap, sC_ap, sBin_ap, sNeg_ap, sAnd_ap, sOr_ap, sNot_ap, sIf_ap, sTst_ap, qAnd_ap, qOr_ap, qNot_ap, qYes_ap, sChain_ap, sChain3_ap, sNil_ap, sCons_ap, sTup_ap, sLst_ap, sLstM_ap, sCall_ap, g1_ap, g2_ap, sFn_ap, sAsg_ap, gNm_ap, gTp_ap, gConsS_ap, gNilS_ap, sPar_ap, sPar3_ap, sRet_ap, sRetN_ap, sNx_ap, sBrk_ap, sCnt_ap, sSeq_ap, sIte_ap, sDrop_ap, sFrz_ap, sAug_ap, iRange1_ap, iRange2_ap, iSeq_ap, sFor_ap, sLc_ap, R.toG_ok, ↓R.bind_bnd, bnd_ok, ↓R.bd_bdn, bdn_ok, ↓R.toF_tof, tof_ok, ↓F.seq_sqn, sqn_nx, sqn_ret, sqn_cnt, sqn_brk, ↓F.turn_trn, trn_nx, trn_ret, trn_cnt, trn_brk, F.end_nx, F.end_ret, ↓br_true, br_true, ↓br_false, br_false, Dbr, Dneg, Dtst, opt_some, dAdd_int, dSub_int, dLt_int, dLe_int, dGt_int, dGe_int, dEq_int, dNe_int, dEq_bl, dNe_bl, dMul_cm, dMod_pos, dDiv_pos, dAbs_int, dMax2_int, dMin2_int, dInt_int, dInt_bl, dIx_tup, dIx_lst, dIx_seq, dLen_tup, dLen_lst, dLen_seq, atI_0, atI_1, atI_2, atI_3, List.map_cons, List.map_nil, List.length_cons, List.length_nil, List.replicate_succ, List.replicate_zero, List.cons_append, List.nil_append, List.getElem?_cons_zero, List.getElem?_cons_succ, List.set_cons_zero, List.set_cons_succ, Nat.reduceAdd, Nat.reduceSub, Nat.zero_add, Nat.add_zero, Nat.sub_self, Nat.reduceMul, mostL_def, Nat.reduceLeDiff, Nat.reduceLT, ite_true, ite_false, if_true, if_false, ↓reduceIte, reduceIte, ↓br_ite, Bool.false_eq_true, reduceCtorEq, Bool.not_true, Bool.not_false, decide_true, decide_false, Int.cast_ofNat_Int, Int.reduceBEq, Int.reduceAdd, Int.reduceSub, Int.reduceMul, Int.reduceNeg, Int.reduceLT, Int.reduceLE, Int.reduceMod, Int.reduceDiv, sMeth1_ap, sSl_ap, sRev_ap, oNo_ap, oPart_ap, sDict0_ap, sSetL_ap, e, e1]
theorem turn_ints {p q r s : Int} {h : Ph} (sp : Sm 600 p) (sq : Sm 600 q) (sr : Sm 600 r) (ss : Sm 600 s) : f_is_turn [T4 p q r s] h = .ok (.bl (p * s - q * r == 1)) h := by
  unfold f_is_turn; simp (maxSteps := 4000000) (dsimp := false) (disch := first | assumption | decide | omega | walk_at "cm") only [runDef_ap, sVar_ap, sC_ap, sBin_ap, sNeg_ap, sAnd_ap, sOr_ap, sNot_ap, sIf_ap, sTst_ap, qAnd_ap, qOr_ap, qNot_ap, qYes_ap, sChain_ap, sChain3_ap, sNil_ap, sCons_ap, sTup_ap, sLst_ap, sLstM_ap, sCall_ap, g1_ap, g2_ap, sFn_ap, sAsg_ap, gNm_ap, gTp_ap, gConsS_ap, gNilS_ap, sPar_ap, sPar3_ap, sRet_ap, sRetN_ap, sNx_ap, sBrk_ap, sCnt_ap, sSeq_ap, sIte_ap, sDrop_ap, sFrz_ap, sAug_ap, iRange1_ap, iRange2_ap, iSeq_ap, sFor_ap, sLc_ap, R.toG_ok, ↓R.bind_bnd, bnd_ok, ↓R.bd_bdn, bdn_ok, ↓R.toF_tof, tof_ok, ↓F.seq_sqn, sqn_nx, sqn_ret, sqn_cnt, sqn_brk, ↓F.turn_trn, trn_nx, trn_ret, trn_cnt, trn_brk, F.end_nx, F.end_ret, ↓br_true, br_true, ↓br_false, br_false, Dbr, Dneg, Dtst, opt_some, dAdd_int, dSub_int, dLt_int, dLe_int, dGt_int, dGe_int, dEq_int, dNe_int, dEq_bl, dNe_bl, dMul_cm, dMod_pos, dDiv_pos, dAbs_int, dMax2_int, dMin2_int, dInt_int, dInt_bl, dIx_tup, dIx_lst, dIx_seq, dLen_tup, dLen_lst, dLen_seq, atI_0, atI_1, atI_2, atI_3, List.map_cons, List.map_nil, List.length_cons, List.length_nil, List.replicate_succ, List.replicate_zero, List.cons_append, List.nil_append, List.getElem?_cons_zero, List.getElem?_cons_succ, List.set_cons_zero, List.set_cons_succ, Nat.reduceAdd, Nat.reduceSub, Nat.zero_add, Nat.add_zero, Nat.sub_self, Nat.reduceMul, mostL_def, Nat.reduceLeDiff, Nat.reduceLT, ite_true, ite_false, if_true, if_false, ↓reduceIte, reduceIte, ↓br_ite, Bool.false_eq_true, reduceCtorEq, Bool.not_true, Bool.not_false, decide_true, decide_false, Int.cast_ofNat_Int, Int.reduceBEq, Int.reduceAdd, Int.reduceSub, Int.reduceMul, Int.reduceNeg, Int.reduceLT, Int.reduceLE, Int.reduceMod, Int.reduceDiv, sMeth1_ap, sSl_ap, sRev_ap, oNo_ap, oPart_ap, sDict0_ap, sSetL_ap, isi_tup, kit_tuple_tuple, compGo_cons, compGo_nil, wipe_cons, wipe_nil, iSeq_at, dAll_lst, bls_cons, bls_nil, Option.map_some, List.all_cons, List.all_nil, id, whole_int, Bool.and_true]
theorem is_reducing_ok {k : Nat} {a b c A B C p q r s : Int} {h : Ph} (f : Fm k a b c) (hk : k ≤ 199) (x : Rdc a b c A B C) (sp : Sm 600 p) (sq : Sm 600 q) (sr : Sm 600 r) (ss : Sm 600 s) :
    f_is_reducing [T3 a b c, T4 p q r s] h = .ok (.bl ((p * s - q * r == 1) && (lA a b c p r == A && (lB a b c p q r s == B && (lA a b c q s == C && true))))) h := by
  obtain ⟨p', q', r', s', e, y⟩ := reducing_rdc (h := h) f (by omega) x
  have e1 := require_form_fm (h := h) (f.mono hk)
  have e2 := turn_ints (h := h) sp sq sr ss
  by_cases hd : p * s - q * r = 1
  · have e3 := led_by_ok (h := h) (f.sa.mono (by omega : k ≤ 600)) (f.sb.mono (by omega)) (f.sc.mono (by omega)) ⟨sp, sq, sr, ss, hd⟩
    have hb : (p * s - q * r == 1) = true := beq_iff_eq.mpr hd
    unfold f_is_reducing; simp (maxSteps := 4000000) (dsimp := false) (disch := first | assumption | decide | omega | walk_at "cm") only [runDef_ap, sVar_ap, sC_ap, sBin_ap, sNeg_ap, sAnd_ap, sOr_ap, sNot_ap, sIf_ap, sTst_ap, qAnd_ap, qOr_ap, qNot_ap, qYes_ap, sChain_ap, sChain3_ap, sNil_ap, sCons_ap, sTup_ap, sLst_ap, sLstM_ap, sCall_ap, g1_ap, g2_ap, sFn_ap, sAsg_ap, gNm_ap, gTp_ap, gConsS_ap, gNilS_ap, sPar_ap, sPar3_ap, sRet_ap, sRetN_ap, sNx_ap, sBrk_ap, sCnt_ap, sSeq_ap, sIte_ap, sDrop_ap, sFrz_ap, sAug_ap, iRange1_ap, iRange2_ap, iSeq_ap, sFor_ap, sLc_ap, R.toG_ok, ↓R.bind_bnd, bnd_ok, ↓R.bd_bdn, bdn_ok, ↓R.toF_tof, tof_ok, ↓F.seq_sqn, sqn_nx, sqn_ret, sqn_cnt, sqn_brk, ↓F.turn_trn, trn_nx, trn_ret, trn_cnt, trn_brk, F.end_nx, F.end_ret, ↓br_true, br_true, ↓br_false, br_false, Dbr, Dneg, Dtst, opt_some, dAdd_int, dSub_int, dLt_int, dLe_int, dGt_int, dGe_int, dEq_int, dNe_int, dEq_bl, dNe_bl, dMul_cm, dMod_pos, dDiv_pos, dAbs_int, dMax2_int, dMin2_int, dInt_int, dInt_bl, dIx_tup, dIx_lst, dIx_seq, dLen_tup, dLen_lst, dLen_seq, atI_0, atI_1, atI_2, atI_3, List.map_cons, List.map_nil, List.length_cons, List.length_nil, List.replicate_succ, List.replicate_zero, List.cons_append, List.nil_append, List.getElem?_cons_zero, List.getElem?_cons_succ, List.set_cons_zero, List.set_cons_succ, Nat.reduceAdd, Nat.reduceSub, Nat.zero_add, Nat.add_zero, Nat.sub_self, Nat.reduceMul, mostL_def, Nat.reduceLeDiff, Nat.reduceLT, ite_true, ite_false, if_true, if_false, ↓reduceIte, reduceIte, ↓br_ite, Bool.false_eq_true, reduceCtorEq, Bool.not_true, Bool.not_false, decide_true, decide_false, Int.cast_ofNat_Int, Int.reduceBEq, Int.reduceAdd, Int.reduceSub, Int.reduceMul, Int.reduceNeg, Int.reduceLT, Int.reduceLE, Int.reduceMod, Int.reduceDiv, sMeth1_ap, sSl_ap, sRev_ap, oNo_ap, oPart_ap, sDict0_ap, sSetL_ap, e, e1, e2, e3, hb, dEq_T3, Bool.true_and]
  · have hb : (p * s - q * r == 1) = false := beq_eq_false_iff_ne.mpr hd
    unfold f_is_reducing; simp (maxSteps := 4000000) (dsimp := false) (disch := first | assumption | decide | omega | walk_at "cm") only [runDef_ap, sVar_ap, sC_ap, sBin_ap, sNeg_ap, sAnd_ap, sOr_ap, sNot_ap, sIf_ap, sTst_ap, qAnd_ap, qOr_ap, qNot_ap, qYes_ap, sChain_ap, sChain3_ap, sNil_ap, sCons_ap, sTup_ap, sLst_ap, sLstM_ap, sCall_ap, g1_ap, g2_ap, sFn_ap, sAsg_ap, gNm_ap, gTp_ap, gConsS_ap, gNilS_ap, sPar_ap, sPar3_ap, sRet_ap, sRetN_ap, sNx_ap, sBrk_ap, sCnt_ap, sSeq_ap, sIte_ap, sDrop_ap, sFrz_ap, sAug_ap, iRange1_ap, iRange2_ap, iSeq_ap, sFor_ap, sLc_ap, R.toG_ok, ↓R.bind_bnd, bnd_ok, ↓R.bd_bdn, bdn_ok, ↓R.toF_tof, tof_ok, ↓F.seq_sqn, sqn_nx, sqn_ret, sqn_cnt, sqn_brk, ↓F.turn_trn, trn_nx, trn_ret, trn_cnt, trn_brk, F.end_nx, F.end_ret, ↓br_true, br_true, ↓br_false, br_false, Dbr, Dneg, Dtst, opt_some, dAdd_int, dSub_int, dLt_int, dLe_int, dGt_int, dGe_int, dEq_int, dNe_int, dEq_bl, dNe_bl, dMul_cm, dMod_pos, dDiv_pos, dAbs_int, dMax2_int, dMin2_int, dInt_int, dInt_bl, dIx_tup, dIx_lst, dIx_seq, dLen_tup, dLen_lst, dLen_seq, atI_0, atI_1, atI_2, atI_3, List.map_cons, List.map_nil, List.length_cons, List.length_nil, List.replicate_succ, List.replicate_zero, List.cons_append, List.nil_append, List.getElem?_cons_zero, List.getElem?_cons_succ, List.set_cons_zero, List.set_cons_succ, Nat.reduceAdd, Nat.reduceSub, Nat.zero_add, Nat.add_zero, Nat.sub_self, Nat.reduceMul, mostL_def, Nat.reduceLeDiff, Nat.reduceLT, ite_true, ite_false, if_true, if_false, ↓reduceIte, reduceIte, ↓br_ite, Bool.false_eq_true, reduceCtorEq, Bool.not_true, Bool.not_false, decide_true, decide_false, Int.cast_ofNat_Int, Int.reduceBEq, Int.reduceAdd, Int.reduceSub, Int.reduceMul, Int.reduceNeg, Int.reduceLT, Int.reduceLE, Int.reduceMod, Int.reduceDiv, sMeth1_ap, sSl_ap, sRev_ap, oNo_ap, oPart_ap, sDict0_ap, sSetL_ap, e, e1, e2, hb, Bool.false_and]
theorem is_reducing_not {k : Nat} {a b c : Int} {v : D} {h : Ph} (f : Fm k a b c) (hk : k ≤ 199) (hv : f_is_turn [v] h = .ok (.bl false) h) : f_is_reducing [T3 a b c, v] h = .ok (.bl false) h := by
  have e1 := require_form_fm (h := h) (f.mono hk)
  unfold f_is_reducing; simp (maxSteps := 4000000) (dsimp := false) (disch := first | assumption | decide | omega | walk_at "cm") only [runDef_ap, sVar_ap, sC_ap, sBin_ap, sNeg_ap, sAnd_ap, sOr_ap, sNot_ap, sIf_ap, sTst_ap, qAnd_ap, qOr_ap, qNot_ap, qYes_ap, sChain_ap, sChain3_ap, sNil_ap, sCons_ap, sTup_ap, sLst_ap, sLstM_ap, sCall_ap, g1_ap, g2_ap, sFn_ap, sAsg_ap, gNm_ap, gTp_ap, gConsS_ap, gNilS_ap, sPar_ap, sPar3_ap, sRet_ap, sRetN_ap, sNx_ap, sBrk_ap, sCnt_ap, sSeq_ap, sIte_ap, sDrop_ap, sFrz_ap, sAug_ap, iRange1_ap, iRange2_ap, iSeq_ap, sFor_ap, sLc_ap, R.toG_ok, ↓R.bind_bnd, bnd_ok, ↓R.bd_bdn, bdn_ok, ↓R.toF_tof, tof_ok, ↓F.seq_sqn, sqn_nx, sqn_ret, sqn_cnt, sqn_brk, ↓F.turn_trn, trn_nx, trn_ret, trn_cnt, trn_brk, F.end_nx, F.end_ret, ↓br_true, br_true, ↓br_false, br_false, Dbr, Dneg, Dtst, opt_some, dAdd_int, dSub_int, dLt_int, dLe_int, dGt_int, dGe_int, dEq_int, dNe_int, dEq_bl, dNe_bl, dMul_cm, dMod_pos, dDiv_pos, dAbs_int, dMax2_int, dMin2_int, dInt_int, dInt_bl, dIx_tup, dIx_lst, dIx_seq, dLen_tup, dLen_lst, dLen_seq, atI_0, atI_1, atI_2, atI_3, List.map_cons, List.map_nil, List.length_cons, List.length_nil, List.replicate_succ, List.replicate_zero, List.cons_append, List.nil_append, List.getElem?_cons_zero, List.getElem?_cons_succ, List.set_cons_zero, List.set_cons_succ, Nat.reduceAdd, Nat.reduceSub, Nat.zero_add, Nat.add_zero, Nat.sub_self, Nat.reduceMul, mostL_def, Nat.reduceLeDiff, Nat.reduceLT, ite_true, ite_false, if_true, if_false, ↓reduceIte, reduceIte, ↓br_ite, Bool.false_eq_true, reduceCtorEq, Bool.not_true, Bool.not_false, decide_true, decide_false, Int.cast_ofNat_Int, Int.reduceBEq, Int.reduceAdd, Int.reduceSub, Int.reduceMul, Int.reduceNeg, Int.reduceLT, Int.reduceLE, Int.reduceMod, Int.reduceDiv, sMeth1_ap, sSl_ap, sRev_ap, oNo_ap, oPart_ap, sDict0_ap, sSetL_ap, e1, hv]
/-! ### what is no turn -/
theorem turn_non {h : Ph} : f_is_turn [.non] h = .ok (.bl false) h := by unfold f_is_turn; simp (maxSteps := 4000000) (dsimp := false) (disch := first | assumption | decide | omega | walk_at "cm") only [runDef_ap, sVar_ap, sC_ap, sBin_ap, sNeg_ap, sAnd_ap, sOr_ap, sNot_ap, sIf_ap, sTst_ap, qAnd_ap, qOr_ap, qNot_ap, qYes_ap, sChain_ap, sChain3_ap, sNil_ap, sCons_ap, sTup_ap, sLst_ap, sLstM_ap, sCall_ap, g1_ap, g2_ap, sFn_ap, sAsg_ap, gNm_ap, gTp_ap, gConsS_ap, gNilS_ap, sPar_ap, sPar3_ap, sRet_ap, sRetN_ap, sNx_ap, sBrk_ap, sCnt_ap, sSeq_ap, sIte_ap, sDrop_ap, sFrz_ap, sAug_ap, iRange1_ap, iRange2_ap, iSeq_ap, sFor_ap, sLc_ap, R.toG_ok, ↓R.bind_bnd, bnd_ok, ↓R.bd_bdn, bdn_ok, ↓R.toF_tof, tof_ok, ↓F.seq_sqn, sqn_nx, sqn_ret, sqn_cnt, sqn_brk, ↓F.turn_trn, trn_nx, trn_ret, trn_cnt, trn_brk, F.end_nx, F.end_ret, ↓br_true, br_true, ↓br_false, br_false, Dbr, Dneg, Dtst, opt_some, dAdd_int, dSub_int, dLt_int, dLe_int, dGt_int, dGe_int, dEq_int, dNe_int, dEq_bl, dNe_bl, dMul_cm, dMod_pos, dDiv_pos, dAbs_int, dMax2_int, dMin2_int, dInt_int, dInt_bl, dIx_tup, dIx_lst, dIx_seq, dLen_tup, dLen_lst, dLen_seq, atI_0, atI_1, atI_2, atI_3, List.map_cons, List.map_nil, List.length_cons, List.length_nil, List.replicate_succ, List.replicate_zero, List.cons_append, List.nil_append, List.getElem?_cons_zero, List.getElem?_cons_succ, List.set_cons_zero, List.set_cons_succ, Nat.reduceAdd, Nat.reduceSub, Nat.zero_add, Nat.add_zero, Nat.sub_self, Nat.reduceMul, mostL_def, Nat.reduceLeDiff, Nat.reduceLT, ite_true, ite_false, if_true, if_false, ↓reduceIte, reduceIte, ↓br_ite, Bool.false_eq_true, reduceCtorEq, Bool.not_true, Bool.not_false, decide_true, decide_false, Int.cast_ofNat_Int, Int.reduceBEq, Int.reduceAdd, Int.reduceSub, Int.reduceMul, Int.reduceNeg, Int.reduceLT, Int.reduceLE, Int.reduceMod, Int.reduceDiv, sMeth1_ap, sSl_ap, sRev_ap, oNo_ap, oPart_ap, sDict0_ap, sSetL_ap, isi_non, kit_non_tuple]
theorem turn_int {i : Int} {h : Ph} : f_is_turn [.int i] h = .ok (.bl false) h := by unfold f_is_turn; simp (maxSteps := 4000000) (dsimp := false) (disch := first | assumption | decide | omega | walk_at "cm") only [runDef_ap, sVar_ap, sC_ap, sBin_ap, sNeg_ap, sAnd_ap, sOr_ap, sNot_ap, sIf_ap, sTst_ap, qAnd_ap, qOr_ap, qNot_ap, qYes_ap, sChain_ap, sChain3_ap, sNil_ap, sCons_ap, sTup_ap, sLst_ap, sLstM_ap, sCall_ap, g1_ap, g2_ap, sFn_ap, sAsg_ap, gNm_ap, gTp_ap, gConsS_ap, gNilS_ap, sPar_ap, sPar3_ap, sRet_ap, sRetN_ap, sNx_ap, sBrk_ap, sCnt_ap, sSeq_ap, sIte_ap, sDrop_ap, sFrz_ap, sAug_ap, iRange1_ap, iRange2_ap, iSeq_ap, sFor_ap, sLc_ap, R.toG_ok, ↓R.bind_bnd, bnd_ok, ↓R.bd_bdn, bdn_ok, ↓R.toF_tof, tof_ok, ↓F.seq_sqn, sqn_nx, sqn_ret, sqn_cnt, sqn_brk, ↓F.turn_trn, trn_nx, trn_ret, trn_cnt, trn_brk, F.end_nx, F.end_ret, ↓br_true, br_true, ↓br_false, br_false, Dbr, Dneg, Dtst, opt_some, dAdd_int, dSub_int, dLt_int, dLe_int, dGt_int, dGe_int, dEq_int, dNe_int, dEq_bl, dNe_bl, dMul_cm, dMod_pos, dDiv_pos, dAbs_int, dMax2_int, dMin2_int, dInt_int, dInt_bl, dIx_tup, dIx_lst, dIx_seq, dLen_tup, dLen_lst, dLen_seq, atI_0, atI_1, atI_2, atI_3, List.map_cons, List.map_nil, List.length_cons, List.length_nil, List.replicate_succ, List.replicate_zero, List.cons_append, List.nil_append, List.getElem?_cons_zero, List.getElem?_cons_succ, List.set_cons_zero, List.set_cons_succ, Nat.reduceAdd, Nat.reduceSub, Nat.zero_add, Nat.add_zero, Nat.sub_self, Nat.reduceMul, mostL_def, Nat.reduceLeDiff, Nat.reduceLT, ite_true, ite_false, if_true, if_false, ↓reduceIte, reduceIte, ↓br_ite, Bool.false_eq_true, reduceCtorEq, Bool.not_true, Bool.not_false, decide_true, decide_false, Int.cast_ofNat_Int, Int.reduceBEq, Int.reduceAdd, Int.reduceSub, Int.reduceMul, Int.reduceNeg, Int.reduceLT, Int.reduceLE, Int.reduceMod, Int.reduceDiv, sMeth1_ap, sSl_ap, sRev_ap, oNo_ap, oPart_ap, sDict0_ap, sSetL_ap, isi_int, kit_int_tuple]
theorem turn_lst {i : List D} {h : Ph} : f_is_turn [.lst i] h = .ok (.bl false) h := by unfold f_is_turn; simp (maxSteps := 4000000) (dsimp := false) (disch := first | assumption | decide | omega | walk_at "cm") only [runDef_ap, sVar_ap, sC_ap, sBin_ap, sNeg_ap, sAnd_ap, sOr_ap, sNot_ap, sIf_ap, sTst_ap, qAnd_ap, qOr_ap, qNot_ap, qYes_ap, sChain_ap, sChain3_ap, sNil_ap, sCons_ap, sTup_ap, sLst_ap, sLstM_ap, sCall_ap, g1_ap, g2_ap, sFn_ap, sAsg_ap, gNm_ap, gTp_ap, gConsS_ap, gNilS_ap, sPar_ap, sPar3_ap, sRet_ap, sRetN_ap, sNx_ap, sBrk_ap, sCnt_ap, sSeq_ap, sIte_ap, sDrop_ap, sFrz_ap, sAug_ap, iRange1_ap, iRange2_ap, iSeq_ap, sFor_ap, sLc_ap, R.toG_ok, ↓R.bind_bnd, bnd_ok, ↓R.bd_bdn, bdn_ok, ↓R.toF_tof, tof_ok, ↓F.seq_sqn, sqn_nx, sqn_ret, sqn_cnt, sqn_brk, ↓F.turn_trn, trn_nx, trn_ret, trn_cnt, trn_brk, F.end_nx, F.end_ret, ↓br_true, br_true, ↓br_false, br_false, Dbr, Dneg, Dtst, opt_some, dAdd_int, dSub_int, dLt_int, dLe_int, dGt_int, dGe_int, dEq_int, dNe_int, dEq_bl, dNe_bl, dMul_cm, dMod_pos, dDiv_pos, dAbs_int, dMax2_int, dMin2_int, dInt_int, dInt_bl, dIx_tup, dIx_lst, dIx_seq, dLen_tup, dLen_lst, dLen_seq, atI_0, atI_1, atI_2, atI_3, List.map_cons, List.map_nil, List.length_cons, List.length_nil, List.replicate_succ, List.replicate_zero, List.cons_append, List.nil_append, List.getElem?_cons_zero, List.getElem?_cons_succ, List.set_cons_zero, List.set_cons_succ, Nat.reduceAdd, Nat.reduceSub, Nat.zero_add, Nat.add_zero, Nat.sub_self, Nat.reduceMul, mostL_def, Nat.reduceLeDiff, Nat.reduceLT, ite_true, ite_false, if_true, if_false, ↓reduceIte, reduceIte, ↓br_ite, Bool.false_eq_true, reduceCtorEq, Bool.not_true, Bool.not_false, decide_true, decide_false, Int.cast_ofNat_Int, Int.reduceBEq, Int.reduceAdd, Int.reduceSub, Int.reduceMul, Int.reduceNeg, Int.reduceLT, Int.reduceLE, Int.reduceMod, Int.reduceDiv, sMeth1_ap, sSl_ap, sRev_ap, oNo_ap, oPart_ap, sDict0_ap, sSetL_ap, isi_lst, kit_list_tuple]
theorem turn_len {xs : List D} {h : Ph} (hn : ((xs.length : Int) == 4) = false) : f_is_turn [.tup xs] h = .ok (.bl false) h := by unfold f_is_turn; simp (maxSteps := 4000000) (dsimp := false) (disch := first | assumption | decide | omega | walk_at "cm") only [runDef_ap, sVar_ap, sC_ap, sBin_ap, sNeg_ap, sAnd_ap, sOr_ap, sNot_ap, sIf_ap, sTst_ap, qAnd_ap, qOr_ap, qNot_ap, qYes_ap, sChain_ap, sChain3_ap, sNil_ap, sCons_ap, sTup_ap, sLst_ap, sLstM_ap, sCall_ap, g1_ap, g2_ap, sFn_ap, sAsg_ap, gNm_ap, gTp_ap, gConsS_ap, gNilS_ap, sPar_ap, sPar3_ap, sRet_ap, sRetN_ap, sNx_ap, sBrk_ap, sCnt_ap, sSeq_ap, sIte_ap, sDrop_ap, sFrz_ap, sAug_ap, iRange1_ap, iRange2_ap, iSeq_ap, sFor_ap, sLc_ap, R.toG_ok, ↓R.bind_bnd, bnd_ok, ↓R.bd_bdn, bdn_ok, ↓R.toF_tof, tof_ok, ↓F.seq_sqn, sqn_nx, sqn_ret, sqn_cnt, sqn_brk, ↓F.turn_trn, trn_nx, trn_ret, trn_cnt, trn_brk, F.end_nx, F.end_ret, ↓br_true, br_true, ↓br_false, br_false, Dbr, Dneg, Dtst, opt_some, dAdd_int, dSub_int, dLt_int, dLe_int, dGt_int, dGe_int, dEq_int, dNe_int, dEq_bl, dNe_bl, dMul_cm, dMod_pos, dDiv_pos, dAbs_int, dMax2_int, dMin2_int, dInt_int, dInt_bl, dIx_tup, dIx_lst, dIx_seq, dLen_tup, dLen_lst, dLen_seq, atI_0, atI_1, atI_2, atI_3, List.map_cons, List.map_nil, List.length_cons, List.length_nil, List.replicate_succ, List.replicate_zero, List.cons_append, List.nil_append, List.getElem?_cons_zero, List.getElem?_cons_succ, List.set_cons_zero, List.set_cons_succ, Nat.reduceAdd, Nat.reduceSub, Nat.zero_add, Nat.add_zero, Nat.sub_self, Nat.reduceMul, mostL_def, Nat.reduceLeDiff, Nat.reduceLT, ite_true, ite_false, if_true, if_false, ↓reduceIte, reduceIte, ↓br_ite, Bool.false_eq_true, reduceCtorEq, Bool.not_true, Bool.not_false, decide_true, decide_false, Int.cast_ofNat_Int, Int.reduceBEq, Int.reduceAdd, Int.reduceSub, Int.reduceMul, Int.reduceNeg, Int.reduceLT, Int.reduceLE, Int.reduceMod, Int.reduceDiv, sMeth1_ap, sSl_ap, sRev_ap, oNo_ap, oPart_ap, sDict0_ap, sSetL_ap, isi_tup, kit_tuple_tuple, hn]
theorem turn_bad {x y z w : D} {p q r t : Bool} {h : Ph} (hx : f_is_whole [x] h = .ok (.bl p) h) (hy : f_is_whole [y] h = .ok (.bl q) h) (hz : f_is_whole [z] h = .ok (.bl r) h) (hw : f_is_whole [w] h = .ok (.bl t) h) (hb : (p && (q && (r && t))) = false) : f_is_turn [.tup [x, y, z, w]] h = .ok (.bl false) h := by
  unfold f_is_turn; simp (maxSteps := 4000000) (dsimp := false) (disch := first | assumption | decide | omega | walk_at "cm") only [runDef_ap, sVar_ap, sC_ap, sBin_ap, sNeg_ap, sAnd_ap, sOr_ap, sNot_ap, sIf_ap, sTst_ap, qAnd_ap, qOr_ap, qNot_ap, qYes_ap, sChain_ap, sChain3_ap, sNil_ap, sCons_ap, sTup_ap, sLst_ap, sLstM_ap, sCall_ap, g1_ap, g2_ap, sFn_ap, sAsg_ap, gNm_ap, gTp_ap, gConsS_ap, gNilS_ap, sPar_ap, sPar3_ap, sRet_ap, sRetN_ap, sNx_ap, sBrk_ap, sCnt_ap, sSeq_ap, sIte_ap, sDrop_ap, sFrz_ap, sAug_ap, iRange1_ap, iRange2_ap, iSeq_ap, sFor_ap, sLc_ap, R.toG_ok, ↓R.bind_bnd, bnd_ok, ↓R.bd_bdn, bdn_ok, ↓R.toF_tof, tof_ok, ↓F.seq_sqn, sqn_nx, sqn_ret, sqn_cnt, sqn_brk, ↓F.turn_trn, trn_nx, trn_ret, trn_cnt, trn_brk, F.end_nx, F.end_ret, ↓br_true, br_true, ↓br_false, br_false, Dbr, Dneg, Dtst, opt_some, dAdd_int, dSub_int, dLt_int, dLe_int, dGt_int, dGe_int, dEq_int, dNe_int, dEq_bl, dNe_bl, dMul_cm, dMod_pos, dDiv_pos, dAbs_int, dMax2_int, dMin2_int, dInt_int, dInt_bl, dIx_tup, dIx_lst, dIx_seq, dLen_tup, dLen_lst, dLen_seq, atI_0, atI_1, atI_2, atI_3, List.map_cons, List.map_nil, List.length_cons, List.length_nil, List.replicate_succ, List.replicate_zero, List.cons_append, List.nil_append, List.getElem?_cons_zero, List.getElem?_cons_succ, List.set_cons_zero, List.set_cons_succ, Nat.reduceAdd, Nat.reduceSub, Nat.zero_add, Nat.add_zero, Nat.sub_self, Nat.reduceMul, mostL_def, Nat.reduceLeDiff, Nat.reduceLT, ite_true, ite_false, if_true, if_false, ↓reduceIte, reduceIte, ↓br_ite, Bool.false_eq_true, reduceCtorEq, Bool.not_true, Bool.not_false, decide_true, decide_false, Int.cast_ofNat_Int, Int.reduceBEq, Int.reduceAdd, Int.reduceSub, Int.reduceMul, Int.reduceNeg, Int.reduceLT, Int.reduceLE, Int.reduceMod, Int.reduceDiv, sMeth1_ap, sSl_ap, sRev_ap, oNo_ap, oPart_ap, sDict0_ap, sSetL_ap, isi_tup, kit_tuple_tuple, compGo_cons, compGo_nil, wipe_cons, wipe_nil, iSeq_at, dAll_lst, bls_cons, bls_nil, Option.map_some, List.all_cons, List.all_nil, id, hx, hy, hz, hw, Bool.and_true, hb]
/-! ### the law's own reducing -/
def shC (A B C : Int) : Int := A * ((A - B) / (2 * A)) * ((A - B) / (2 * A)) + B * ((A - B) / (2 * A)) + C
/-- how many turns it takes at most -/
def rnu (A B C : Int) : Nat := if Lst A B C = true then 0 else if -A < B ∧ B ≤ A then (if A ≤ C then 1 else 2 * A.natAbs.log2 + 3) else (if A ≤ shC A B C then 2 else 2 * A.natAbs.log2 + 4)
theorem rnu_le {A B C : Int} : rnu A B C ≤ 2 * A.natAbs.log2 + 4 := by
  unfold rnu
  by_cases h1 : Lst A B C = true
  · rw [if_pos h1]; omega
  · rw [if_neg h1]
    by_cases h2 : -A < B ∧ B ≤ A
    · rw [if_pos h2]; split <;> omega
    · rw [if_neg h2]; split <;> omega
theorem rnu_in {A B C : Int} (h1 : -A < B ∧ B ≤ A) : rnu A B C ≤ if A ≤ C then 1 else 2 * A.natAbs.log2 + 3 := by
  unfold rnu
  by_cases h2 : Lst A B C = true
  · rw [if_pos h2]; omega
  · rw [if_neg h2, if_pos h1]; omega
theorem rnu_in3 {A B C : Int} (h1 : -A < B ∧ B ≤ A) (hl : Lst A B C = false) : rnu A B C = if A ≤ C then 1 else 2 * A.natAbs.log2 + 3 := by
  unfold rnu
  rw [if_neg (by rw [hl]; simp), if_pos h1]
theorem rnu_out {A B C : Int} (hp : 0 < A) (h1 : ¬ (-A < B ∧ B ≤ A)) : rnu A B C = if A ≤ shC A B C then 2 else 2 * A.natAbs.log2 + 4 := by
  unfold rnu
  by_cases l : Lst A B C = true
  · exfalso
    obtain ⟨⟨r1, r2, r3⟩, r4⟩ := lst_iff.mp l
    exact h1 ⟨by rcases r4 with h | h <;> omega, r2⟩
  · rw [if_neg l, if_neg h1]
theorem log_third {A C : Int} (h1 : 0 < C) (h2 : 3 * C < A) : C.natAbs.log2 + 1 ≤ A.natAbs.log2 := by
  have e : A.natAbs.log2 = (A.natAbs / 2).log2 + 1 := by
    rw [Nat.log2_def A.natAbs]
    rw [if_pos (by omega)]
  rw [e]
  have : C.natAbs ≤ A.natAbs / 2 := by omega
  have hm : C.natAbs.log2 ≤ (A.natAbs / 2).log2 := (Nat.le_log2 (by omega)).mpr (Nat.le_trans (Nat.log2_self_le (by omega)) this)
  omega
theorem rnu_turn {A B C : Int} (hp : 0 < A) (h1 : -A < B ∧ B ≤ A) (hl : Lst A B C = false) (hC : 0 < C) : rnu C (-B) A < rnu A B C := by
  rw [rnu_in3 h1 hl]
  have hn : ¬ ((-A ≤ B ∧ B ≤ A ∧ A ≤ C) ∧ (0 ≤ B ∨ (B ≠ -A ∧ A ≠ C))) := fun z => by rw [lst_iff.mpr z] at hl; cases hl
  by_cases h : A ≤ C
  · rw [if_pos h]
    have e : C = A := by
      by_cases h2 : C = A
      · exact h2
      · exact absurd ⟨⟨by omega, h1.2, by omega⟩, .inr ⟨by omega, by omega⟩⟩ hn
    subst e
    have hb : B < 0 := by
      by_cases h2 : 0 ≤ B
      · exact absurd ⟨⟨by omega, h1.2, by omega⟩, .inl h2⟩ hn
      · omega
    have l2 : Lst C (-B) C = true := lst_iff.mpr ⟨⟨by omega, by omega, by omega⟩, .inl (by omega)⟩
    unfold rnu
    rw [if_pos l2]
    omega
  · rw [if_neg h]
    by_cases h2 : -C < -B ∧ -B ≤ C
    · have := rnu_in (C := A) h2
      rw [if_pos (by omega)] at this
      omega
    · rw [rnu_out hC h2]
      by_cases h3 : C ≤ shC C (-B) A
      · rw [if_pos h3]; omega
      · rw [if_neg h3]
        have h4 : 3 * C < A := by
          by_cases h5 : 3 * C < A
          · exact h5
          · exfalso
            apply h3
            unfold shC
            have q1 := Int.mul_ediv_add_emod (C - -B) (2 * C)
            have q2 := Int.emod_lt_of_pos (C - -B) (by omega : 0 < 2 * C)
            have q3 := Int.emod_nonneg (C - -B) (by omega : 2 * C ≠ 0)
            generalize (C - -B) / (2 * C) = t at *
            have c1 : t < 3 := by
              by_cases c : t < 3
              · exact c
              · have : 2 * C * 3 ≤ 2 * C * t := Int.mul_le_mul_of_nonneg_left (by omega) (by omega)
                omega
            have c2 : -2 < t := by
              by_cases c : -2 < t
              · exact c
              · have : 2 * C * t ≤ 2 * C * (-2) := Int.mul_le_mul_of_nonneg_left (by omega) (by omega)
                omega
            have c3 : t = -1 ∨ t = 0 ∨ t = 1 ∨ t = 2 := by omega
            rcases c3 with rfl | rfl | rfl | rfl <;> omega
        have := log_third hC h4
        omega
theorem rnu_shift {A B C : Int} (hp : 0 < A) (h1 : ¬ (-A < B ∧ B ≤ A)) : rnu A (B + 2 * A * ((A - B) / (2 * A))) (shC A B C) < rnu A B C := by
  rw [rnu_out hp h1]
  have q1 := Int.mul_ediv_add_emod (A - B) (2 * A)
  have q2 := Int.emod_lt_of_pos (A - B) (by omega : 0 < 2 * A)
  have q3 := Int.emod_nonneg (A - B) (by omega : 2 * A ≠ 0)
  have b1 : -A < B + 2 * A * ((A - B) / (2 * A)) ∧ B + 2 * A * ((A - B) / (2 * A)) ≤ A := by omega
  have := rnu_in (C := shC A B C) b1
  by_cases h : A ≤ shC A B C
  · rw [if_pos h] at this ⊢; omega
  · rw [if_neg h] at this ⊢; omega
theorem bfl_step {k : Nat} {a b c A B C p q r s : Int} {d o1 o4 o5 : Option D} {h : Ph} (f : Fm k a b c) (hk : k ≤ 250) (x : Rst k a b c A B C p q r s) (hl : Lst A B C = false) :
    ∃ A' B' C' p' q' r' s' o4' o5', l__law_bf_least_1 [d, o1, some (T3 A B C), some (T4 p q r s), o4, o5] h = .nx [d, o1, some (T3 A' B' C'), some (T4 p' q' r' s'), o4', o5'] h ∧ Rst k a b c A' B' C' p' q' r' s' ∧ rnu A' B' C' < rnu A B C := by
  have g := (x.fm f).mono (by omega : 2 * k + 3 ≤ 503)
  have m := (x.mx f).mono (by omega : 2 * k + 3 ≤ 503)
  have hC : 0 < C := by
    have h1 := g.mea
    have h2 := sq_nonneg' B
    have : 0 < 4 * A * C := by omega
    exact Int.pos_of_mul_pos_right this (by have := g.pos; omega)
  have hp := g.pos
  have sA : Sm k A := ⟨by have := f.sa.lt; have := x.le; omega⟩
  have lg : (2 * A).natAbs.log2 < 9000 := Nat.lt_of_le_of_lt (log_lt ((Sm.lit (n := 2)).mul (sA.mono hk)).lt) (by decide)
  have a2 : 0 < 2 * A := by omega
  have le := bf_least_ok (a := A) (b := B) (c := C) (h := h)
  rw [hl] at le
  by_cases h1 : -A < B ∧ B ≤ A
  · obtain ⟨y, _⟩ := x.turn h1 hl hC
    have lt := rnu_turn hp h1 hl hC
    have ms : Mx 4 0 (-1) 1 0 := ⟨⟨by decide⟩, ⟨by decide⟩, ⟨by decide⟩, ⟨by decide⟩, by decide⟩
    have e1 := bf_led_ok (h := h) (g.sa.mono (by omega : 503 ≤ 600)) (g.sb.mono (by omega)) (g.sc.mono (by omega)) (ms.mono (by omega))
    have e2 := bf_product_ok (h := h) m ms (by omega) (by omega)
    have z1 : lA A B C 0 1 = C := by unfold lA; grind
    have z2 : lB A B C 0 (-1) 1 0 = -B := by unfold lB; grind
    have z3 : lA A B C (-1) 0 = A := by unfold lA; grind
    have z4 : p * 0 + q * 1 = q := by omega
    have z5 : p * -1 + q * 0 = -p := by omega
    have z6 : r * 0 + s * 1 = s := by omega
    have z7 : r * -1 + s * 0 = -r := by omega
    rw [z1, z2, z3] at e1
    rw [z4, z5, z6, z7] at e2
    have ht : (A - B) / (2 * A) = 0 := by
      have q1 := Int.mul_ediv_add_emod (A - B) (2 * A)
      exact Int.ediv_eq_zero_of_lt (by omega) (by omega)
    refine ⟨C, -B, A, q, -p, s, -r, some (.int 0), some (T4 0 (-1) 1 0), ?_, y, lt⟩
    unfold l__law_bf_least_1
    simp (maxSteps := 4000000) (dsimp := false) (disch := first | assumption | decide | omega | walk_at "cm") only [runDef_ap, sVar_ap, sC_ap, sBin_ap, sNeg_ap, sAnd_ap, sOr_ap, sNot_ap, sIf_ap, sTst_ap, qAnd_ap, qOr_ap, qNot_ap, qYes_ap, sChain_ap, sChain3_ap, sNil_ap, sCons_ap, sTup_ap, sLst_ap, sLstM_ap, sCall_ap, g1_ap, g2_ap, sFn_ap, sAsg_ap, gNm_ap, gTp_ap, gConsS_ap, gNilS_ap, sPar_ap, sPar3_ap, sRet_ap, sRetN_ap, sNx_ap, sBrk_ap, sCnt_ap, sSeq_ap, sIte_ap, sDrop_ap, sFrz_ap, sAug_ap, iRange1_ap, iRange2_ap, iSeq_ap, sFor_ap, sLc_ap, R.toG_ok, ↓R.bind_bnd, bnd_ok, ↓R.bd_bdn, bdn_ok, ↓R.toF_tof, tof_ok, ↓F.seq_sqn, sqn_nx, sqn_ret, sqn_cnt, sqn_brk, ↓F.turn_trn, trn_nx, trn_ret, trn_cnt, trn_brk, F.end_nx, F.end_ret, ↓br_true, br_true, ↓br_false, br_false, Dbr, Dneg, Dtst, opt_some, dAdd_int, dSub_int, dLt_int, dLe_int, dGt_int, dGe_int, dEq_int, dNe_int, dEq_bl, dNe_bl, dMul_cm, dMod_pos, dDiv_pos, dAbs_int, dMax2_int, dMin2_int, dInt_int, dInt_bl, dIx_tup, dIx_lst, dIx_seq, dLen_tup, dLen_lst, dLen_seq, atI_0, atI_1, atI_2, atI_3, List.map_cons, List.map_nil, List.length_cons, List.length_nil, List.replicate_succ, List.replicate_zero, List.cons_append, List.nil_append, List.getElem?_cons_zero, List.getElem?_cons_succ, List.set_cons_zero, List.set_cons_succ, Nat.reduceAdd, Nat.reduceSub, Nat.zero_add, Nat.add_zero, Nat.sub_self, Nat.reduceMul, mostL_def, Nat.reduceLeDiff, Nat.reduceLT, ite_true, ite_false, if_true, if_false, ↓reduceIte, reduceIte, ↓br_ite, Bool.false_eq_true, reduceCtorEq, Bool.not_true, Bool.not_false, decide_true, decide_false, Int.cast_ofNat_Int, Int.reduceBEq, Int.reduceAdd, Int.reduceSub, Int.reduceMul, Int.reduceNeg, Int.reduceLT, Int.reduceLE, Int.reduceMod, Int.reduceDiv, sMeth1_ap, sSl_ap, sRev_ap, oNo_ap, oPart_ap, sDict0_ap, sSetL_ap, le, e1, e2, lg, ht]
  · obtain ⟨y, _⟩ := x.shift f.sa h1
    have lt := rnu_shift (C := C) hp h1
    unfold shC at lt
    have st : Sm 501 ((A - B) / (2 * A)) := by
      have h2 := ((sA.sub x.sB).mono (by omega : k + k + 1 ≤ 501)).lt
      have h3 := Int.natAbs_ediv_le_natAbs (A - B) (2 * A)
      exact ⟨Nat.lt_of_le_of_lt h3 h2⟩
    have ht : ((A - B) / (2 * A) == 0) = false := by
      rw [beq_eq_false_iff_ne]
      intro hz
      have q1 := Int.mul_ediv_add_emod (A - B) (2 * A)
      have q2 := Int.emod_lt_of_pos (A - B) (by omega : 0 < 2 * A)
      have q3 := Int.emod_nonneg (A - B) (by omega : 2 * A ≠ 0)
      rw [hz] at q1
      exact h1 (by omega)
    generalize ht0 : (A - B) / (2 * A) = t at *
    have ms : Mx 501 1 t 0 1 := ⟨⟨by decide⟩, st, ⟨by decide⟩, ⟨by decide⟩, by omega⟩
    have e1 := bf_led_ok (h := h) (g.sa.mono (by omega : 503 ≤ 600)) (g.sb.mono (by omega)) (g.sc.mono (by omega)) (ms.mono (by omega))
    have e2 := bf_product_ok (h := h) m ms (by omega) (by omega)
    have z1 : lA A B C 1 0 = A := by unfold lA; grind
    have z2 : lB A B C 1 t 0 1 = B + 2 * A * t := by unfold lB; grind
    have z3 : lA A B C t 1 = A * t * t + B * t + C := by unfold lA; grind
    have z4 : p * 1 + q * 0 = p := by omega
    have z5 : p * t + q * 1 = p * t + q := by omega
    have z6 : r * 1 + s * 0 = r := by omega
    have z7 : r * t + s * 1 = r * t + s := by omega
    rw [z1, z2, z3] at e1
    rw [z4, z5, z6, z7] at e2
    refine ⟨A, _, _, p, _, r, _, some (.int t), some (T4 1 t 0 1), ?_, y, lt⟩
    unfold l__law_bf_least_1
    simp (maxSteps := 4000000) (dsimp := false) (disch := first | assumption | decide | omega | walk_at "cm") only [runDef_ap, sVar_ap, sC_ap, sBin_ap, sNeg_ap, sAnd_ap, sOr_ap, sNot_ap, sIf_ap, sTst_ap, qAnd_ap, qOr_ap, qNot_ap, qYes_ap, sChain_ap, sChain3_ap, sNil_ap, sCons_ap, sTup_ap, sLst_ap, sLstM_ap, sCall_ap, g1_ap, g2_ap, sFn_ap, sAsg_ap, gNm_ap, gTp_ap, gConsS_ap, gNilS_ap, sPar_ap, sPar3_ap, sRet_ap, sRetN_ap, sNx_ap, sBrk_ap, sCnt_ap, sSeq_ap, sIte_ap, sDrop_ap, sFrz_ap, sAug_ap, iRange1_ap, iRange2_ap, iSeq_ap, sFor_ap, sLc_ap, R.toG_ok, ↓R.bind_bnd, bnd_ok, ↓R.bd_bdn, bdn_ok, ↓R.toF_tof, tof_ok, ↓F.seq_sqn, sqn_nx, sqn_ret, sqn_cnt, sqn_brk, ↓F.turn_trn, trn_nx, trn_ret, trn_cnt, trn_brk, F.end_nx, F.end_ret, ↓br_true, br_true, ↓br_false, br_false, Dbr, Dneg, Dtst, opt_some, dAdd_int, dSub_int, dLt_int, dLe_int, dGt_int, dGe_int, dEq_int, dNe_int, dEq_bl, dNe_bl, dMul_cm, dMod_pos, dDiv_pos, dAbs_int, dMax2_int, dMin2_int, dInt_int, dInt_bl, dIx_tup, dIx_lst, dIx_seq, dLen_tup, dLen_lst, dLen_seq, atI_0, atI_1, atI_2, atI_3, List.map_cons, List.map_nil, List.length_cons, List.length_nil, List.replicate_succ, List.replicate_zero, List.cons_append, List.nil_append, List.getElem?_cons_zero, List.getElem?_cons_succ, List.set_cons_zero, List.set_cons_succ, Nat.reduceAdd, Nat.reduceSub, Nat.zero_add, Nat.add_zero, Nat.sub_self, Nat.reduceMul, mostL_def, Nat.reduceLeDiff, Nat.reduceLT, ite_true, ite_false, if_true, if_false, ↓reduceIte, reduceIte, ↓br_ite, Bool.false_eq_true, reduceCtorEq, Bool.not_true, Bool.not_false, decide_true, decide_false, Int.cast_ofNat_Int, Int.reduceBEq, Int.reduceAdd, Int.reduceSub, Int.reduceMul, Int.reduceNeg, Int.reduceLT, Int.reduceLE, Int.reduceMod, Int.reduceDiv, sMeth1_ap, sSl_ap, sRev_ap, oNo_ap, oPart_ap, sDict0_ap, sSetL_ap, le, e1, e2, lg, ht, ht0]
theorem bf_least_all {k : Nat} {a b c A B C : Int} {h : Ph} (f : Fm k a b c) (hk : k ≤ 250) (x : Rdc a b c A B C) : ∃ p q r s, f__law_bf_least [T3 a b c] h = .ok (.tup [T3 A B C, T4 p q r s]) h ∧ Rst k a b c A B C p q r s := by
  obtain ⟨e1, h1, q1, rfl, A', B', C', p, q, r, s, o1, o4, o5, rfl, y, l⟩ := for_brk (g := gNm 1) (f := l__law_bf_least_1)
    (fun m e h' => h' = h ∧ ∃ A B C p q r s o1 o4 o5, e = [some (T3 a b c), o1, some (T3 A B C), some (T4 p q r s), o4, o5] ∧ Rst k a b c A B C p q r s ∧ m = rnu A B C)
    (fun e h' => h' = h ∧ ∃ A B C p q r s o1 o4 o5, e = [some (T3 a b c), o1, some (T3 A B C), some (T4 p q r s), o4, o5] ∧ Rst k a b c A B C p q r s ∧ Lst A B C = true)
    (by
      rintro m z e h' ⟨rfl, A, B, C, p, q, r, s, o1, o4, o5, rfl, y, rfl⟩
      refine ⟨_, _, rfl, ?_⟩
      cases l : Lst A B C with
      | true =>
        refine .inl ⟨[some (T3 a b c), some z, some (T3 A B C), some (T4 p q r s), o4, o5], h', ?_, rfl, A, B, C, p, q, r, s, some z, o4, o5, rfl, y, l⟩
        have le := bf_least_ok (a := A) (b := B) (c := C) (h := h')
        rw [l] at le
        show l__law_bf_least_1 [some (T3 a b c), some z, some (T3 A B C), some (T4 p q r s), o4, o5] h' = _
        unfold l__law_bf_least_1
        simp (maxSteps := 4000000) (dsimp := false) (disch := first | assumption | decide | omega | walk_at "cm") only [runDef_ap, sVar_ap, sC_ap, sBin_ap, sNeg_ap, sAnd_ap, sOr_ap, sNot_ap, sIf_ap, sTst_ap, qAnd_ap, qOr_ap, qNot_ap, qYes_ap, sChain_ap, sChain3_ap, sNil_ap, sCons_ap, sTup_ap, sLst_ap, sLstM_ap, sCall_ap, g1_ap, g2_ap, sFn_ap, sAsg_ap, gNm_ap, gTp_ap, gConsS_ap, gNilS_ap, sPar_ap, sPar3_ap, sRet_ap, sRetN_ap, sNx_ap, sBrk_ap, sCnt_ap, sSeq_ap, sIte_ap, sDrop_ap, sFrz_ap, sAug_ap, iRange1_ap, iRange2_ap, iSeq_ap, sFor_ap, sLc_ap, R.toG_ok, ↓R.bind_bnd, bnd_ok, ↓R.bd_bdn, bdn_ok, ↓R.toF_tof, tof_ok, ↓F.seq_sqn, sqn_nx, sqn_ret, sqn_cnt, sqn_brk, ↓F.turn_trn, trn_nx, trn_ret, trn_cnt, trn_brk, F.end_nx, F.end_ret, ↓br_true, br_true, ↓br_false, br_false, Dbr, Dneg, Dtst, opt_some, dAdd_int, dSub_int, dLt_int, dLe_int, dGt_int, dGe_int, dEq_int, dNe_int, dEq_bl, dNe_bl, dMul_cm, dMod_pos, dDiv_pos, dAbs_int, dMax2_int, dMin2_int, dInt_int, dInt_bl, dIx_tup, dIx_lst, dIx_seq, dLen_tup, dLen_lst, dLen_seq, atI_0, atI_1, atI_2, atI_3, List.map_cons, List.map_nil, List.length_cons, List.length_nil, List.replicate_succ, List.replicate_zero, List.cons_append, List.nil_append, List.getElem?_cons_zero, List.getElem?_cons_succ, List.set_cons_zero, List.set_cons_succ, Nat.reduceAdd, Nat.reduceSub, Nat.zero_add, Nat.add_zero, Nat.sub_self, Nat.reduceMul, mostL_def, Nat.reduceLeDiff, Nat.reduceLT, ite_true, ite_false, if_true, if_false, ↓reduceIte, reduceIte, ↓br_ite, Bool.false_eq_true, reduceCtorEq, Bool.not_true, Bool.not_false, decide_true, decide_false, Int.cast_ofNat_Int, Int.reduceBEq, Int.reduceAdd, Int.reduceSub, Int.reduceMul, Int.reduceNeg, Int.reduceLT, Int.reduceLE, Int.reduceMod, Int.reduceDiv, sMeth1_ap, sSl_ap, sRev_ap, oNo_ap, oPart_ap, sDict0_ap, sSetL_ap, le]
      | false =>
        obtain ⟨A', B', C', p', q', r', s', o4', o5', st, y, lt⟩ := bfl_step (d := some (T3 a b c)) (o1 := some z) (o4 := o4) (o5 := o5) (h := h') f hk y l
        exact .inr ⟨_, _, _, .inl st, lt, rfl, A', B', C', p', q', r', s', some z, o4', o5', rfl, y, rfl⟩)
    (rangeD 0 4000) (rnu a b c) [some (T3 a b c), none, some (T3 a b c), some (T4 1 0 0 1), none, none] h
    (by
      have h1 := rnu_le (A := a) (B := b) (C := c)
      have h2 := log_lt (f.sa.mono hk).lt
      rw [rangeD_len]
      omega)
    ⟨rfl, a, b, c, 1, 0, 0, 1, none, none, none, rfl, Rst.one f, rfl⟩
  obtain ⟨rfl, rfl, rfl⟩ := x.u A' B' C' p q r s y.det y.eA y.eB y.eC l
  refine ⟨p, q, r, s, ?_, y⟩
  have r4 := rng_ok (n := 4000) (h := h1) (by decide) (by decide)
  rw [show (4000 : Int).toNat = 4000 from rfl] at r4
  unfold f__law_bf_least
  simp (maxSteps := 4000000) (dsimp := false) (disch := first | assumption | decide | omega | walk_at "cm") only [runDef_ap, sVar_ap, sC_ap, sBin_ap, sNeg_ap, sAnd_ap, sOr_ap, sNot_ap, sIf_ap, sTst_ap, qAnd_ap, qOr_ap, qNot_ap, qYes_ap, sChain_ap, sChain3_ap, sNil_ap, sCons_ap, sTup_ap, sLst_ap, sLstM_ap, sCall_ap, g1_ap, g2_ap, sFn_ap, sAsg_ap, gNm_ap, gTp_ap, gConsS_ap, gNilS_ap, sPar_ap, sPar3_ap, sRet_ap, sRetN_ap, sNx_ap, sBrk_ap, sCnt_ap, sSeq_ap, sIte_ap, sDrop_ap, sFrz_ap, sAug_ap, iRange1_ap, iRange2_ap, iSeq_ap, sFor_ap, sLc_ap, R.toG_ok, ↓R.bind_bnd, bnd_ok, ↓R.bd_bdn, bdn_ok, ↓R.toF_tof, tof_ok, ↓F.seq_sqn, sqn_nx, sqn_ret, sqn_cnt, sqn_brk, ↓F.turn_trn, trn_nx, trn_ret, trn_cnt, trn_brk, F.end_nx, F.end_ret, ↓br_true, br_true, ↓br_false, br_false, Dbr, Dneg, Dtst, opt_some, dAdd_int, dSub_int, dLt_int, dLe_int, dGt_int, dGe_int, dEq_int, dNe_int, dEq_bl, dNe_bl, dMul_cm, dMod_pos, dDiv_pos, dAbs_int, dMax2_int, dMin2_int, dInt_int, dInt_bl, dIx_tup, dIx_lst, dIx_seq, dLen_tup, dLen_lst, dLen_seq, atI_0, atI_1, atI_2, atI_3, List.map_cons, List.map_nil, List.length_cons, List.length_nil, List.replicate_succ, List.replicate_zero, List.cons_append, List.nil_append, List.getElem?_cons_zero, List.getElem?_cons_succ, List.set_cons_zero, List.set_cons_succ, Nat.reduceAdd, Nat.reduceSub, Nat.zero_add, Nat.add_zero, Nat.sub_self, Nat.reduceMul, mostL_def, Nat.reduceLeDiff, Nat.reduceLT, ite_true, ite_false, if_true, if_false, ↓reduceIte, reduceIte, ↓br_ite, Bool.false_eq_true, reduceCtorEq, Bool.not_true, Bool.not_false, decide_true, decide_false, Int.cast_ofNat_Int, Int.reduceBEq, Int.reduceAdd, Int.reduceSub, Int.reduceMul, Int.reduceNeg, Int.reduceLT, Int.reduceLE, Int.reduceMod, Int.reduceDiv, sMeth1_ap, sSl_ap, sRev_ap, oNo_ap, oPart_ap, sDict0_ap, sSetL_ap, r4, Int.reduceToNat, q1]
/-! ### a list that is made -/
theorem Dr.put {d m : Nat} {h h' : Ph} (a : Dr d h h') (hd : d < h.length) (hm : h.length ≤ m) (o : PO) : Dr d h (h'.set m o) := by
  refine ⟨?_, by rw [List.length_set]; exact a.len, fun k hk hl => ?_⟩
  · obtain ⟨l, x, t, e⟩ := a.dc
    exact ⟨l, x, t, by rw [List.getElem?_set_ne (by omega)]; exact e⟩
  · rw [List.getElem?_set_ne (by omega)]
    exact a.keep k hk hl
/-- the dice at d, a list of things that are P at m, behind h -/
structure Mk (d m : Nat) (P : D → Prop) (k : Nat) (h h' : Ph) : Prop where
  dr : Dr d h h'
  hd : d < h.length
  hm : h.length ≤ m
  ob : ∃ ys, h'[m]? = some (.lst ys) ∧ (∀ y ∈ ys, P y) ∧ ys.length ≤ k
theorem Mk.mono {d m k j : Nat} {P : D → Prop} {h h' : Ph} (x : Mk d m P k h h') (hk : k ≤ j) : Mk d m P j h h' := by
  obtain ⟨ys, e, p, l⟩ := x.ob
  exact ⟨x.dr, x.hd, x.hm, ys, e, p, by omega⟩
theorem Mk.dice {d m k : Nat} {P : D → Prop} {h h' h2 : Ph} (x : Mk d m P k h h') (y : Dr d h' h2) : Mk d m P k h h2 := by
  obtain ⟨ys, e, p, l⟩ := x.ob
  have hl := (List.getElem?_eq_some_iff.mp e).1
  exact ⟨x.dr.trans y, x.hd, x.hm, ys, by rw [y.keep m (by have := x.hd; have := x.hm; omega) hl]; exact e, p, l⟩
theorem Mk.app {d m k : Nat} {P : D → Prop} {h h' : Ph} (x : Mk d m P k h h') (hk : k < 1000000) {v : D} (hv : P v) : ∃ h2, dAppend (.ref m) v h' = .ok .non h2 ∧ Mk d m P (k + 1) h h2 := by
  obtain ⟨ys, e, p, l⟩ := x.ob
  have hl := (List.getElem?_eq_some_iff.mp e).1
  refine ⟨h'.set m (.lst (ys ++ [v])), ?_, x.dr.put x.hd x.hm _, x.hd, x.hm, ys ++ [v], List.getElem?_set_self hl, fun y hy => ?_, by rw [List.length_append, List.length_singleton]; omega⟩
  · unfold dAppend onLst
    simp only [e]
    rw [if_pos (by unfold mostL; omega)]
  · rcases List.mem_append.mp hy with q | q
    · exact p y q
    · rw [List.mem_singleton.mp q]; exact hv
theorem Mk.ls {d m k : Nat} {P : D → Prop} {h h' : Ph} (x : Mk d m P k h h') : ∃ ys, lsOf (.ref m) h' = some ys := by
  obtain ⟨ys, e, p, l⟩ := x.ob
  exact ⟨ys, by unfold lsOf; simp only [e]⟩
theorem Mk.frz {d m k : Nat} {P : D → Prop} {h h' : Ph} (x : Mk d m P k h h') : ∃ ys h2, frzD (.ref m) h' = (.lst ys, h2) ∧ (∀ y ∈ ys, P y) ∧ ys.length ≤ k ∧ Dr d h h2 := by
  obtain ⟨ys, e, p, l⟩ := x.ob
  exact ⟨ys, h'.set m .dead, by unfold frzD; simp only [e], p, l, x.dr.put x.hd x.hm _⟩
theorem Mk.new {d : Nat} {P : D → Prop} {h : Ph} (hd : Dc h d) {ys : List D} (p : ∀ y ∈ ys, P y) : Mk d h.length P ys.length h (h ++ [.lst ys]) := by
  obtain ⟨l, x, t, e⟩ := id hd
  exact ⟨(Dr.refl hd).push _, (List.getElem?_eq_some_iff.mp e).1, Nat.le_refl _, ys, by simp, p, Nat.le_refl _⟩
end Pd

namespace L43
open PySem L2 Evl Pd
def c__law_is_right_matrix_1 : SE := sLc (iSeq (sVar 2)) (gNm 3) (qYes) (sAnd (sCall (g2 dIsi) (sCons (sVar 3) (sCons (sC (.ty "int")) (sNil)))) (sNot (sCall (g2 dIsi) (sCons (sVar 3) (sCons (sC (.ty "bool")) (sNil)))))) [3]
def m__law_is_right_matrix : Fn := runDef 4 (sSeq (sIte (qOr (qNot (sTst (sCall (g2 dIsi) (sCons (sVar 2) (sCons (sC (.ty "tuple")) (sNil)))))) (sTst (sBin dNe (sCall (g1 dLen) (sCons (sVar 2) (sNil))) (sC (.int 4))))) (sRet (sC (.bl false))) (sNx)) (sSeq (sIte (qNot (sTst (sCall (g1 dAll) (sCons (c__law_is_right_matrix_1) (sNil))))) (sRet (sC (.bl false))) (sNx)) (sRet (sAnd (sBin dEq (sBin dSub (sBin dMul (sBin dIx (sVar 2) (sC (.int 0))) (sBin dIx (sVar 2) (sC (.int 3)))) (sBin dMul (sBin dIx (sVar 2) (sC (.int 1))) (sBin dIx (sVar 2) (sC (.int 2))))) (sC (.int 1))) (sBin dEq (sFn f__law_bf_led (sCons (sVar 0) (sCons (sVar 2) (sNil)))) (sVar 1))))))
def c__law_near_1 : SE := sLc (iSeq (sVar 1)) (gNm 6) (qYes) (sNeg (sVar 6)) [6]
def l__law_near_2 : SS := sDrop (sMeth1 dAppend (sVar 3) (sFn f__law_bf_product (sCons (sVar 1) (sCons (sVar 4) (sNil)))))
def l__law_near_3 : SS := sDrop (sMeth1 dAppend (sVar 3) (sFn f__law_bf_product (sCons (sVar 1) (sCons (sVar 4) (sNil)))))
def l__law_near_4 : SS := sDrop (sMeth1 dAppend (sVar 3) (sBin dAdd (sBin dAdd (sSl dSl (sVar 1) (oNo) (oPart (sVar 5))) (sTup (sCons (sVar 6) (sNil)))) (sSl dSl (sVar 1) (oPart (sBin dAdd (sVar 5) (sC (.int 1)))) (oNo))))
def m__law_near : Fn := runDef 7 (sSeq (sAsg (sLstM (sCons (sVar 1) (sCons (sCall (g1 dList) (sCons (sVar 1) (sNil))) (sCons (sSl dSl (sVar 1) (oNo) (oPart (sC (.int 3)))) (sCons (sBin dAdd (sVar 1) (sTup (sCons (sC (.int 0)) (sNil)))) (sCons (sCall (g1 dTuple) (sCons (c__law_near_1) (sNil))) (sCons (sC .non) (sCons (sC (.int 0)) (sCons (sTup (sNil)) (sCons (sTup (sCons (sC (.int 1)) (sCons (sC (.int 0)) (sCons (sC (.int 0)) (sCons (sC (.int 1)) (sNil)))))) (sNil))))))))))) (gNm 3)) (sSeq (sFor (iSeq (sFn f__law_bf_keepers (sCons (sVar 2) (sNil)))) (gNm 4) (l__law_near_2)) (sSeq (sFor (iSeq (sLst (sCons (sTup (sCons (sC (.int 1)) (sCons (sC (.int 1)) (sCons (sC (.int 0)) (sCons (sC (.int 1)) (sNil)))))) (sCons (sTup (sCons (sC (.int 0)) (sCons (sC (.int (-1))) (sCons (sC (.int 1)) (sCons (sC (.int 0)) (sNil)))))) (sCons (sTup (sCons (sC (.int (-1))) (sCons (sC (.int 0)) (sCons (sC (.int 0)) (sCons (sC (.int 1)) (sNil)))))) (sCons (sTup (sCons (sC (.int 0)) (sCons (sC (.int 1)) (sCons (sC (.int 1)) (sCons (sC (.int 0)) (sNil)))))) (sCons (sFn f__law_bf_matrix (sCons (sVar 0) (sCons (sC (.int 3)) (sNil)))) (sNil)))))))) (gNm 4) (l__law_near_3)) (sSeq (sAsg (sFn f__law_roll (sCons (sVar 0) (sCons (sC (.int 4)) (sNil)))) (gNm 5)) (sSeq (sFor (iSeq (sLst (sCons (sBin dAdd (sBin dIx (sVar 1) (sVar 5)) (sC (.int 1))) (sCons (sBin dSub (sBin dIx (sVar 1) (sVar 5)) (sC (.int 1))) (sCons (sCall (g1 dStr) (sCons (sBin dIx (sVar 1) (sVar 5)) (sNil))) (sCons (sC .non) (sCons (sC (.bl true)) (sNil)))))))) (gNm 6) (l__law_near_4)) (sRet (sFrz (sVar 3))))))))
def l__law_right_1 : SS := sIte (sTst (sBin dNe (sFn f_is_reducing (sCons (sVar 4) (sCons (sVar 6) (sNil)))) (sFn m__law_is_right_matrix (sCons (sVar 4) (sCons (sVar 2) (sCons (sVar 6) (sNil))))))) (sRet (sC (.bl false))) (sNx)
def l__law_right_2 : SS := sSeq (sAsg (sFn f__law_bf_led (sCons (sVar 1) (sCons (sFn f__law_bf_matrix (sCons (sVar 0) (sCons (sC (.int 9)) (sNil)))) (sNil)))) (gNm 4)) (sSeq (sAsg (sFn f_reducing_matrix (sCons (sVar 4) (sNil))) (gNm 5)) (sSeq (sIte (qOr (sTst (sBin dNe (sFn f_reduced_form (sCons (sVar 4) (sNil))) (sVar 2))) (qNot (sTst (sFn m__law_is_right_matrix (sCons (sVar 4) (sCons (sVar 2) (sCons (sVar 5) (sNil)))))))) (sRet (sC (.bl false))) (sNx)) (sFor (iSeq (sFn m__law_near (sCons (sVar 0) (sCons (sVar 5) (sCons (sVar 2) (sNil)))))) (gNm 6) (l__law_right_1))))
def m__law_right : Fn := runDef 7 (sSeq (sAsg (sFn f__law_bf_drawn (sCons (sVar 0) (sCons (sFn f__law_pick (sCons (sVar 0) (sCons (sLst (sCons (sC (.int 3)) (sCons (sC (.int 6)) (sCons (sC (.int 30)) (sCons (sC (.int (10000000))) (sNil)))))) (sNil)))) (sNil)))) (gNm 1)) (sSeq (sAsg (sBin dIx (sFn f__law_bf_least (sCons (sVar 1) (sNil))) (sC (.int 0))) (gNm 2)) (sSeq (sIte (qOr (sTst (sBin dNe (sFn f_reduced_form (sCons (sVar 1) (sNil))) (sVar 2))) (qOr (qNot (sTst (sFn f_is_reduced (sCons (sVar 2) (sNil))))) (sTst (sBin dNe (sFn f_reduced_form (sCons (sVar 2) (sNil))) (sVar 2))))) (sRet (sC (.bl false))) (sNx)) (sSeq (sFor (iRange1 (sCons (sC (.int 3)) (sNil))) (gNm 3) (l__law_right_2)) (sRet (sFn f_is_reducing (sCons (sVar 1) (sCons (sBin dIx (sFn f__law_bf_least (sCons (sVar 1) (sNil))) (sC (.int 1))) (sNil)))))))))
def l_law_1 : SS := sSeq (sAsg (sFn f__law_dice (sCons (sVar 0) (sCons (sVar 1) (sNil)))) (gNm 3)) (sIte (qOr (qNot (sTst (sFn m__law_right (sCons (sVar 3) (sNil))))) (qNot (sTst (sFn m__law_right (sCons (sVar 3) (sNil)))))) (sRet (sC (.bl false))) (sNx))
def m_law : Fn := runDef 4 (sSeq (sFor (iRange1 (sCons (sCall (g2 dMax2) (sCons (sC (.int 1)) (sCons (sCall (g2 dMin2) (sCons (sC (.int 3)) (sCons (sCall (g1 dLen) (sCons (sVar 0) (sNil))) (sNil)))) (sNil)))) (sNil))) (gNm 1) (l_law_1)) (sSeq (sAsg (sLst (sCons (sFn f_reduced_form (sCons (sTup (sCons (sC (.int 6)) (sCons (sC (.int 13)) (sCons (sC (.int 8)) (sNil))))) (sNil))) (sCons (sFn f_reduced_form (sCons (sTup (sCons (sC (.int 3)) (sCons (sC (.int (-5))) (sCons (sC (.int 4)) (sNil))))) (sNil))) (sCons (sFn f_reduced_form (sCons (sTup (sCons (sC (.int 2)) (sCons (sC (.int (-2))) (sCons (sC (.int 3)) (sNil))))) (sNil))) (sCons (sFn f_reduced_form (sCons (sTup (sCons (sC (.int 3)) (sCons (sC (.int (-1))) (sCons (sC (.int 3)) (sNil))))) (sNil))) (sNil)))))) (gNm 2)) (sRet (sAnd (sBin dEq (sVar 2) (sLst (sCons (sTup (sCons (sC (.int 1)) (sCons (sC (.int 1)) (sCons (sC (.int 6)) (sNil))))) (sCons (sTup (sCons (sC (.int 2)) (sCons (sC (.int (-1))) (sCons (sC (.int 3)) (sNil))))) (sCons (sTup (sCons (sC (.int 2)) (sCons (sC (.int 2)) (sCons (sC (.int 3)) (sNil))))) (sCons (sTup (sCons (sC (.int 3)) (sCons (sC (.int 1)) (sCons (sC (.int 3)) (sNil))))) (sNil))))))) (sFn f_is_reducing (sCons (sTup (sCons (sC (.int 1)) (sCons (sC (.int 5)) (sCons (sC (.int 12)) (sNil))))) (sCons (sTup (sCons (sC (.int (-1))) (sCons (sC (.int 2)) (sCons (sC (.int 0)) (sCons (sC (.int (-1))) (sNil)))))) (sNil))))))))
/-- what is left to be shown: the law's meaning is True -/
def Left : Prop := ∀ ns : List Int, ns.length ≤ 63 → ∃ h, m_law [.seq (ns.map D.int)] [] = .ok (.bl true) h
end L43

/-! K43b: the law of reducing -/
namespace L43
open PySem L2 Evl Pd
local macro_rules | `(tactic| walk_at "sm") => `(tactic| first | assumption | exact Sm.lit | exact Sm.mul (by walk_at "sm") (by walk_at "sm") | exact Sm.add (by walk_at "sm") (by walk_at "sm") | exact Sm.sub (by walk_at "sm") (by walk_at "sm") | exact Sm.neg (by walk_at "sm"))
local macro_rules | `(tactic| walk_at "cm") => `(tactic| ((with_reducible show CM _ _); first | assumption | exact CM.left (by decide) | exact CM.right (by decide) | exact CM.left (by omega) | exact CM.right (by omega) | exact CM.of (by walk_at "sm") (by walk_at "sm") (by decide)))
/-- the matrices with entries -1, 0, 1 and the determinant 1 -/
abbrev smallM : List D := [T4 (-1) (-1) (0) (-1), T4 (-1) (-1) (1) (0), T4 (-1) (0) (-1) (-1), T4 (-1) (0) (0) (-1), T4 (-1) (0) (1) (-1), T4 (-1) (1) (-1) (0), T4 (-1) (1) (0) (-1), T4 (0) (-1) (1) (-1), T4 (0) (-1) (1) (0), T4 (0) (-1) (1) (1), T4 (0) (1) (-1) (-1), T4 (0) (1) (-1) (0), T4 (0) (1) (-1) (1), T4 (1) (-1) (0) (1), T4 (1) (-1) (1) (0), T4 (1) (0) (-1) (1), T4 (1) (0) (0) (1), T4 (1) (0) (1) (1), T4 (1) (1) (-1) (0), T4 (1) (1) (0) (1)]
theorem keepers_found {f : D} {h : Ph} : forGo (gNm 1) l__law_bf_keepers_4 [.int (-1), .int 0, .int 1] [some f, none, some (.lst []), some (.lst [.int (-1), .int 0, .int 1]), none, none, none, none] h = .nx [some f, some (.int 1), some (.lst smallM), some (.lst [.int (-1), .int 0, .int 1]), some (.int 1), some (.int 1), none, none] h := by
  kernel_rfl
theorem small_mx : ∀ x ∈ smallM, ∃ p q r s, x = T4 p q r s ∧ Mx 4 p q r s := by
  intro x hx
  unfold smallM at hx
  simp only [List.mem_cons, List.not_mem_nil, or_false] at hx
  rcases hx with rfl | rfl | rfl | rfl | rfl | rfl | rfl | rfl | rfl | rfl | rfl | rfl | rfl | rfl | rfl | rfl | rfl | rfl | rfl | rfl
  all_goals exact ⟨_, _, _, _, rfl, ⟨by decide⟩, ⟨by decide⟩, ⟨by decide⟩, ⟨by decide⟩, by decide⟩
theorem bf_keepers_ok {a b c : Int} {h : Ph} (sa : Sm 600 a) (sb : Sm 600 b) (sc : Sm 600 c) : ∃ xs, f__law_bf_keepers [T3 a b c] h = .ok (.lst xs) h ∧ (∀ x ∈ xs, ∃ p q r s, x = T4 p q r s ∧ Mx 4 p q r s) ∧ xs.length ≤ 20 := by
  obtain ⟨ys, hc, k2, k3⟩ : ∃ ys, c__law_bf_keepers_5 [some (T3 a b c), some (.int 1), some (.lst smallM), some (.lst [.int (-1), .int 0, .int 1]), some (.int 1), some (.int 1), none, none] h = .ok (.lst ys) h ∧ (∀ y ∈ ys, ∃ p q r s, y = T4 p q r s ∧ Mx 4 p q r s) ∧ ys.length ≤ smallM.length :=
    lc_ex (xs := smallM) (fun y => ∃ p q r s, y = T4 p q r s ∧ Mx 4 p q r s) rfl (show 20 ≤ mostL by decide) (by
      intro x hx
      obtain ⟨p, q, r, s, rfl, m⟩ := small_mx x hx
      have e := bf_led_ok (h := h) sa sb sc (m.mono (by decide))
      exact ⟨(lA a b c p r == a && (lB a b c p q r s == b && (lA a b c q s == c && true))), by simp (maxSteps := 4000000) (dsimp := false) (disch := first | assumption | decide | omega | walk_at "cm") only [runDef_ap, sVar_ap, sC_ap, sBin_ap, sNeg_ap, sAnd_ap, sOr_ap, sNot_ap, sIf_ap, sTst_ap, qAnd_ap, qOr_ap, qNot_ap, qYes_ap, sChain_ap, sChain3_ap, sNil_ap, sCons_ap, sTup_ap, sLst_ap, sLstM_ap, sCall_ap, g1_ap, g2_ap, sFn_ap, sAsg_ap, gNm_ap, gTp_ap, gConsS_ap, gNilS_ap, sPar_ap, sPar3_ap, sRet_ap, sRetN_ap, sNx_ap, sBrk_ap, sCnt_ap, sSeq_ap, sIte_ap, sDrop_ap, sFrz_ap, sAug_ap, iRange1_ap, iRange2_ap, iSeq_ap, sFor_ap, sLc_ap, R.toG_ok, ↓R.bind_bnd, bnd_ok, ↓R.bd_bdn, bdn_ok, ↓R.toF_tof, tof_ok, ↓F.seq_sqn, sqn_nx, sqn_ret, sqn_cnt, sqn_brk, ↓F.turn_trn, trn_nx, trn_ret, trn_cnt, trn_brk, F.end_nx, F.end_ret, ↓br_true, br_true, ↓br_false, br_false, Dbr, Dneg, Dtst, opt_some, dAdd_int, dSub_int, dLt_int, dLe_int, dGt_int, dGe_int, dEq_int, dNe_int, dEq_bl, dNe_bl, dMul_cm, dMod_pos, dDiv_pos, dAbs_int, dMax2_int, dMin2_int, dInt_int, dInt_bl, dIx_tup, dIx_lst, dIx_seq, dLen_tup, dLen_lst, dLen_seq, atI_0, atI_1, atI_2, atI_3, List.map_cons, List.map_nil, List.length_cons, List.length_nil, List.replicate_succ, List.replicate_zero, List.cons_append, List.nil_append, List.getElem?_cons_zero, List.getElem?_cons_succ, List.set_cons_zero, List.set_cons_succ, Nat.reduceAdd, Nat.reduceSub, Nat.zero_add, Nat.add_zero, Nat.sub_self, Nat.reduceMul, mostL_def, Nat.reduceLeDiff, Nat.reduceLT, ite_true, ite_false, if_true, if_false, ↓reduceIte, reduceIte, ↓br_ite, Bool.false_eq_true, reduceCtorEq, Bool.not_true, Bool.not_false, decide_true, decide_false, Int.cast_ofNat_Int, Int.reduceBEq, Int.reduceAdd, Int.reduceSub, Int.reduceMul, Int.reduceNeg, Int.reduceLT, Int.reduceLE, Int.reduceMod, Int.reduceDiv, sMeth1_ap, sSl_ap, sRev_ap, oNo_ap, oPart_ap, sDict0_ap, sSetL_ap, e, wipe_cons, wipe_nil, dEq_T3], fun _ => ⟨T4 p q r s, rfl, p, q, r, s, rfl, m⟩⟩)
  refine ⟨ys, ?_, k2, k3⟩
  have hk := keepers_found (f := T3 a b c) (h := h)
  unfold f__law_bf_keepers
  simp (maxSteps := 4000000) (dsimp := false) (disch := first | assumption | decide | omega | walk_at "cm") only [runDef_ap, sVar_ap, sC_ap, sBin_ap, sNeg_ap, sAnd_ap, sOr_ap, sNot_ap, sIf_ap, sTst_ap, qAnd_ap, qOr_ap, qNot_ap, qYes_ap, sChain_ap, sChain3_ap, sNil_ap, sCons_ap, sTup_ap, sLst_ap, sLstM_ap, sCall_ap, g1_ap, g2_ap, sFn_ap, sAsg_ap, gNm_ap, gTp_ap, gConsS_ap, gNilS_ap, sPar_ap, sPar3_ap, sRet_ap, sRetN_ap, sNx_ap, sBrk_ap, sCnt_ap, sSeq_ap, sIte_ap, sDrop_ap, sFrz_ap, sAug_ap, iRange1_ap, iRange2_ap, iSeq_ap, sFor_ap, sLc_ap, R.toG_ok, ↓R.bind_bnd, bnd_ok, ↓R.bd_bdn, bdn_ok, ↓R.toF_tof, tof_ok, ↓F.seq_sqn, sqn_nx, sqn_ret, sqn_cnt, sqn_brk, ↓F.turn_trn, trn_nx, trn_ret, trn_cnt, trn_brk, F.end_nx, F.end_ret, ↓br_true, br_true, ↓br_false, br_false, Dbr, Dneg, Dtst, opt_some, dAdd_int, dSub_int, dLt_int, dLe_int, dGt_int, dGe_int, dEq_int, dNe_int, dEq_bl, dNe_bl, dMul_cm, dMod_pos, dDiv_pos, dAbs_int, dMax2_int, dMin2_int, dInt_int, dInt_bl, dIx_tup, dIx_lst, dIx_seq, dLen_tup, dLen_lst, dLen_seq, atI_0, atI_1, atI_2, atI_3, List.map_cons, List.map_nil, List.length_cons, List.length_nil, List.replicate_succ, List.replicate_zero, List.cons_append, List.nil_append, List.getElem?_cons_zero, List.getElem?_cons_succ, List.set_cons_zero, List.set_cons_succ, Nat.reduceAdd, Nat.reduceSub, Nat.zero_add, Nat.add_zero, Nat.sub_self, Nat.reduceMul, mostL_def, Nat.reduceLeDiff, Nat.reduceLT, ite_true, ite_false, if_true, if_false, ↓reduceIte, reduceIte, ↓br_ite, Bool.false_eq_true, reduceCtorEq, Bool.not_true, Bool.not_false, decide_true, decide_false, Int.cast_ofNat_Int, Int.reduceBEq, Int.reduceAdd, Int.reduceSub, Int.reduceMul, Int.reduceNeg, Int.reduceLT, Int.reduceLE, Int.reduceMod, Int.reduceDiv, sMeth1_ap, sSl_ap, sRev_ap, oNo_ap, oPart_ap, sDict0_ap, sSetL_ap, iSeq_at, hk, hc]
/-! ### what is told alike -/
section
variable {k : Nat} {a b c A B C : Int}
def Good (a b c A B C : Int) (v : D) : Prop := ∀ h : Ph, ∃ t, f_is_reducing [T3 a b c, v] h = .ok (.bl t) h ∧ m__law_is_right_matrix [T3 a b c, T3 A B C, v] h = .ok (.bl t) h
theorem right_ints {p q r s : Int} {h : Ph} (f : Fm k a b c) (hk : k ≤ 199) (sp : Sm 600 p) (sq : Sm 600 q) (sr : Sm 600 r) (ss : Sm 600 s) :
    m__law_is_right_matrix [T3 a b c, T3 A B C, T4 p q r s] h = .ok (.bl ((p * s - q * r == 1) && (lA a b c p r == A && (lB a b c p q r s == B && (lA a b c q s == C && true))))) h := by
  by_cases hd : p * s - q * r = 1
  · have e3 := bf_led_ok (h := h) (f.sa.mono (by omega : k ≤ 600)) (f.sb.mono (by omega)) (f.sc.mono (by omega)) ⟨sp, sq, sr, ss, hd⟩
    have hb : (p * s - q * r == 1) = true := beq_iff_eq.mpr hd
    unfold m__law_is_right_matrix c__law_is_right_matrix_1
    simp (maxSteps := 4000000) (dsimp := false) (disch := first | assumption | decide | omega | walk_at "cm") only [runDef_ap, sVar_ap, sC_ap, sBin_ap, sNeg_ap, sAnd_ap, sOr_ap, sNot_ap, sIf_ap, sTst_ap, qAnd_ap, qOr_ap, qNot_ap, qYes_ap, sChain_ap, sChain3_ap, sNil_ap, sCons_ap, sTup_ap, sLst_ap, sLstM_ap, sCall_ap, g1_ap, g2_ap, sFn_ap, sAsg_ap, gNm_ap, gTp_ap, gConsS_ap, gNilS_ap, sPar_ap, sPar3_ap, sRet_ap, sRetN_ap, sNx_ap, sBrk_ap, sCnt_ap, sSeq_ap, sIte_ap, sDrop_ap, sFrz_ap, sAug_ap, iRange1_ap, iRange2_ap, iSeq_ap, sFor_ap, sLc_ap, R.toG_ok, ↓R.bind_bnd, bnd_ok, ↓R.bd_bdn, bdn_ok, ↓R.toF_tof, tof_ok, ↓F.seq_sqn, sqn_nx, sqn_ret, sqn_cnt, sqn_brk, ↓F.turn_trn, trn_nx, trn_ret, trn_cnt, trn_brk, F.end_nx, F.end_ret, ↓br_true, br_true, ↓br_false, br_false, Dbr, Dneg, Dtst, opt_some, dAdd_int, dSub_int, dLt_int, dLe_int, dGt_int, dGe_int, dEq_int, dNe_int, dEq_bl, dNe_bl, dMul_cm, dMod_pos, dDiv_pos, dAbs_int, dMax2_int, dMin2_int, dInt_int, dInt_bl, dIx_tup, dIx_lst, dIx_seq, dLen_tup, dLen_lst, dLen_seq, atI_0, atI_1, atI_2, atI_3, List.map_cons, List.map_nil, List.length_cons, List.length_nil, List.replicate_succ, List.replicate_zero, List.cons_append, List.nil_append, List.getElem?_cons_zero, List.getElem?_cons_succ, List.set_cons_zero, List.set_cons_succ, Nat.reduceAdd, Nat.reduceSub, Nat.zero_add, Nat.add_zero, Nat.sub_self, Nat.reduceMul, mostL_def, Nat.reduceLeDiff, Nat.reduceLT, ite_true, ite_false, if_true, if_false, ↓reduceIte, reduceIte, ↓br_ite, Bool.false_eq_true, reduceCtorEq, Bool.not_true, Bool.not_false, decide_true, decide_false, Int.cast_ofNat_Int, Int.reduceBEq, Int.reduceAdd, Int.reduceSub, Int.reduceMul, Int.reduceNeg, Int.reduceLT, Int.reduceLE, Int.reduceMod, Int.reduceDiv, sMeth1_ap, sSl_ap, sRev_ap, oNo_ap, oPart_ap, sDict0_ap, sSetL_ap, isi_tup, kit_tuple_tuple, isi_int, kit_int_int, kit_int_bool, compGo_cons, compGo_nil, wipe_cons, wipe_nil, iSeq_at, dAll_lst, bls_cons, bls_nil, Option.map_some, List.all_cons, List.all_nil, id, Bool.and_true, e3, hb, dEq_T3, Bool.true_and]
  · have hb : (p * s - q * r == 1) = false := beq_eq_false_iff_ne.mpr hd
    unfold m__law_is_right_matrix c__law_is_right_matrix_1
    simp (maxSteps := 4000000) (dsimp := false) (disch := first | assumption | decide | omega | walk_at "cm") only [runDef_ap, sVar_ap, sC_ap, sBin_ap, sNeg_ap, sAnd_ap, sOr_ap, sNot_ap, sIf_ap, sTst_ap, qAnd_ap, qOr_ap, qNot_ap, qYes_ap, sChain_ap, sChain3_ap, sNil_ap, sCons_ap, sTup_ap, sLst_ap, sLstM_ap, sCall_ap, g1_ap, g2_ap, sFn_ap, sAsg_ap, gNm_ap, gTp_ap, gConsS_ap, gNilS_ap, sPar_ap, sPar3_ap, sRet_ap, sRetN_ap, sNx_ap, sBrk_ap, sCnt_ap, sSeq_ap, sIte_ap, sDrop_ap, sFrz_ap, sAug_ap, iRange1_ap, iRange2_ap, iSeq_ap, sFor_ap, sLc_ap, R.toG_ok, ↓R.bind_bnd, bnd_ok, ↓R.bd_bdn, bdn_ok, ↓R.toF_tof, tof_ok, ↓F.seq_sqn, sqn_nx, sqn_ret, sqn_cnt, sqn_brk, ↓F.turn_trn, trn_nx, trn_ret, trn_cnt, trn_brk, F.end_nx, F.end_ret, ↓br_true, br_true, ↓br_false, br_false, Dbr, Dneg, Dtst, opt_some, dAdd_int, dSub_int, dLt_int, dLe_int, dGt_int, dGe_int, dEq_int, dNe_int, dEq_bl, dNe_bl, dMul_cm, dMod_pos, dDiv_pos, dAbs_int, dMax2_int, dMin2_int, dInt_int, dInt_bl, dIx_tup, dIx_lst, dIx_seq, dLen_tup, dLen_lst, dLen_seq, atI_0, atI_1, atI_2, atI_3, List.map_cons, List.map_nil, List.length_cons, List.length_nil, List.replicate_succ, List.replicate_zero, List.cons_append, List.nil_append, List.getElem?_cons_zero, List.getElem?_cons_succ, List.set_cons_zero, List.set_cons_succ, Nat.reduceAdd, Nat.reduceSub, Nat.zero_add, Nat.add_zero, Nat.sub_self, Nat.reduceMul, mostL_def, Nat.reduceLeDiff, Nat.reduceLT, ite_true, ite_false, if_true, if_false, ↓reduceIte, reduceIte, ↓br_ite, Bool.false_eq_true, reduceCtorEq, Bool.not_true, Bool.not_false, decide_true, decide_false, Int.cast_ofNat_Int, Int.reduceBEq, Int.reduceAdd, Int.reduceSub, Int.reduceMul, Int.reduceNeg, Int.reduceLT, Int.reduceLE, Int.reduceMod, Int.reduceDiv, sMeth1_ap, sSl_ap, sRev_ap, oNo_ap, oPart_ap, sDict0_ap, sSetL_ap, isi_tup, kit_tuple_tuple, isi_int, kit_int_int, kit_int_bool, compGo_cons, compGo_nil, wipe_cons, wipe_nil, iSeq_at, dAll_lst, bls_cons, bls_nil, Option.map_some, List.all_cons, List.all_nil, id, Bool.and_true, hb, Bool.false_and]
theorem good_ints {p q r s : Int} (f : Fm k a b c) (hk : k ≤ 199) (x : Rdc a b c A B C) (sp : Sm 600 p) (sq : Sm 600 q) (sr : Sm 600 r) (ss : Sm 600 s) : Good a b c A B C (T4 p q r s) :=
  fun h => ⟨_, is_reducing_ok f hk x sp sq sr ss, right_ints f hk sp sq sr ss⟩
theorem good_mx {p q r s : Int} (f : Fm k a b c) (hk : k ≤ 199) (x : Rdc a b c A B C) (m : Mx 600 p q r s) : Good a b c A B C (T4 p q r s) := good_ints f hk x m.sp m.sq m.sr m.ss
theorem good_non (f : Fm k a b c) (hk : k ≤ 199) : Good a b c A B C .non := fun h => ⟨false, is_reducing_not f hk turn_non, by unfold m__law_is_right_matrix; simp (maxSteps := 4000000) (dsimp := false) (disch := first | assumption | decide | omega | walk_at "cm") only [runDef_ap, sVar_ap, sC_ap, sBin_ap, sNeg_ap, sAnd_ap, sOr_ap, sNot_ap, sIf_ap, sTst_ap, qAnd_ap, qOr_ap, qNot_ap, qYes_ap, sChain_ap, sChain3_ap, sNil_ap, sCons_ap, sTup_ap, sLst_ap, sLstM_ap, sCall_ap, g1_ap, g2_ap, sFn_ap, sAsg_ap, gNm_ap, gTp_ap, gConsS_ap, gNilS_ap, sPar_ap, sPar3_ap, sRet_ap, sRetN_ap, sNx_ap, sBrk_ap, sCnt_ap, sSeq_ap, sIte_ap, sDrop_ap, sFrz_ap, sAug_ap, iRange1_ap, iRange2_ap, iSeq_ap, sFor_ap, sLc_ap, R.toG_ok, ↓R.bind_bnd, bnd_ok, ↓R.bd_bdn, bdn_ok, ↓R.toF_tof, tof_ok, ↓F.seq_sqn, sqn_nx, sqn_ret, sqn_cnt, sqn_brk, ↓F.turn_trn, trn_nx, trn_ret, trn_cnt, trn_brk, F.end_nx, F.end_ret, ↓br_true, br_true, ↓br_false, br_false, Dbr, Dneg, Dtst, opt_some, dAdd_int, dSub_int, dLt_int, dLe_int, dGt_int, dGe_int, dEq_int, dNe_int, dEq_bl, dNe_bl, dMul_cm, dMod_pos, dDiv_pos, dAbs_int, dMax2_int, dMin2_int, dInt_int, dInt_bl, dIx_tup, dIx_lst, dIx_seq, dLen_tup, dLen_lst, dLen_seq, atI_0, atI_1, atI_2, atI_3, List.map_cons, List.map_nil, List.length_cons, List.length_nil, List.replicate_succ, List.replicate_zero, List.cons_append, List.nil_append, List.getElem?_cons_zero, List.getElem?_cons_succ, List.set_cons_zero, List.set_cons_succ, Nat.reduceAdd, Nat.reduceSub, Nat.zero_add, Nat.add_zero, Nat.sub_self, Nat.reduceMul, mostL_def, Nat.reduceLeDiff, Nat.reduceLT, ite_true, ite_false, if_true, if_false, ↓reduceIte, reduceIte, ↓br_ite, Bool.false_eq_true, reduceCtorEq, Bool.not_true, Bool.not_false, decide_true, decide_false, Int.cast_ofNat_Int, Int.reduceBEq, Int.reduceAdd, Int.reduceSub, Int.reduceMul, Int.reduceNeg, Int.reduceLT, Int.reduceLE, Int.reduceMod, Int.reduceDiv, sMeth1_ap, sSl_ap, sRev_ap, oNo_ap, oPart_ap, sDict0_ap, sSetL_ap, isi_non, kit_non_tuple]⟩
theorem good_int {i : Int} (f : Fm k a b c) (hk : k ≤ 199) : Good a b c A B C (.int i) := fun h => ⟨false, is_reducing_not f hk turn_int, by unfold m__law_is_right_matrix; simp (maxSteps := 4000000) (dsimp := false) (disch := first | assumption | decide | omega | walk_at "cm") only [runDef_ap, sVar_ap, sC_ap, sBin_ap, sNeg_ap, sAnd_ap, sOr_ap, sNot_ap, sIf_ap, sTst_ap, qAnd_ap, qOr_ap, qNot_ap, qYes_ap, sChain_ap, sChain3_ap, sNil_ap, sCons_ap, sTup_ap, sLst_ap, sLstM_ap, sCall_ap, g1_ap, g2_ap, sFn_ap, sAsg_ap, gNm_ap, gTp_ap, gConsS_ap, gNilS_ap, sPar_ap, sPar3_ap, sRet_ap, sRetN_ap, sNx_ap, sBrk_ap, sCnt_ap, sSeq_ap, sIte_ap, sDrop_ap, sFrz_ap, sAug_ap, iRange1_ap, iRange2_ap, iSeq_ap, sFor_ap, sLc_ap, R.toG_ok, ↓R.bind_bnd, bnd_ok, ↓R.bd_bdn, bdn_ok, ↓R.toF_tof, tof_ok, ↓F.seq_sqn, sqn_nx, sqn_ret, sqn_cnt, sqn_brk, ↓F.turn_trn, trn_nx, trn_ret, trn_cnt, trn_brk, F.end_nx, F.end_ret, ↓br_true, br_true, ↓br_false, br_false, Dbr, Dneg, Dtst, opt_some, dAdd_int, dSub_int, dLt_int, dLe_int, dGt_int, dGe_int, dEq_int, dNe_int, dEq_bl, dNe_bl, dMul_cm, dMod_pos, dDiv_pos, dAbs_int, dMax2_int, dMin2_int, dInt_int, dInt_bl, dIx_tup, dIx_lst, dIx_seq, dLen_tup, dLen_lst, dLen_seq, atI_0, atI_1, atI_2, atI_3, List.map_cons, List.map_nil, List.length_cons, List.length_nil, List.replicate_succ, List.replicate_zero, List.cons_append, List.nil_append, List.getElem?_cons_zero, List.getElem?_cons_succ, List.set_cons_zero, List.set_cons_succ, Nat.reduceAdd, Nat.reduceSub, Nat.zero_add, Nat.add_zero, Nat.sub_self, Nat.reduceMul, mostL_def, Nat.reduceLeDiff, Nat.reduceLT, ite_true, ite_false, if_true, if_false, ↓reduceIte, reduceIte, ↓br_ite, Bool.false_eq_true, reduceCtorEq, Bool.not_true, Bool.not_false, decide_true, decide_false, Int.cast_ofNat_Int, Int.reduceBEq, Int.reduceAdd, Int.reduceSub, Int.reduceMul, Int.reduceNeg, Int.reduceLT, Int.reduceLE, Int.reduceMod, Int.reduceDiv, sMeth1_ap, sSl_ap, sRev_ap, oNo_ap, oPart_ap, sDict0_ap, sSetL_ap, isi_int, kit_int_tuple]⟩
theorem good_lst {xs : List D} (f : Fm k a b c) (hk : k ≤ 199) : Good a b c A B C (.lst xs) := fun h => ⟨false, is_reducing_not f hk turn_lst, by unfold m__law_is_right_matrix; simp (maxSteps := 4000000) (dsimp := false) (disch := first | assumption | decide | omega | walk_at "cm") only [runDef_ap, sVar_ap, sC_ap, sBin_ap, sNeg_ap, sAnd_ap, sOr_ap, sNot_ap, sIf_ap, sTst_ap, qAnd_ap, qOr_ap, qNot_ap, qYes_ap, sChain_ap, sChain3_ap, sNil_ap, sCons_ap, sTup_ap, sLst_ap, sLstM_ap, sCall_ap, g1_ap, g2_ap, sFn_ap, sAsg_ap, gNm_ap, gTp_ap, gConsS_ap, gNilS_ap, sPar_ap, sPar3_ap, sRet_ap, sRetN_ap, sNx_ap, sBrk_ap, sCnt_ap, sSeq_ap, sIte_ap, sDrop_ap, sFrz_ap, sAug_ap, iRange1_ap, iRange2_ap, iSeq_ap, sFor_ap, sLc_ap, R.toG_ok, ↓R.bind_bnd, bnd_ok, ↓R.bd_bdn, bdn_ok, ↓R.toF_tof, tof_ok, ↓F.seq_sqn, sqn_nx, sqn_ret, sqn_cnt, sqn_brk, ↓F.turn_trn, trn_nx, trn_ret, trn_cnt, trn_brk, F.end_nx, F.end_ret, ↓br_true, br_true, ↓br_false, br_false, Dbr, Dneg, Dtst, opt_some, dAdd_int, dSub_int, dLt_int, dLe_int, dGt_int, dGe_int, dEq_int, dNe_int, dEq_bl, dNe_bl, dMul_cm, dMod_pos, dDiv_pos, dAbs_int, dMax2_int, dMin2_int, dInt_int, dInt_bl, dIx_tup, dIx_lst, dIx_seq, dLen_tup, dLen_lst, dLen_seq, atI_0, atI_1, atI_2, atI_3, List.map_cons, List.map_nil, List.length_cons, List.length_nil, List.replicate_succ, List.replicate_zero, List.cons_append, List.nil_append, List.getElem?_cons_zero, List.getElem?_cons_succ, List.set_cons_zero, List.set_cons_succ, Nat.reduceAdd, Nat.reduceSub, Nat.zero_add, Nat.add_zero, Nat.sub_self, Nat.reduceMul, mostL_def, Nat.reduceLeDiff, Nat.reduceLT, ite_true, ite_false, if_true, if_false, ↓reduceIte, reduceIte, ↓br_ite, Bool.false_eq_true, reduceCtorEq, Bool.not_true, Bool.not_false, decide_true, decide_false, Int.cast_ofNat_Int, Int.reduceBEq, Int.reduceAdd, Int.reduceSub, Int.reduceMul, Int.reduceNeg, Int.reduceLT, Int.reduceLE, Int.reduceMod, Int.reduceDiv, sMeth1_ap, sSl_ap, sRev_ap, oNo_ap, oPart_ap, sDict0_ap, sSetL_ap, isi_lst, kit_list_tuple]⟩
theorem good_len {xs : List D} (f : Fm k a b c) (hk : k ≤ 199) (hn : ((xs.length : Int) == 4) = false) : Good a b c A B C (.tup xs) := fun h => ⟨false, is_reducing_not f hk (turn_len hn), by unfold m__law_is_right_matrix; simp (maxSteps := 4000000) (dsimp := false) (disch := first | assumption | decide | omega | walk_at "cm") only [runDef_ap, sVar_ap, sC_ap, sBin_ap, sNeg_ap, sAnd_ap, sOr_ap, sNot_ap, sIf_ap, sTst_ap, qAnd_ap, qOr_ap, qNot_ap, qYes_ap, sChain_ap, sChain3_ap, sNil_ap, sCons_ap, sTup_ap, sLst_ap, sLstM_ap, sCall_ap, g1_ap, g2_ap, sFn_ap, sAsg_ap, gNm_ap, gTp_ap, gConsS_ap, gNilS_ap, sPar_ap, sPar3_ap, sRet_ap, sRetN_ap, sNx_ap, sBrk_ap, sCnt_ap, sSeq_ap, sIte_ap, sDrop_ap, sFrz_ap, sAug_ap, iRange1_ap, iRange2_ap, iSeq_ap, sFor_ap, sLc_ap, R.toG_ok, ↓R.bind_bnd, bnd_ok, ↓R.bd_bdn, bdn_ok, ↓R.toF_tof, tof_ok, ↓F.seq_sqn, sqn_nx, sqn_ret, sqn_cnt, sqn_brk, ↓F.turn_trn, trn_nx, trn_ret, trn_cnt, trn_brk, F.end_nx, F.end_ret, ↓br_true, br_true, ↓br_false, br_false, Dbr, Dneg, Dtst, opt_some, dAdd_int, dSub_int, dLt_int, dLe_int, dGt_int, dGe_int, dEq_int, dNe_int, dEq_bl, dNe_bl, dMul_cm, dMod_pos, dDiv_pos, dAbs_int, dMax2_int, dMin2_int, dInt_int, dInt_bl, dIx_tup, dIx_lst, dIx_seq, dLen_tup, dLen_lst, dLen_seq, atI_0, atI_1, atI_2, atI_3, List.map_cons, List.map_nil, List.length_cons, List.length_nil, List.replicate_succ, List.replicate_zero, List.cons_append, List.nil_append, List.getElem?_cons_zero, List.getElem?_cons_succ, List.set_cons_zero, List.set_cons_succ, Nat.reduceAdd, Nat.reduceSub, Nat.zero_add, Nat.add_zero, Nat.sub_self, Nat.reduceMul, mostL_def, Nat.reduceLeDiff, Nat.reduceLT, ite_true, ite_false, if_true, if_false, ↓reduceIte, reduceIte, ↓br_ite, Bool.false_eq_true, reduceCtorEq, Bool.not_true, Bool.not_false, decide_true, decide_false, Int.cast_ofNat_Int, Int.reduceBEq, Int.reduceAdd, Int.reduceSub, Int.reduceMul, Int.reduceNeg, Int.reduceLT, Int.reduceLE, Int.reduceMod, Int.reduceDiv, sMeth1_ap, sSl_ap, sRev_ap, oNo_ap, oPart_ap, sDict0_ap, sSetL_ap, isi_tup, kit_tuple_tuple, hn]⟩
theorem good_non0 {x y w : Int} (f : Fm k a b c) (hk : k ≤ 199) : Good a b c A B C (.tup [.non, .int x, .int y, .int w]) := fun h => ⟨false, is_reducing_not f hk (turn_bad whole_non whole_int whole_int whole_int rfl), by
  unfold m__law_is_right_matrix c__law_is_right_matrix_1; simp (maxSteps := 4000000) (dsimp := false) (disch := first | assumption | decide | omega | walk_at "cm") only [runDef_ap, sVar_ap, sC_ap, sBin_ap, sNeg_ap, sAnd_ap, sOr_ap, sNot_ap, sIf_ap, sTst_ap, qAnd_ap, qOr_ap, qNot_ap, qYes_ap, sChain_ap, sChain3_ap, sNil_ap, sCons_ap, sTup_ap, sLst_ap, sLstM_ap, sCall_ap, g1_ap, g2_ap, sFn_ap, sAsg_ap, gNm_ap, gTp_ap, gConsS_ap, gNilS_ap, sPar_ap, sPar3_ap, sRet_ap, sRetN_ap, sNx_ap, sBrk_ap, sCnt_ap, sSeq_ap, sIte_ap, sDrop_ap, sFrz_ap, sAug_ap, iRange1_ap, iRange2_ap, iSeq_ap, sFor_ap, sLc_ap, R.toG_ok, ↓R.bind_bnd, bnd_ok, ↓R.bd_bdn, bdn_ok, ↓R.toF_tof, tof_ok, ↓F.seq_sqn, sqn_nx, sqn_ret, sqn_cnt, sqn_brk, ↓F.turn_trn, trn_nx, trn_ret, trn_cnt, trn_brk, F.end_nx, F.end_ret, ↓br_true, br_true, ↓br_false, br_false, Dbr, Dneg, Dtst, opt_some, dAdd_int, dSub_int, dLt_int, dLe_int, dGt_int, dGe_int, dEq_int, dNe_int, dEq_bl, dNe_bl, dMul_cm, dMod_pos, dDiv_pos, dAbs_int, dMax2_int, dMin2_int, dInt_int, dInt_bl, dIx_tup, dIx_lst, dIx_seq, dLen_tup, dLen_lst, dLen_seq, atI_0, atI_1, atI_2, atI_3, List.map_cons, List.map_nil, List.length_cons, List.length_nil, List.replicate_succ, List.replicate_zero, List.cons_append, List.nil_append, List.getElem?_cons_zero, List.getElem?_cons_succ, List.set_cons_zero, List.set_cons_succ, Nat.reduceAdd, Nat.reduceSub, Nat.zero_add, Nat.add_zero, Nat.sub_self, Nat.reduceMul, mostL_def, Nat.reduceLeDiff, Nat.reduceLT, ite_true, ite_false, if_true, if_false, ↓reduceIte, reduceIte, ↓br_ite, Bool.false_eq_true, reduceCtorEq, Bool.not_true, Bool.not_false, decide_true, decide_false, Int.cast_ofNat_Int, Int.reduceBEq, Int.reduceAdd, Int.reduceSub, Int.reduceMul, Int.reduceNeg, Int.reduceLT, Int.reduceLE, Int.reduceMod, Int.reduceDiv, sMeth1_ap, sSl_ap, sRev_ap, oNo_ap, oPart_ap, sDict0_ap, sSetL_ap, isi_tup, kit_tuple_tuple, isi_int, isi_non, isi_str, isi_bl, kit_non_int, kit_str_int, kit_bool_int, kit_bool_bool, kit_int_int, kit_int_bool, compGo_cons, compGo_nil, wipe_cons, wipe_nil, iSeq_at, dAll_lst, bls_cons, bls_nil, Option.map_some, List.all_cons, List.all_nil, id, Bool.and_true, Bool.and_false, Bool.true_and, Bool.false_and]⟩
theorem good_non1 {x y w : Int} (f : Fm k a b c) (hk : k ≤ 199) : Good a b c A B C (.tup [.int x, .non, .int y, .int w]) := fun h => ⟨false, is_reducing_not f hk (turn_bad whole_int whole_non whole_int whole_int rfl), by
  unfold m__law_is_right_matrix c__law_is_right_matrix_1; simp (maxSteps := 4000000) (dsimp := false) (disch := first | assumption | decide | omega | walk_at "cm") only [runDef_ap, sVar_ap, sC_ap, sBin_ap, sNeg_ap, sAnd_ap, sOr_ap, sNot_ap, sIf_ap, sTst_ap, qAnd_ap, qOr_ap, qNot_ap, qYes_ap, sChain_ap, sChain3_ap, sNil_ap, sCons_ap, sTup_ap, sLst_ap, sLstM_ap, sCall_ap, g1_ap, g2_ap, sFn_ap, sAsg_ap, gNm_ap, gTp_ap, gConsS_ap, gNilS_ap, sPar_ap, sPar3_ap, sRet_ap, sRetN_ap, sNx_ap, sBrk_ap, sCnt_ap, sSeq_ap, sIte_ap, sDrop_ap, sFrz_ap, sAug_ap, iRange1_ap, iRange2_ap, iSeq_ap, sFor_ap, sLc_ap, R.toG_ok, ↓R.bind_bnd, bnd_ok, ↓R.bd_bdn, bdn_ok, ↓R.toF_tof, tof_ok, ↓F.seq_sqn, sqn_nx, sqn_ret, sqn_cnt, sqn_brk, ↓F.turn_trn, trn_nx, trn_ret, trn_cnt, trn_brk, F.end_nx, F.end_ret, ↓br_true, br_true, ↓br_false, br_false, Dbr, Dneg, Dtst, opt_some, dAdd_int, dSub_int, dLt_int, dLe_int, dGt_int, dGe_int, dEq_int, dNe_int, dEq_bl, dNe_bl, dMul_cm, dMod_pos, dDiv_pos, dAbs_int, dMax2_int, dMin2_int, dInt_int, dInt_bl, dIx_tup, dIx_lst, dIx_seq, dLen_tup, dLen_lst, dLen_seq, atI_0, atI_1, atI_2, atI_3, List.map_cons, List.map_nil, List.length_cons, List.length_nil, List.replicate_succ, List.replicate_zero, List.cons_append, List.nil_append, List.getElem?_cons_zero, List.getElem?_cons_succ, List.set_cons_zero, List.set_cons_succ, Nat.reduceAdd, Nat.reduceSub, Nat.zero_add, Nat.add_zero, Nat.sub_self, Nat.reduceMul, mostL_def, Nat.reduceLeDiff, Nat.reduceLT, ite_true, ite_false, if_true, if_false, ↓reduceIte, reduceIte, ↓br_ite, Bool.false_eq_true, reduceCtorEq, Bool.not_true, Bool.not_false, decide_true, decide_false, Int.cast_ofNat_Int, Int.reduceBEq, Int.reduceAdd, Int.reduceSub, Int.reduceMul, Int.reduceNeg, Int.reduceLT, Int.reduceLE, Int.reduceMod, Int.reduceDiv, sMeth1_ap, sSl_ap, sRev_ap, oNo_ap, oPart_ap, sDict0_ap, sSetL_ap, isi_tup, kit_tuple_tuple, isi_int, isi_non, isi_str, isi_bl, kit_non_int, kit_str_int, kit_bool_int, kit_bool_bool, kit_int_int, kit_int_bool, compGo_cons, compGo_nil, wipe_cons, wipe_nil, iSeq_at, dAll_lst, bls_cons, bls_nil, Option.map_some, List.all_cons, List.all_nil, id, Bool.and_true, Bool.and_false, Bool.true_and, Bool.false_and]⟩
theorem good_non2 {x y w : Int} (f : Fm k a b c) (hk : k ≤ 199) : Good a b c A B C (.tup [.int x, .int y, .non, .int w]) := fun h => ⟨false, is_reducing_not f hk (turn_bad whole_int whole_int whole_non whole_int rfl), by
  unfold m__law_is_right_matrix c__law_is_right_matrix_1; simp (maxSteps := 4000000) (dsimp := false) (disch := first | assumption | decide | omega | walk_at "cm") only [runDef_ap, sVar_ap, sC_ap, sBin_ap, sNeg_ap, sAnd_ap, sOr_ap, sNot_ap, sIf_ap, sTst_ap, qAnd_ap, qOr_ap, qNot_ap, qYes_ap, sChain_ap, sChain3_ap, sNil_ap, sCons_ap, sTup_ap, sLst_ap, sLstM_ap, sCall_ap, g1_ap, g2_ap, sFn_ap, sAsg_ap, gNm_ap, gTp_ap, gConsS_ap, gNilS_ap, sPar_ap, sPar3_ap, sRet_ap, sRetN_ap, sNx_ap, sBrk_ap, sCnt_ap, sSeq_ap, sIte_ap, sDrop_ap, sFrz_ap, sAug_ap, iRange1_ap, iRange2_ap, iSeq_ap, sFor_ap, sLc_ap, R.toG_ok, ↓R.bind_bnd, bnd_ok, ↓R.bd_bdn, bdn_ok, ↓R.toF_tof, tof_ok, ↓F.seq_sqn, sqn_nx, sqn_ret, sqn_cnt, sqn_brk, ↓F.turn_trn, trn_nx, trn_ret, trn_cnt, trn_brk, F.end_nx, F.end_ret, ↓br_true, br_true, ↓br_false, br_false, Dbr, Dneg, Dtst, opt_some, dAdd_int, dSub_int, dLt_int, dLe_int, dGt_int, dGe_int, dEq_int, dNe_int, dEq_bl, dNe_bl, dMul_cm, dMod_pos, dDiv_pos, dAbs_int, dMax2_int, dMin2_int, dInt_int, dInt_bl, dIx_tup, dIx_lst, dIx_seq, dLen_tup, dLen_lst, dLen_seq, atI_0, atI_1, atI_2, atI_3, List.map_cons, List.map_nil, List.length_cons, List.length_nil, List.replicate_succ, List.replicate_zero, List.cons_append, List.nil_append, List.getElem?_cons_zero, List.getElem?_cons_succ, List.set_cons_zero, List.set_cons_succ, Nat.reduceAdd, Nat.reduceSub, Nat.zero_add, Nat.add_zero, Nat.sub_self, Nat.reduceMul, mostL_def, Nat.reduceLeDiff, Nat.reduceLT, ite_true, ite_false, if_true, if_false, ↓reduceIte, reduceIte, ↓br_ite, Bool.false_eq_true, reduceCtorEq, Bool.not_true, Bool.not_false, decide_true, decide_false, Int.cast_ofNat_Int, Int.reduceBEq, Int.reduceAdd, Int.reduceSub, Int.reduceMul, Int.reduceNeg, Int.reduceLT, Int.reduceLE, Int.reduceMod, Int.reduceDiv, sMeth1_ap, sSl_ap, sRev_ap, oNo_ap, oPart_ap, sDict0_ap, sSetL_ap, isi_tup, kit_tuple_tuple, isi_int, isi_non, isi_str, isi_bl, kit_non_int, kit_str_int, kit_bool_int, kit_bool_bool, kit_int_int, kit_int_bool, compGo_cons, compGo_nil, wipe_cons, wipe_nil, iSeq_at, dAll_lst, bls_cons, bls_nil, Option.map_some, List.all_cons, List.all_nil, id, Bool.and_true, Bool.and_false, Bool.true_and, Bool.false_and]⟩
theorem good_non3 {x y w : Int} (f : Fm k a b c) (hk : k ≤ 199) : Good a b c A B C (.tup [.int x, .int y, .int w, .non]) := fun h => ⟨false, is_reducing_not f hk (turn_bad whole_int whole_int whole_int whole_non rfl), by
  unfold m__law_is_right_matrix c__law_is_right_matrix_1; simp (maxSteps := 4000000) (dsimp := false) (disch := first | assumption | decide | omega | walk_at "cm") only [runDef_ap, sVar_ap, sC_ap, sBin_ap, sNeg_ap, sAnd_ap, sOr_ap, sNot_ap, sIf_ap, sTst_ap, qAnd_ap, qOr_ap, qNot_ap, qYes_ap, sChain_ap, sChain3_ap, sNil_ap, sCons_ap, sTup_ap, sLst_ap, sLstM_ap, sCall_ap, g1_ap, g2_ap, sFn_ap, sAsg_ap, gNm_ap, gTp_ap, gConsS_ap, gNilS_ap, sPar_ap, sPar3_ap, sRet_ap, sRetN_ap, sNx_ap, sBrk_ap, sCnt_ap, sSeq_ap, sIte_ap, sDrop_ap, sFrz_ap, sAug_ap, iRange1_ap, iRange2_ap, iSeq_ap, sFor_ap, sLc_ap, R.toG_ok, ↓R.bind_bnd, bnd_ok, ↓R.bd_bdn, bdn_ok, ↓R.toF_tof, tof_ok, ↓F.seq_sqn, sqn_nx, sqn_ret, sqn_cnt, sqn_brk, ↓F.turn_trn, trn_nx, trn_ret, trn_cnt, trn_brk, F.end_nx, F.end_ret, ↓br_true, br_true, ↓br_false, br_false, Dbr, Dneg, Dtst, opt_some, dAdd_int, dSub_int, dLt_int, dLe_int, dGt_int, dGe_int, dEq_int, dNe_int, dEq_bl, dNe_bl, dMul_cm, dMod_pos, dDiv_pos, dAbs_int, dMax2_int, dMin2_int, dInt_int, dInt_bl, dIx_tup, dIx_lst, dIx_seq, dLen_tup, dLen_lst, dLen_seq, atI_0, atI_1, atI_2, atI_3, List.map_cons, List.map_nil, List.length_cons, List.length_nil, List.replicate_succ, List.replicate_zero, List.cons_append, List.nil_append, List.getElem?_cons_zero, List.getElem?_cons_succ, List.set_cons_zero, List.set_cons_succ, Nat.reduceAdd, Nat.reduceSub, Nat.zero_add, Nat.add_zero, Nat.sub_self, Nat.reduceMul, mostL_def, Nat.reduceLeDiff, Nat.reduceLT, ite_true, ite_false, if_true, if_false, ↓reduceIte, reduceIte, ↓br_ite, Bool.false_eq_true, reduceCtorEq, Bool.not_true, Bool.not_false, decide_true, decide_false, Int.cast_ofNat_Int, Int.reduceBEq, Int.reduceAdd, Int.reduceSub, Int.reduceMul, Int.reduceNeg, Int.reduceLT, Int.reduceLE, Int.reduceMod, Int.reduceDiv, sMeth1_ap, sSl_ap, sRev_ap, oNo_ap, oPart_ap, sDict0_ap, sSetL_ap, isi_tup, kit_tuple_tuple, isi_int, isi_non, isi_str, isi_bl, kit_non_int, kit_str_int, kit_bool_int, kit_bool_bool, kit_int_int, kit_int_bool, compGo_cons, compGo_nil, wipe_cons, wipe_nil, iSeq_at, dAll_lst, bls_cons, bls_nil, Option.map_some, List.all_cons, List.all_nil, id, Bool.and_true, Bool.and_false, Bool.true_and, Bool.false_and]⟩
theorem good_str0 {x y w : Int} {z : Str} (f : Fm k a b c) (hk : k ≤ 199) : Good a b c A B C (.tup [.str z, .int x, .int y, .int w]) := fun h => ⟨false, is_reducing_not f hk (turn_bad whole_str whole_int whole_int whole_int rfl), by
  unfold m__law_is_right_matrix c__law_is_right_matrix_1; simp (maxSteps := 4000000) (dsimp := false) (disch := first | assumption | decide | omega | walk_at "cm") only [runDef_ap, sVar_ap, sC_ap, sBin_ap, sNeg_ap, sAnd_ap, sOr_ap, sNot_ap, sIf_ap, sTst_ap, qAnd_ap, qOr_ap, qNot_ap, qYes_ap, sChain_ap, sChain3_ap, sNil_ap, sCons_ap, sTup_ap, sLst_ap, sLstM_ap, sCall_ap, g1_ap, g2_ap, sFn_ap, sAsg_ap, gNm_ap, gTp_ap, gConsS_ap, gNilS_ap, sPar_ap, sPar3_ap, sRet_ap, sRetN_ap, sNx_ap, sBrk_ap, sCnt_ap, sSeq_ap, sIte_ap, sDrop_ap, sFrz_ap, sAug_ap, iRange1_ap, iRange2_ap, iSeq_ap, sFor_ap, sLc_ap, R.toG_ok, ↓R.bind_bnd, bnd_ok, ↓R.bd_bdn, bdn_ok, ↓R.toF_tof, tof_ok, ↓F.seq_sqn, sqn_nx, sqn_ret, sqn_cnt, sqn_brk, ↓F.turn_trn, trn_nx, trn_ret, trn_cnt, trn_brk, F.end_nx, F.end_ret, ↓br_true, br_true, ↓br_false, br_false, Dbr, Dneg, Dtst, opt_some, dAdd_int, dSub_int, dLt_int, dLe_int, dGt_int, dGe_int, dEq_int, dNe_int, dEq_bl, dNe_bl, dMul_cm, dMod_pos, dDiv_pos, dAbs_int, dMax2_int, dMin2_int, dInt_int, dInt_bl, dIx_tup, dIx_lst, dIx_seq, dLen_tup, dLen_lst, dLen_seq, atI_0, atI_1, atI_2, atI_3, List.map_cons, List.map_nil, List.length_cons, List.length_nil, List.replicate_succ, List.replicate_zero, List.cons_append, List.nil_append, List.getElem?_cons_zero, List.getElem?_cons_succ, List.set_cons_zero, List.set_cons_succ, Nat.reduceAdd, Nat.reduceSub, Nat.zero_add, Nat.add_zero, Nat.sub_self, Nat.reduceMul, mostL_def, Nat.reduceLeDiff, Nat.reduceLT, ite_true, ite_false, if_true, if_false, ↓reduceIte, reduceIte, ↓br_ite, Bool.false_eq_true, reduceCtorEq, Bool.not_true, Bool.not_false, decide_true, decide_false, Int.cast_ofNat_Int, Int.reduceBEq, Int.reduceAdd, Int.reduceSub, Int.reduceMul, Int.reduceNeg, Int.reduceLT, Int.reduceLE, Int.reduceMod, Int.reduceDiv, sMeth1_ap, sSl_ap, sRev_ap, oNo_ap, oPart_ap, sDict0_ap, sSetL_ap, isi_tup, kit_tuple_tuple, isi_int, isi_non, isi_str, isi_bl, kit_non_int, kit_str_int, kit_bool_int, kit_bool_bool, kit_int_int, kit_int_bool, compGo_cons, compGo_nil, wipe_cons, wipe_nil, iSeq_at, dAll_lst, bls_cons, bls_nil, Option.map_some, List.all_cons, List.all_nil, id, Bool.and_true, Bool.and_false, Bool.true_and, Bool.false_and]⟩
theorem good_str1 {x y w : Int} {z : Str} (f : Fm k a b c) (hk : k ≤ 199) : Good a b c A B C (.tup [.int x, .str z, .int y, .int w]) := fun h => ⟨false, is_reducing_not f hk (turn_bad whole_int whole_str whole_int whole_int rfl), by
  unfold m__law_is_right_matrix c__law_is_right_matrix_1; simp (maxSteps := 4000000) (dsimp := false) (disch := first | assumption | decide | omega | walk_at "cm") only [runDef_ap, sVar_ap, sC_ap, sBin_ap, sNeg_ap, sAnd_ap, sOr_ap, sNot_ap, sIf_ap, sTst_ap, qAnd_ap, qOr_ap, qNot_ap, qYes_ap, sChain_ap, sChain3_ap, sNil_ap, sCons_ap, sTup_ap, sLst_ap, sLstM_ap, sCall_ap, g1_ap, g2_ap, sFn_ap, sAsg_ap, gNm_ap, gTp_ap, gConsS_ap, gNilS_ap, sPar_ap, sPar3_ap, sRet_ap, sRetN_ap, sNx_ap, sBrk_ap, sCnt_ap, sSeq_ap, sIte_ap, sDrop_ap, sFrz_ap, sAug_ap, iRange1_ap, iRange2_ap, iSeq_ap, sFor_ap, sLc_ap, R.toG_ok, ↓R.bind_bnd, bnd_ok, ↓R.bd_bdn, bdn_ok, ↓R.toF_tof, tof_ok, ↓F.seq_sqn, sqn_nx, sqn_ret, sqn_cnt, sqn_brk, ↓F.turn_trn, trn_nx, trn_ret, trn_cnt, trn_brk, F.end_nx, F.end_ret, ↓br_true, br_true, ↓br_false, br_false, Dbr, Dneg, Dtst, opt_some, dAdd_int, dSub_int, dLt_int, dLe_int, dGt_int, dGe_int, dEq_int, dNe_int, dEq_bl, dNe_bl, dMul_cm, dMod_pos, dDiv_pos, dAbs_int, dMax2_int, dMin2_int, dInt_int, dInt_bl, dIx_tup, dIx_lst, dIx_seq, dLen_tup, dLen_lst, dLen_seq, atI_0, atI_1, atI_2, atI_3, List.map_cons, List.map_nil, List.length_cons, List.length_nil, List.replicate_succ, List.replicate_zero, List.cons_append, List.nil_append, List.getElem?_cons_zero, List.getElem?_cons_succ, List.set_cons_zero, List.set_cons_succ, Nat.reduceAdd, Nat.reduceSub, Nat.zero_add, Nat.add_zero, Nat.sub_self, Nat.reduceMul, mostL_def, Nat.reduceLeDiff, Nat.reduceLT, ite_true, ite_false, if_true, if_false, ↓reduceIte, reduceIte, ↓br_ite, Bool.false_eq_true, reduceCtorEq, Bool.not_true, Bool.not_false, decide_true, decide_false, Int.cast_ofNat_Int, Int.reduceBEq, Int.reduceAdd, Int.reduceSub, Int.reduceMul, Int.reduceNeg, Int.reduceLT, Int.reduceLE, Int.reduceMod, Int.reduceDiv, sMeth1_ap, sSl_ap, sRev_ap, oNo_ap, oPart_ap, sDict0_ap, sSetL_ap, isi_tup, kit_tuple_tuple, isi_int, isi_non, isi_str, isi_bl, kit_non_int, kit_str_int, kit_bool_int, kit_bool_bool, kit_int_int, kit_int_bool, compGo_cons, compGo_nil, wipe_cons, wipe_nil, iSeq_at, dAll_lst, bls_cons, bls_nil, Option.map_some, List.all_cons, List.all_nil, id, Bool.and_true, Bool.and_false, Bool.true_and, Bool.false_and]⟩
theorem good_str2 {x y w : Int} {z : Str} (f : Fm k a b c) (hk : k ≤ 199) : Good a b c A B C (.tup [.int x, .int y, .str z, .int w]) := fun h => ⟨false, is_reducing_not f hk (turn_bad whole_int whole_int whole_str whole_int rfl), by
  unfold m__law_is_right_matrix c__law_is_right_matrix_1; simp (maxSteps := 4000000) (dsimp := false) (disch := first | assumption | decide | omega | walk_at "cm") only [runDef_ap, sVar_ap, sC_ap, sBin_ap, sNeg_ap, sAnd_ap, sOr_ap, sNot_ap, sIf_ap, sTst_ap, qAnd_ap, qOr_ap, qNot_ap, qYes_ap, sChain_ap, sChain3_ap, sNil_ap, sCons_ap, sTup_ap, sLst_ap, sLstM_ap, sCall_ap, g1_ap, g2_ap, sFn_ap, sAsg_ap, gNm_ap, gTp_ap, gConsS_ap, gNilS_ap, sPar_ap, sPar3_ap, sRet_ap, sRetN_ap, sNx_ap, sBrk_ap, sCnt_ap, sSeq_ap, sIte_ap, sDrop_ap, sFrz_ap, sAug_ap, iRange1_ap, iRange2_ap, iSeq_ap, sFor_ap, sLc_ap, R.toG_ok, ↓R.bind_bnd, bnd_ok, ↓R.bd_bdn, bdn_ok, ↓R.toF_tof, tof_ok, ↓F.seq_sqn, sqn_nx, sqn_ret, sqn_cnt, sqn_brk, ↓F.turn_trn, trn_nx, trn_ret, trn_cnt, trn_brk, F.end_nx, F.end_ret, ↓br_true, br_true, ↓br_false, br_false, Dbr, Dneg, Dtst, opt_some, dAdd_int, dSub_int, dLt_int, dLe_int, dGt_int, dGe_int, dEq_int, dNe_int, dEq_bl, dNe_bl, dMul_cm, dMod_pos, dDiv_pos, dAbs_int, dMax2_int, dMin2_int, dInt_int, dInt_bl, dIx_tup, dIx_lst, dIx_seq, dLen_tup, dLen_lst, dLen_seq, atI_0, atI_1, atI_2, atI_3, List.map_cons, List.map_nil, List.length_cons, List.length_nil, List.replicate_succ, List.replicate_zero, List.cons_append, List.nil_append, List.getElem?_cons_zero, List.getElem?_cons_succ, List.set_cons_zero, List.set_cons_succ, Nat.reduceAdd, Nat.reduceSub, Nat.zero_add, Nat.add_zero, Nat.sub_self, Nat.reduceMul, mostL_def, Nat.reduceLeDiff, Nat.reduceLT, ite_true, ite_false, if_true, if_false, ↓reduceIte, reduceIte, ↓br_ite, Bool.false_eq_true, reduceCtorEq, Bool.not_true, Bool.not_false, decide_true, decide_false, Int.cast_ofNat_Int, Int.reduceBEq, Int.reduceAdd, Int.reduceSub, Int.reduceMul, Int.reduceNeg, Int.reduceLT, Int.reduceLE, Int.reduceMod, Int.reduceDiv, sMeth1_ap, sSl_ap, sRev_ap, oNo_ap, oPart_ap, sDict0_ap, sSetL_ap, isi_tup, kit_tuple_tuple, isi_int, isi_non, isi_str, isi_bl, kit_non_int, kit_str_int, kit_bool_int, kit_bool_bool, kit_int_int, kit_int_bool, compGo_cons, compGo_nil, wipe_cons, wipe_nil, iSeq_at, dAll_lst, bls_cons, bls_nil, Option.map_some, List.all_cons, List.all_nil, id, Bool.and_true, Bool.and_false, Bool.true_and, Bool.false_and]⟩
theorem good_str3 {x y w : Int} {z : Str} (f : Fm k a b c) (hk : k ≤ 199) : Good a b c A B C (.tup [.int x, .int y, .int w, .str z]) := fun h => ⟨false, is_reducing_not f hk (turn_bad whole_int whole_int whole_int whole_str rfl), by
  unfold m__law_is_right_matrix c__law_is_right_matrix_1; simp (maxSteps := 4000000) (dsimp := false) (disch := first | assumption | decide | omega | walk_at "cm") only [runDef_ap, sVar_ap, sC_ap, sBin_ap, sNeg_ap, sAnd_ap, sOr_ap, sNot_ap, sIf_ap, sTst_ap, qAnd_ap, qOr_ap, qNot_ap, qYes_ap, sChain_ap, sChain3_ap, sNil_ap, sCons_ap, sTup_ap, sLst_ap, sLstM_ap, sCall_ap, g1_ap, g2_ap, sFn_ap, sAsg_ap, gNm_ap, gTp_ap, gConsS_ap, gNilS_ap, sPar_ap, sPar3_ap, sRet_ap, sRetN_ap, sNx_ap, sBrk_ap, sCnt_ap, sSeq_ap, sIte_ap, sDrop_ap, sFrz_ap, sAug_ap, iRange1_ap, iRange2_ap, iSeq_ap, sFor_ap, sLc_ap, R.toG_ok, ↓R.bind_bnd, bnd_ok, ↓R.bd_bdn, bdn_ok, ↓R.toF_tof, tof_ok, ↓F.seq_sqn, sqn_nx, sqn_ret, sqn_cnt, sqn_brk, ↓F.turn_trn, trn_nx, trn_ret, trn_cnt, trn_brk, F.end_nx, F.end_ret, ↓br_true, br_true, ↓br_false, br_false, Dbr, Dneg, Dtst, opt_some, dAdd_int, dSub_int, dLt_int, dLe_int, dGt_int, dGe_int, dEq_int, dNe_int, dEq_bl, dNe_bl, dMul_cm, dMod_pos, dDiv_pos, dAbs_int, dMax2_int, dMin2_int, dInt_int, dInt_bl, dIx_tup, dIx_lst, dIx_seq, dLen_tup, dLen_lst, dLen_seq, atI_0, atI_1, atI_2, atI_3, List.map_cons, List.map_nil, List.length_cons, List.length_nil, List.replicate_succ, List.replicate_zero, List.cons_append, List.nil_append, List.getElem?_cons_zero, List.getElem?_cons_succ, List.set_cons_zero, List.set_cons_succ, Nat.reduceAdd, Nat.reduceSub, Nat.zero_add, Nat.add_zero, Nat.sub_self, Nat.reduceMul, mostL_def, Nat.reduceLeDiff, Nat.reduceLT, ite_true, ite_false, if_true, if_false, ↓reduceIte, reduceIte, ↓br_ite, Bool.false_eq_true, reduceCtorEq, Bool.not_true, Bool.not_false, decide_true, decide_false, Int.cast_ofNat_Int, Int.reduceBEq, Int.reduceAdd, Int.reduceSub, Int.reduceMul, Int.reduceNeg, Int.reduceLT, Int.reduceLE, Int.reduceMod, Int.reduceDiv, sMeth1_ap, sSl_ap, sRev_ap, oNo_ap, oPart_ap, sDict0_ap, sSetL_ap, isi_tup, kit_tuple_tuple, isi_int, isi_non, isi_str, isi_bl, kit_non_int, kit_str_int, kit_bool_int, kit_bool_bool, kit_int_int, kit_int_bool, compGo_cons, compGo_nil, wipe_cons, wipe_nil, iSeq_at, dAll_lst, bls_cons, bls_nil, Option.map_some, List.all_cons, List.all_nil, id, Bool.and_true, Bool.and_false, Bool.true_and, Bool.false_and]⟩
theorem good_bl0 {x y w : Int} {z : Bool} (f : Fm k a b c) (hk : k ≤ 199) : Good a b c A B C (.tup [.bl z, .int x, .int y, .int w]) := fun h => ⟨false, is_reducing_not f hk (turn_bad whole_bl whole_int whole_int whole_int rfl), by
  unfold m__law_is_right_matrix c__law_is_right_matrix_1; simp (maxSteps := 4000000) (dsimp := false) (disch := first | assumption | decide | omega | walk_at "cm") only [runDef_ap, sVar_ap, sC_ap, sBin_ap, sNeg_ap, sAnd_ap, sOr_ap, sNot_ap, sIf_ap, sTst_ap, qAnd_ap, qOr_ap, qNot_ap, qYes_ap, sChain_ap, sChain3_ap, sNil_ap, sCons_ap, sTup_ap, sLst_ap, sLstM_ap, sCall_ap, g1_ap, g2_ap, sFn_ap, sAsg_ap, gNm_ap, gTp_ap, gConsS_ap, gNilS_ap, sPar_ap, sPar3_ap, sRet_ap, sRetN_ap, sNx_ap, sBrk_ap, sCnt_ap, sSeq_ap, sIte_ap, sDrop_ap, sFrz_ap, sAug_ap, iRange1_ap, iRange2_ap, iSeq_ap, sFor_ap, sLc_ap, R.toG_ok, ↓R.bind_bnd, bnd_ok, ↓R.bd_bdn, bdn_ok, ↓R.toF_tof, tof_ok, ↓F.seq_sqn, sqn_nx, sqn_ret, sqn_cnt, sqn_brk, ↓F.turn_trn, trn_nx, trn_ret, trn_cnt, trn_brk, F.end_nx, F.end_ret, ↓br_true, br_true, ↓br_false, br_false, Dbr, Dneg, Dtst, opt_some, dAdd_int, dSub_int, dLt_int, dLe_int, dGt_int, dGe_int, dEq_int, dNe_int, dEq_bl, dNe_bl, dMul_cm, dMod_pos, dDiv_pos, dAbs_int, dMax2_int, dMin2_int, dInt_int, dInt_bl, dIx_tup, dIx_lst, dIx_seq, dLen_tup, dLen_lst, dLen_seq, atI_0, atI_1, atI_2, atI_3, List.map_cons, List.map_nil, List.length_cons, List.length_nil, List.replicate_succ, List.replicate_zero, List.cons_append, List.nil_append, List.getElem?_cons_zero, List.getElem?_cons_succ, List.set_cons_zero, List.set_cons_succ, Nat.reduceAdd, Nat.reduceSub, Nat.zero_add, Nat.add_zero, Nat.sub_self, Nat.reduceMul, mostL_def, Nat.reduceLeDiff, Nat.reduceLT, ite_true, ite_false, if_true, if_false, ↓reduceIte, reduceIte, ↓br_ite, Bool.false_eq_true, reduceCtorEq, Bool.not_true, Bool.not_false, decide_true, decide_false, Int.cast_ofNat_Int, Int.reduceBEq, Int.reduceAdd, Int.reduceSub, Int.reduceMul, Int.reduceNeg, Int.reduceLT, Int.reduceLE, Int.reduceMod, Int.reduceDiv, sMeth1_ap, sSl_ap, sRev_ap, oNo_ap, oPart_ap, sDict0_ap, sSetL_ap, isi_tup, kit_tuple_tuple, isi_int, isi_non, isi_str, isi_bl, kit_non_int, kit_str_int, kit_bool_int, kit_bool_bool, kit_int_int, kit_int_bool, compGo_cons, compGo_nil, wipe_cons, wipe_nil, iSeq_at, dAll_lst, bls_cons, bls_nil, Option.map_some, List.all_cons, List.all_nil, id, Bool.and_true, Bool.and_false, Bool.true_and, Bool.false_and]⟩
theorem good_bl1 {x y w : Int} {z : Bool} (f : Fm k a b c) (hk : k ≤ 199) : Good a b c A B C (.tup [.int x, .bl z, .int y, .int w]) := fun h => ⟨false, is_reducing_not f hk (turn_bad whole_int whole_bl whole_int whole_int rfl), by
  unfold m__law_is_right_matrix c__law_is_right_matrix_1; simp (maxSteps := 4000000) (dsimp := false) (disch := first | assumption | decide | omega | walk_at "cm") only [runDef_ap, sVar_ap, sC_ap, sBin_ap, sNeg_ap, sAnd_ap, sOr_ap, sNot_ap, sIf_ap, sTst_ap, qAnd_ap, qOr_ap, qNot_ap, qYes_ap, sChain_ap, sChain3_ap, sNil_ap, sCons_ap, sTup_ap, sLst_ap, sLstM_ap, sCall_ap, g1_ap, g2_ap, sFn_ap, sAsg_ap, gNm_ap, gTp_ap, gConsS_ap, gNilS_ap, sPar_ap, sPar3_ap, sRet_ap, sRetN_ap, sNx_ap, sBrk_ap, sCnt_ap, sSeq_ap, sIte_ap, sDrop_ap, sFrz_ap, sAug_ap, iRange1_ap, iRange2_ap, iSeq_ap, sFor_ap, sLc_ap, R.toG_ok, ↓R.bind_bnd, bnd_ok, ↓R.bd_bdn, bdn_ok, ↓R.toF_tof, tof_ok, ↓F.seq_sqn, sqn_nx, sqn_ret, sqn_cnt, sqn_brk, ↓F.turn_trn, trn_nx, trn_ret, trn_cnt, trn_brk, F.end_nx, F.end_ret, ↓br_true, br_true, ↓br_false, br_false, Dbr, Dneg, Dtst, opt_some, dAdd_int, dSub_int, dLt_int, dLe_int, dGt_int, dGe_int, dEq_int, dNe_int, dEq_bl, dNe_bl, dMul_cm, dMod_pos, dDiv_pos, dAbs_int, dMax2_int, dMin2_int, dInt_int, dInt_bl, dIx_tup, dIx_lst, dIx_seq, dLen_tup, dLen_lst, dLen_seq, atI_0, atI_1, atI_2, atI_3, List.map_cons, List.map_nil, List.length_cons, List.length_nil, List.replicate_succ, List.replicate_zero, List.cons_append, List.nil_append, List.getElem?_cons_zero, List.getElem?_cons_succ, List.set_cons_zero, List.set_cons_succ, Nat.reduceAdd, Nat.reduceSub, Nat.zero_add, Nat.add_zero, Nat.sub_self, Nat.reduceMul, mostL_def, Nat.reduceLeDiff, Nat.reduceLT, ite_true, ite_false, if_true, if_false, ↓reduceIte, reduceIte, ↓br_ite, Bool.false_eq_true, reduceCtorEq, Bool.not_true, Bool.not_false, decide_true, decide_false, Int.cast_ofNat_Int, Int.reduceBEq, Int.reduceAdd, Int.reduceSub, Int.reduceMul, Int.reduceNeg, Int.reduceLT, Int.reduceLE, Int.reduceMod, Int.reduceDiv, sMeth1_ap, sSl_ap, sRev_ap, oNo_ap, oPart_ap, sDict0_ap, sSetL_ap, isi_tup, kit_tuple_tuple, isi_int, isi_non, isi_str, isi_bl, kit_non_int, kit_str_int, kit_bool_int, kit_bool_bool, kit_int_int, kit_int_bool, compGo_cons, compGo_nil, wipe_cons, wipe_nil, iSeq_at, dAll_lst, bls_cons, bls_nil, Option.map_some, List.all_cons, List.all_nil, id, Bool.and_true, Bool.and_false, Bool.true_and, Bool.false_and]⟩
theorem good_bl2 {x y w : Int} {z : Bool} (f : Fm k a b c) (hk : k ≤ 199) : Good a b c A B C (.tup [.int x, .int y, .bl z, .int w]) := fun h => ⟨false, is_reducing_not f hk (turn_bad whole_int whole_int whole_bl whole_int rfl), by
  unfold m__law_is_right_matrix c__law_is_right_matrix_1; simp (maxSteps := 4000000) (dsimp := false) (disch := first | assumption | decide | omega | walk_at "cm") only [runDef_ap, sVar_ap, sC_ap, sBin_ap, sNeg_ap, sAnd_ap, sOr_ap, sNot_ap, sIf_ap, sTst_ap, qAnd_ap, qOr_ap, qNot_ap, qYes_ap, sChain_ap, sChain3_ap, sNil_ap, sCons_ap, sTup_ap, sLst_ap, sLstM_ap, sCall_ap, g1_ap, g2_ap, sFn_ap, sAsg_ap, gNm_ap, gTp_ap, gConsS_ap, gNilS_ap, sPar_ap, sPar3_ap, sRet_ap, sRetN_ap, sNx_ap, sBrk_ap, sCnt_ap, sSeq_ap, sIte_ap, sDrop_ap, sFrz_ap, sAug_ap, iRange1_ap, iRange2_ap, iSeq_ap, sFor_ap, sLc_ap, R.toG_ok, ↓R.bind_bnd, bnd_ok, ↓R.bd_bdn, bdn_ok, ↓R.toF_tof, tof_ok, ↓F.seq_sqn, sqn_nx, sqn_ret, sqn_cnt, sqn_brk, ↓F.turn_trn, trn_nx, trn_ret, trn_cnt, trn_brk, F.end_nx, F.end_ret, ↓br_true, br_true, ↓br_false, br_false, Dbr, Dneg, Dtst, opt_some, dAdd_int, dSub_int, dLt_int, dLe_int, dGt_int, dGe_int, dEq_int, dNe_int, dEq_bl, dNe_bl, dMul_cm, dMod_pos, dDiv_pos, dAbs_int, dMax2_int, dMin2_int, dInt_int, dInt_bl, dIx_tup, dIx_lst, dIx_seq, dLen_tup, dLen_lst, dLen_seq, atI_0, atI_1, atI_2, atI_3, List.map_cons, List.map_nil, List.length_cons, List.length_nil, List.replicate_succ, List.replicate_zero, List.cons_append, List.nil_append, List.getElem?_cons_zero, List.getElem?_cons_succ, List.set_cons_zero, List.set_cons_succ, Nat.reduceAdd, Nat.reduceSub, Nat.zero_add, Nat.add_zero, Nat.sub_self, Nat.reduceMul, mostL_def, Nat.reduceLeDiff, Nat.reduceLT, ite_true, ite_false, if_true, if_false, ↓reduceIte, reduceIte, ↓br_ite, Bool.false_eq_true, reduceCtorEq, Bool.not_true, Bool.not_false, decide_true, decide_false, Int.cast_ofNat_Int, Int.reduceBEq, Int.reduceAdd, Int.reduceSub, Int.reduceMul, Int.reduceNeg, Int.reduceLT, Int.reduceLE, Int.reduceMod, Int.reduceDiv, sMeth1_ap, sSl_ap, sRev_ap, oNo_ap, oPart_ap, sDict0_ap, sSetL_ap, isi_tup, kit_tuple_tuple, isi_int, isi_non, isi_str, isi_bl, kit_non_int, kit_str_int, kit_bool_int, kit_bool_bool, kit_int_int, kit_int_bool, compGo_cons, compGo_nil, wipe_cons, wipe_nil, iSeq_at, dAll_lst, bls_cons, bls_nil, Option.map_some, List.all_cons, List.all_nil, id, Bool.and_true, Bool.and_false, Bool.true_and, Bool.false_and]⟩
theorem good_bl3 {x y w : Int} {z : Bool} (f : Fm k a b c) (hk : k ≤ 199) : Good a b c A B C (.tup [.int x, .int y, .int w, .bl z]) := fun h => ⟨false, is_reducing_not f hk (turn_bad whole_int whole_int whole_int whole_bl rfl), by
  unfold m__law_is_right_matrix c__law_is_right_matrix_1; simp (maxSteps := 4000000) (dsimp := false) (disch := first | assumption | decide | omega | walk_at "cm") only [runDef_ap, sVar_ap, sC_ap, sBin_ap, sNeg_ap, sAnd_ap, sOr_ap, sNot_ap, sIf_ap, sTst_ap, qAnd_ap, qOr_ap, qNot_ap, qYes_ap, sChain_ap, sChain3_ap, sNil_ap, sCons_ap, sTup_ap, sLst_ap, sLstM_ap, sCall_ap, g1_ap, g2_ap, sFn_ap, sAsg_ap, gNm_ap, gTp_ap, gConsS_ap, gNilS_ap, sPar_ap, sPar3_ap, sRet_ap, sRetN_ap, sNx_ap, sBrk_ap, sCnt_ap, sSeq_ap, sIte_ap, sDrop_ap, sFrz_ap, sAug_ap, iRange1_ap, iRange2_ap, iSeq_ap, sFor_ap, sLc_ap, R.toG_ok, ↓R.bind_bnd, bnd_ok, ↓R.bd_bdn, bdn_ok, ↓R.toF_tof, tof_ok, ↓F.seq_sqn, sqn_nx, sqn_ret, sqn_cnt, sqn_brk, ↓F.turn_trn, trn_nx, trn_ret, trn_cnt, trn_brk, F.end_nx, F.end_ret, ↓br_true, br_true, ↓br_false, br_false, Dbr, Dneg, Dtst, opt_some, dAdd_int, dSub_int, dLt_int, dLe_int, dGt_int, dGe_int, dEq_int, dNe_int, dEq_bl, dNe_bl, dMul_cm, dMod_pos, dDiv_pos, dAbs_int, dMax2_int, dMin2_int, dInt_int, dInt_bl, dIx_tup, dIx_lst, dIx_seq, dLen_tup, dLen_lst, dLen_seq, atI_0, atI_1, atI_2, atI_3, List.map_cons, List.map_nil, List.length_cons, List.length_nil, List.replicate_succ, List.replicate_zero, List.cons_append, List.nil_append, List.getElem?_cons_zero, List.getElem?_cons_succ, List.set_cons_zero, List.set_cons_succ, Nat.reduceAdd, Nat.reduceSub, Nat.zero_add, Nat.add_zero, Nat.sub_self, Nat.reduceMul, mostL_def, Nat.reduceLeDiff, Nat.reduceLT, ite_true, ite_false, if_true, if_false, ↓reduceIte, reduceIte, ↓br_ite, Bool.false_eq_true, reduceCtorEq, Bool.not_true, Bool.not_false, decide_true, decide_false, Int.cast_ofNat_Int, Int.reduceBEq, Int.reduceAdd, Int.reduceSub, Int.reduceMul, Int.reduceNeg, Int.reduceLT, Int.reduceLE, Int.reduceMod, Int.reduceDiv, sMeth1_ap, sSl_ap, sRev_ap, oNo_ap, oPart_ap, sDict0_ap, sSetL_ap, isi_tup, kit_tuple_tuple, isi_int, isi_non, isi_str, isi_bl, kit_non_int, kit_str_int, kit_bool_int, kit_bool_bool, kit_int_int, kit_int_bool, compGo_cons, compGo_nil, wipe_cons, wipe_nil, iSeq_at, dAll_lst, bls_cons, bls_nil, Option.map_some, List.all_cons, List.all_nil, id, Bool.and_true, Bool.and_false, Bool.true_and, Bool.false_and]⟩
end
end L43

/-! K43c: the law of reducing, what is near -/
namespace L43
open PySem L2 Evl Pd
local macro_rules | `(tactic| walk_at "sm") => `(tactic| first | assumption | exact Sm.lit | exact Sm.mul (by walk_at "sm") (by walk_at "sm") | exact Sm.add (by walk_at "sm") (by walk_at "sm") | exact Sm.sub (by walk_at "sm") (by walk_at "sm") | exact Sm.neg (by walk_at "sm"))
local macro_rules | `(tactic| walk_at "cm") => `(tactic| ((with_reducible show CM _ _); first | assumption | exact CM.left (by decide) | exact CM.right (by decide) | exact CM.left (by omega) | exact CM.right (by omega) | exact CM.of (by walk_at "sm") (by walk_at "sm") (by decide)))
theorem near_ok {d k : Nat} {h : Ph} {a b c A B C p q r s : Int} (hd : Dc h d) (f : Fm k a b c) (hk : k ≤ 199) (x : Rdc a b c A B C) (m : Mx 450 p q r s) (fl : Fm 600 A B C) : ∃ ys h', m__law_near [.ref d, T4 p q r s, T3 A B C] h = .ok (.lst ys) h' ∧ (∀ y ∈ ys, Good a b c A B C y) ∧ ys.length ≤ 100 ∧ Dr d h h' := by
  have s0 : Mx 600 1 0 0 1 := ⟨⟨by decide⟩, ⟨by decide⟩, ⟨by decide⟩, ⟨by decide⟩, by decide⟩
  have sp := m.sp.mono (by decide : 450 ≤ 599)
  have sq := m.sq.mono (by decide : 450 ≤ 599)
  have sr := m.sr.mono (by decide : 450 ≤ 599)
  have ss := m.ss.mono (by decide : 450 ≤ 599)
  have s1 : Sm 599 1 := ⟨by decide⟩
  have l6 : ∀ {t : Int}, Sm 599 t → Sm 600 t := fun s => s.mono (by decide)
  have M0 := Mk.new (P := Good a b c A B C) hd (ys := [T4 p q r s, .lst [.int p, .int q, .int r, .int s], .tup [.int p, .int q, .int r], .tup [.int p, .int q, .int r, .int s, .int 0], T4 (-p) (-q) (-r) (-s), .non, .int 0, .tup [], T4 1 0 0 1]) (by
    intro y hy
    simp only [List.mem_cons, List.not_mem_nil, or_false] at hy
    rcases hy with rfl | rfl | rfl | rfl | rfl | rfl | rfl | rfl | rfl
    · exact good_mx f hk x (m.mono (by decide))
    · exact good_lst f hk
    · exact good_len f hk rfl
    · exact good_len f hk rfl
    · exact good_ints f hk x (l6 sp.neg) (l6 sq.neg) (l6 sr.neg) (l6 ss.neg)
    · exact good_non f hk
    · exact good_int f hk
    · exact good_len f hk rfl
    · exact good_mx f hk x s0)
  obtain ⟨ks, e1, kk, kl⟩ := bf_keepers_ok (a := A) (b := B) (c := C) (h := h ++ [.lst [T4 p q r s, .lst [.int p, .int q, .int r, .int s], .tup [.int p, .int q, .int r], .tup [.int p, .int q, .int r, .int s, .int 0], T4 (-p) (-q) (-r) (-s), .non, .int 0, .tup [], T4 1 0 0 1]]) fl.sa fl.sb fl.sc
  generalize hh : h ++ [PO.lst [T4 p q r s, .lst [.int p, .int q, .int r, .int s], .tup [.int p, .int q, .int r], .tup [.int p, .int q, .int r, .int s, .int 0], T4 (-p) (-q) (-r) (-s), .non, .int 0, .tup [], T4 1 0 0 1]] = h1 at M0 e1
  -- the keepers
  obtain ⟨e2, h2, q1, hj, o4, rfl, M1⟩ := forGo_inv (g := gNm 4) (f := l__law_near_2) (fun j e h' => j ≤ 20 ∧ ∃ o4, e = [some (.ref d), some (T4 p q r s), some (T3 A B C), some (.ref h.length), o4, none, none] ∧ Mk d h.length (Good a b c A B C) (9 + j) h h') ks 0 [some (.ref d), some (T4 p q r s), some (T3 A B C), some (.ref h.length), none, none, none] h1 ⟨by omega, none, rfl, M0⟩
    (fun y hy j e h' hj hj2 ⟨_, o4, he, M⟩ => by
      subst he
      obtain ⟨u, v, w, z, rfl, my⟩ := kk y hy
      obtain ⟨h3, e3, M3⟩ := M.app (by omega) (good_mx f hk x ((m.prod my).mono (by decide)))
      have e4 := bf_product_ok (h := h') m my (by decide) (by decide)
      obtain ⟨zs, e5⟩ := M.ls
      refine ⟨_, _, _, _, rfl, ?_, by omega, some (T4 u v w z), rfl, M3⟩
      unfold l__law_near_2
      simp (maxSteps := 4000000) (dsimp := false) (disch := first | assumption | decide | omega | walk_at "cm") only [runDef_ap, sVar_ap, sC_ap, sBin_ap, sNeg_ap, sAnd_ap, sOr_ap, sNot_ap, sIf_ap, sTst_ap, qAnd_ap, qOr_ap, qNot_ap, qYes_ap, sChain_ap, sChain3_ap, sNil_ap, sCons_ap, sTup_ap, sLst_ap, sLstM_ap, sCall_ap, g1_ap, g2_ap, sFn_ap, sAsg_ap, gNm_ap, gTp_ap, gConsS_ap, gNilS_ap, sPar_ap, sPar3_ap, sRet_ap, sRetN_ap, sNx_ap, sBrk_ap, sCnt_ap, sSeq_ap, sIte_ap, sDrop_ap, sFrz_ap, sAug_ap, iRange1_ap, iRange2_ap, iSeq_ap, sFor_ap, sLc_ap, R.toG_ok, ↓R.bind_bnd, bnd_ok, ↓R.bd_bdn, bdn_ok, ↓R.toF_tof, tof_ok, ↓F.seq_sqn, sqn_nx, sqn_ret, sqn_cnt, sqn_brk, ↓F.turn_trn, trn_nx, trn_ret, trn_cnt, trn_brk, F.end_nx, F.end_ret, ↓br_true, br_true, ↓br_false, br_false, Dbr, Dneg, Dtst, opt_some, dAdd_int, dSub_int, dLt_int, dLe_int, dGt_int, dGe_int, dEq_int, dNe_int, dEq_bl, dNe_bl, dMul_cm, dMod_pos, dDiv_pos, dAbs_int, dMax2_int, dMin2_int, dInt_int, dInt_bl, dIx_tup, dIx_lst, dIx_seq, dLen_tup, dLen_lst, dLen_seq, atI_0, atI_1, atI_2, atI_3, List.map_cons, List.map_nil, List.length_cons, List.length_nil, List.replicate_succ, List.replicate_zero, List.cons_append, List.nil_append, List.getElem?_cons_zero, List.getElem?_cons_succ, List.set_cons_zero, List.set_cons_succ, Nat.reduceAdd, Nat.reduceSub, Nat.zero_add, Nat.add_zero, Nat.sub_self, Nat.reduceMul, mostL_def, Nat.reduceLeDiff, Nat.reduceLT, ite_true, ite_false, if_true, if_false, ↓reduceIte, reduceIte, ↓br_ite, Bool.false_eq_true, reduceCtorEq, Bool.not_true, Bool.not_false, decide_true, decide_false, Int.cast_ofNat_Int, Int.reduceBEq, Int.reduceAdd, Int.reduceSub, Int.reduceMul, Int.reduceNeg, Int.reduceLT, Int.reduceLE, Int.reduceMod, Int.reduceDiv, sMeth1_ap, sSl_ap, sRev_ap, oNo_ap, oPart_ap, sDict0_ap, sSetL_ap, sMeth1_ap, e5, e4, e3])
  -- further ones
  obtain ⟨t1, t2, t3, t4, h3, e3, mt, d3⟩ := matrix_ok (z := 3) M1.dr.dc (by decide) (by decide)
  have M2 := M1.dice d3
  obtain ⟨e4, h4, q2, hj4, o4', rfl, M4⟩ := forGo_inv (g := gNm 4) (f := l__law_near_3) (fun j e h' => j ≤ 5 ∧ ∃ o4, e = [some (.ref d), some (T4 p q r s), some (T3 A B C), some (.ref h.length), o4, none, none] ∧ Mk d h.length (Good a b c A B C) (9 + 20 + j) h h') [T4 1 1 0 1, T4 0 (-1) 1 0, T4 (-1) 0 0 1, T4 0 1 1 0, T4 t1 t2 t3 t4] 0 [some (.ref d), some (T4 p q r s), some (T3 A B C), some (.ref h.length), o4, none, none] h3 ⟨by omega, o4, rfl, M2.mono (by omega)⟩
    (fun y hy j e h' hj hj2 ⟨_, o4, he, M⟩ => by
      subst he
      have hj3 : j < 5 := hj2
      have : ∃ u v w z, y = T4 u v w z ∧ Sm 25 u ∧ Sm 25 v ∧ Sm 25 w ∧ Sm 25 z := by
        simp only [List.mem_cons, List.not_mem_nil, or_false] at hy
        rcases hy with rfl | rfl | rfl | rfl | rfl
        · exact ⟨_, _, _, _, rfl, ⟨by decide⟩, ⟨by decide⟩, ⟨by decide⟩, ⟨by decide⟩⟩
        · exact ⟨_, _, _, _, rfl, ⟨by decide⟩, ⟨by decide⟩, ⟨by decide⟩, ⟨by decide⟩⟩
        · exact ⟨_, _, _, _, rfl, ⟨by decide⟩, ⟨by decide⟩, ⟨by decide⟩, ⟨by decide⟩⟩
        · exact ⟨_, _, _, _, rfl, ⟨by decide⟩, ⟨by decide⟩, ⟨by decide⟩, ⟨by decide⟩⟩
        · exact ⟨_, _, _, _, rfl, mt.sp.mono (by decide), mt.sq.mono (by decide), mt.sr.mono (by decide), mt.ss.mono (by decide)⟩
      obtain ⟨u, v, w, z, rfl, su, sv, sw, sz⟩ := this
      have g := good_ints (p := p * u + q * w) (q := p * v + q * z) (r := r * u + s * w) (s := r * v + s * z) f hk x (((m.sp.mul su).add1 (m.sq.mul sw)).mono (by decide)) (((m.sp.mul sv).add1 (m.sq.mul sz)).mono (by decide)) (((m.sr.mul su).add1 (m.ss.mul sw)).mono (by decide)) (((m.sr.mul sv).add1 (m.ss.mul sz)).mono (by decide))
      obtain ⟨h3, e3, M3⟩ := M.app (by omega) g
      have e4 : f__law_bf_product [T4 p q r s, T4 u v w z] h' = .ok (T4 (p * u + q * w) (p * v + q * z) (r * u + s * w) (r * v + s * z)) h' := by
        have e1 := m.sp
        have e2 := m.sq
        have e3 := m.sr
        have e4 := m.ss
        unfold f__law_bf_product; simp (maxSteps := 4000000) (dsimp := false) (disch := first | assumption | decide | omega | walk_at "cm") only [runDef_ap, sVar_ap, sC_ap, sBin_ap, sNeg_ap, sAnd_ap, sOr_ap, sNot_ap, sIf_ap, sTst_ap, qAnd_ap, qOr_ap, qNot_ap, qYes_ap, sChain_ap, sChain3_ap, sNil_ap, sCons_ap, sTup_ap, sLst_ap, sLstM_ap, sCall_ap, g1_ap, g2_ap, sFn_ap, sAsg_ap, gNm_ap, gTp_ap, gConsS_ap, gNilS_ap, sPar_ap, sPar3_ap, sRet_ap, sRetN_ap, sNx_ap, sBrk_ap, sCnt_ap, sSeq_ap, sIte_ap, sDrop_ap, sFrz_ap, sAug_ap, iRange1_ap, iRange2_ap, iSeq_ap, sFor_ap, sLc_ap, R.toG_ok, ↓R.bind_bnd, bnd_ok, ↓R.bd_bdn, bdn_ok, ↓R.toF_tof, tof_ok, ↓F.seq_sqn, sqn_nx, sqn_ret, sqn_cnt, sqn_brk, ↓F.turn_trn, trn_nx, trn_ret, trn_cnt, trn_brk, F.end_nx, F.end_ret, ↓br_true, br_true, ↓br_false, br_false, Dbr, Dneg, Dtst, opt_some, dAdd_int, dSub_int, dLt_int, dLe_int, dGt_int, dGe_int, dEq_int, dNe_int, dEq_bl, dNe_bl, dMul_cm, dMod_pos, dDiv_pos, dAbs_int, dMax2_int, dMin2_int, dInt_int, dInt_bl, dIx_tup, dIx_lst, dIx_seq, dLen_tup, dLen_lst, dLen_seq, atI_0, atI_1, atI_2, atI_3, List.map_cons, List.map_nil, List.length_cons, List.length_nil, List.replicate_succ, List.replicate_zero, List.cons_append, List.nil_append, List.getElem?_cons_zero, List.getElem?_cons_succ, List.set_cons_zero, List.set_cons_succ, Nat.reduceAdd, Nat.reduceSub, Nat.zero_add, Nat.add_zero, Nat.sub_self, Nat.reduceMul, mostL_def, Nat.reduceLeDiff, Nat.reduceLT, ite_true, ite_false, if_true, if_false, ↓reduceIte, reduceIte, ↓br_ite, Bool.false_eq_true, reduceCtorEq, Bool.not_true, Bool.not_false, decide_true, decide_false, Int.cast_ofNat_Int, Int.reduceBEq, Int.reduceAdd, Int.reduceSub, Int.reduceMul, Int.reduceNeg, Int.reduceLT, Int.reduceLE, Int.reduceMod, Int.reduceDiv, sMeth1_ap, sSl_ap, sRev_ap, oNo_ap, oPart_ap, sDict0_ap, sSetL_ap, gTp_ap, gConsS_ap, gNilS_ap]
      obtain ⟨zs, e5⟩ := M.ls
      refine ⟨_, _, _, _, rfl, ?_, by omega, some (T4 u v w z), rfl, M3⟩
      unfold l__law_near_3
      simp (maxSteps := 4000000) (dsimp := false) (disch := first | assumption | decide | omega | walk_at "cm") only [runDef_ap, sVar_ap, sC_ap, sBin_ap, sNeg_ap, sAnd_ap, sOr_ap, sNot_ap, sIf_ap, sTst_ap, qAnd_ap, qOr_ap, qNot_ap, qYes_ap, sChain_ap, sChain3_ap, sNil_ap, sCons_ap, sTup_ap, sLst_ap, sLstM_ap, sCall_ap, g1_ap, g2_ap, sFn_ap, sAsg_ap, gNm_ap, gTp_ap, gConsS_ap, gNilS_ap, sPar_ap, sPar3_ap, sRet_ap, sRetN_ap, sNx_ap, sBrk_ap, sCnt_ap, sSeq_ap, sIte_ap, sDrop_ap, sFrz_ap, sAug_ap, iRange1_ap, iRange2_ap, iSeq_ap, sFor_ap, sLc_ap, R.toG_ok, ↓R.bind_bnd, bnd_ok, ↓R.bd_bdn, bdn_ok, ↓R.toF_tof, tof_ok, ↓F.seq_sqn, sqn_nx, sqn_ret, sqn_cnt, sqn_brk, ↓F.turn_trn, trn_nx, trn_ret, trn_cnt, trn_brk, F.end_nx, F.end_ret, ↓br_true, br_true, ↓br_false, br_false, Dbr, Dneg, Dtst, opt_some, dAdd_int, dSub_int, dLt_int, dLe_int, dGt_int, dGe_int, dEq_int, dNe_int, dEq_bl, dNe_bl, dMul_cm, dMod_pos, dDiv_pos, dAbs_int, dMax2_int, dMin2_int, dInt_int, dInt_bl, dIx_tup, dIx_lst, dIx_seq, dLen_tup, dLen_lst, dLen_seq, atI_0, atI_1, atI_2, atI_3, List.map_cons, List.map_nil, List.length_cons, List.length_nil, List.replicate_succ, List.replicate_zero, List.cons_append, List.nil_append, List.getElem?_cons_zero, List.getElem?_cons_succ, List.set_cons_zero, List.set_cons_succ, Nat.reduceAdd, Nat.reduceSub, Nat.zero_add, Nat.add_zero, Nat.sub_self, Nat.reduceMul, mostL_def, Nat.reduceLeDiff, Nat.reduceLT, ite_true, ite_false, if_true, if_false, ↓reduceIte, reduceIte, ↓br_ite, Bool.false_eq_true, reduceCtorEq, Bool.not_true, Bool.not_false, decide_true, decide_false, Int.cast_ofNat_Int, Int.reduceBEq, Int.reduceAdd, Int.reduceSub, Int.reduceMul, Int.reduceNeg, Int.reduceLT, Int.reduceLE, Int.reduceMod, Int.reduceDiv, sMeth1_ap, sSl_ap, sRev_ap, oNo_ap, oPart_ap, sDict0_ap, sSetL_ap, sMeth1_ap, e5, e4, e3])
  -- one entry changed
  obtain ⟨v, h5, e5, v0, v1, d5⟩ := roll_ok (T := 4) M4.dr.dc (by decide) (by decide)
  have M5 := (M4.dice d5).mono (j := 50) (by simp)
  have st : ∀ {t : Int}, Sm 599 t → dStr (.int t) h5 = .ok (.str (toString t)) h5 := fun z => dStr_int (z.mono (by decide))
  have hc : c__law_near_1 [some (.ref d), some (T4 p q r s), some (T3 A B C), none, none, none, none] h = .ok (.lst [.int (-p), .int (-q), .int (-r), .int (-s)]) h := by kernel_rfl
  -- all in one
  have key : ∃ E : Int, Sm 599 E ∧ dIx (T4 p q r s) (.int v) h5 = .ok (.int E) h5 ∧ ∃ Fx : D → D, (∀ (x : D) (e0 e2 e3 e4 : Option D) (h : Ph), (sBin dAdd (sBin dAdd (sSl dSl (sVar 1) (oNo) (oPart (sVar 5))) (sTup (sCons (sVar 6) (sNil)))) (sSl dSl (sVar 1) (oPart (sBin dAdd (sVar 5) (sC (.int 1)))) (oNo))) [e0, some (T4 p q r s), e2, e3, e4, some (.int v), some x] h = .ok (Fx x) h) ∧
      ∀ x ∈ ([.int (E + 1), .int (E - 1), .str (toString E), .non, .bl true] : List D), Good a b c A B C (Fx x) := by
    have hv : v = 0 ∨ v = 1 ∨ v = 2 ∨ v = 3 := by omega
    have up : ∀ {t : Int}, Sm 599 t → Sm 600 (t + 1) := fun z => z.add1 s1
    have dn : ∀ {t : Int}, Sm 599 t → Sm 600 (t - 1) := fun z => z.sub1 s1
    rcases hv with rfl | rfl | rfl | rfl
    · refine ⟨p, sp, rfl, fun x => .tup [x, .int q, .int r, .int s], fun x e0 e2 e3 e4 h => by kernel_rfl, fun x hx => ?_⟩
      simp only [List.mem_cons, List.not_mem_nil, or_false] at hx
      rcases hx with rfl | rfl | rfl | rfl | rfl
      · exact good_ints f hk x (up sp) (l6 sq) (l6 sr) (l6 ss)
      · exact good_ints f hk x (dn sp) (l6 sq) (l6 sr) (l6 ss)
      · exact good_str0 f hk
      · exact good_non0 f hk
      · exact good_bl0 f hk
    · refine ⟨q, sq, rfl, fun x => .tup [.int p, x, .int r, .int s], fun x e0 e2 e3 e4 h => by kernel_rfl, fun x hx => ?_⟩
      simp only [List.mem_cons, List.not_mem_nil, or_false] at hx
      rcases hx with rfl | rfl | rfl | rfl | rfl
      · exact good_ints f hk x (l6 sp) (up sq) (l6 sr) (l6 ss)
      · exact good_ints f hk x (l6 sp) (dn sq) (l6 sr) (l6 ss)
      · exact good_str1 f hk
      · exact good_non1 f hk
      · exact good_bl1 f hk
    · refine ⟨r, sr, rfl, fun x => .tup [.int p, .int q, x, .int s], fun x e0 e2 e3 e4 h => by kernel_rfl, fun x hx => ?_⟩
      simp only [List.mem_cons, List.not_mem_nil, or_false] at hx
      rcases hx with rfl | rfl | rfl | rfl | rfl
      · exact good_ints f hk x (l6 sp) (l6 sq) (up sr) (l6 ss)
      · exact good_ints f hk x (l6 sp) (l6 sq) (dn sr) (l6 ss)
      · exact good_str2 f hk
      · exact good_non2 f hk
      · exact good_bl2 f hk
    · refine ⟨s, ss, rfl, fun x => .tup [.int p, .int q, .int r, x], fun x e0 e2 e3 e4 h => by kernel_rfl, fun x hx => ?_⟩
      simp only [List.mem_cons, List.not_mem_nil, or_false] at hx
      rcases hx with rfl | rfl | rfl | rfl | rfl
      · exact good_ints f hk x (l6 sp) (l6 sq) (l6 sr) (up ss)
      · exact good_ints f hk x (l6 sp) (l6 sq) (l6 sr) (dn ss)
      · exact good_str3 f hk
      · exact good_non3 f hk
      · exact good_bl3 f hk
  obtain ⟨E, sE, ix, Fx, ef, gf⟩ := key
  obtain ⟨e6, h6, q3, hj6, o6, rfl, M6⟩ := forGo_inv (g := gNm 6) (f := l__law_near_4) (fun j e h' => j ≤ 5 ∧ ∃ o6, e = [some (.ref d), some (T4 p q r s), some (T3 A B C), some (.ref h.length), o4', some (.int v), o6] ∧ Mk d h.length (Good a b c A B C) (50 + j) h h') [.int (E + 1), .int (E - 1), .str (toString E), .non, .bl true] 0 [some (.ref d), some (T4 p q r s), some (T3 A B C), some (.ref h.length), o4', some (.int v), none] h5 ⟨by omega, none, rfl, M5⟩
    (fun y hy j e h' hj hj2 ⟨_, o6, he, M⟩ => by
      subst he
      have hj3 : j < 5 := hj2
      obtain ⟨h3, e3, M3⟩ := M.app (by omega) (gf y hy)
      obtain ⟨zs, e5⟩ := M.ls
      refine ⟨_, _, _, _, rfl, ?_, by omega, some y, rfl, M3⟩
      have e4 := ef y (some (.ref d)) (some (T3 A B C)) (some (.ref h.length)) o4' h'
      show (sDrop (sMeth1 dAppend (sVar 3) (sBin dAdd (sBin dAdd (sSl dSl (sVar 1) (oNo) (oPart (sVar 5))) (sTup (sCons (sVar 6) (sNil)))) (sSl dSl (sVar 1) (oPart (sBin dAdd (sVar 5) (sC (.int 1)))) (oNo))))) [some (.ref d), some (T4 p q r s), some (T3 A B C), some (.ref h.length), o4', some (.int v), some y] h' = _
      unfold sDrop sMeth1
      rw [sVar_at (d := .ref h.length) (by rfl)]
      simp only [R.bind_ok, e5, opt_some, e4, e3, R.toF_ok])
  obtain ⟨ys, h7, z1, z2, z3, z4⟩ := M6.frz
  refine ⟨ys, h7, ?_, z2, by simp at z3; omega, z4⟩
  have e8 := st sE
  have c1 : dList (T4 p q r s) h = .ok (.lst [.int p, .int q, .int r, .int s]) h := rfl
  have c2 : dTuple (.lst [.int (-p), .int (-q), .int (-r), .int (-s)]) h = .ok (T4 (-p) (-q) (-r) (-s)) h := rfl
  have c3 : dSl (T4 p q r s) none (some 3) h = .ok (.tup [.int p, .int q, .int r]) h := by kernel_rfl
  have c4 : dAdd (T4 p q r s) (.tup [.int 0]) h = .ok (.tup [.int p, .int q, .int r, .int s, .int 0]) h := by kernel_rfl
  unfold m__law_near
  simp (maxSteps := 4000000) (dsimp := false) (disch := first | assumption | decide | omega | walk_at "cm") only [runDef_ap, sVar_ap, sC_ap, sBin_ap, sNeg_ap, sAnd_ap, sOr_ap, sNot_ap, sIf_ap, sTst_ap, qAnd_ap, qOr_ap, qNot_ap, qYes_ap, sChain_ap, sChain3_ap, sNil_ap, sCons_ap, sTup_ap, sLst_ap, sLstM_ap, sCall_ap, g1_ap, g2_ap, sFn_ap, sAsg_ap, gNm_ap, gTp_ap, gConsS_ap, gNilS_ap, sPar_ap, sPar3_ap, sRet_ap, sRetN_ap, sNx_ap, sBrk_ap, sCnt_ap, sSeq_ap, sIte_ap, sDrop_ap, sFrz_ap, sAug_ap, iRange1_ap, iRange2_ap, iSeq_ap, sFor_ap, sLc_ap, R.toG_ok, ↓R.bind_bnd, bnd_ok, ↓R.bd_bdn, bdn_ok, ↓R.toF_tof, tof_ok, ↓F.seq_sqn, sqn_nx, sqn_ret, sqn_cnt, sqn_brk, ↓F.turn_trn, trn_nx, trn_ret, trn_cnt, trn_brk, F.end_nx, F.end_ret, ↓br_true, br_true, ↓br_false, br_false, Dbr, Dneg, Dtst, opt_some, dAdd_int, dSub_int, dLt_int, dLe_int, dGt_int, dGe_int, dEq_int, dNe_int, dEq_bl, dNe_bl, dMul_cm, dMod_pos, dDiv_pos, dAbs_int, dMax2_int, dMin2_int, dInt_int, dInt_bl, dIx_tup, dIx_lst, dIx_seq, dLen_tup, dLen_lst, dLen_seq, atI_0, atI_1, atI_2, atI_3, List.map_cons, List.map_nil, List.length_cons, List.length_nil, List.replicate_succ, List.replicate_zero, List.cons_append, List.nil_append, List.getElem?_cons_zero, List.getElem?_cons_succ, List.set_cons_zero, List.set_cons_succ, Nat.reduceAdd, Nat.reduceSub, Nat.zero_add, Nat.add_zero, Nat.sub_self, Nat.reduceMul, mostL_def, Nat.reduceLeDiff, Nat.reduceLT, ite_true, ite_false, if_true, if_false, ↓reduceIte, reduceIte, ↓br_ite, Bool.false_eq_true, reduceCtorEq, Bool.not_true, Bool.not_false, decide_true, decide_false, Int.cast_ofNat_Int, Int.reduceBEq, Int.reduceAdd, Int.reduceSub, Int.reduceMul, Int.reduceNeg, Int.reduceLT, Int.reduceLE, Int.reduceMod, Int.reduceDiv, sMeth1_ap, sSl_ap, sRev_ap, oNo_ap, oPart_ap, sDict0_ap, sSetL_ap, c1, c2, c3, c4, hc, hh, iSeq_at, e1, q1, e3, q2, e5, ix, e8, q3, sFrz_ap, z1, Int.reduceNeg]
end L43

/-! K43d: the law of reducing -/
namespace L43
open PySem L2 Evl Pd
local macro_rules | `(tactic| walk_at "sm") => `(tactic| first | assumption | exact Sm.lit | exact Sm.mul (by walk_at "sm") (by walk_at "sm") | exact Sm.add (by walk_at "sm") (by walk_at "sm") | exact Sm.sub (by walk_at "sm") (by walk_at "sm") | exact Sm.neg (by walk_at "sm"))
local macro_rules | `(tactic| walk_at "cm") => `(tactic| ((with_reducible show CM _ _); first | assumption | exact CM.left (by decide) | exact CM.right (by decide) | exact CM.left (by omega) | exact CM.right (by omega) | exact CM.of (by walk_at "sm") (by walk_at "sm") (by decide)))
theorem value_ok {a b c A B C : Int} {v : D} {o0 o1 o3 o5 : Option D} {h : Ph} (g : Good a b c A B C v) : l__law_right_1 [o0, o1, some (T3 A B C), o3, some (T3 a b c), o5, some v] h = .nx [o0, o1, some (T3 A B C), o3, some (T3 a b c), o5, some v] h := by
  obtain ⟨t, e1, e2⟩ := g h
  have e3 : dNe (.bl t) (.bl t) h = .ok (.bl false) h := by cases t <;> rfl
  unfold l__law_right_1
  simp (maxSteps := 4000000) (dsimp := false) (disch := first | assumption | decide | omega | walk_at "cm") only [runDef_ap, sVar_ap, sC_ap, sBin_ap, sNeg_ap, sAnd_ap, sOr_ap, sNot_ap, sIf_ap, sTst_ap, qAnd_ap, qOr_ap, qNot_ap, qYes_ap, sChain_ap, sChain3_ap, sNil_ap, sCons_ap, sTup_ap, sLst_ap, sLstM_ap, sCall_ap, g1_ap, g2_ap, sFn_ap, sAsg_ap, gNm_ap, gTp_ap, gConsS_ap, gNilS_ap, sPar_ap, sPar3_ap, sRet_ap, sRetN_ap, sNx_ap, sBrk_ap, sCnt_ap, sSeq_ap, sIte_ap, sDrop_ap, sFrz_ap, sAug_ap, iRange1_ap, iRange2_ap, iSeq_ap, sFor_ap, sLc_ap, R.toG_ok, ↓R.bind_bnd, bnd_ok, ↓R.bd_bdn, bdn_ok, ↓R.toF_tof, tof_ok, ↓F.seq_sqn, sqn_nx, sqn_ret, sqn_cnt, sqn_brk, ↓F.turn_trn, trn_nx, trn_ret, trn_cnt, trn_brk, F.end_nx, F.end_ret, ↓br_true, br_true, ↓br_false, br_false, Dbr, Dneg, Dtst, opt_some, dAdd_int, dSub_int, dLt_int, dLe_int, dGt_int, dGe_int, dEq_int, dNe_int, dEq_bl, dNe_bl, dMul_cm, dMod_pos, dDiv_pos, dAbs_int, dMax2_int, dMin2_int, dInt_int, dInt_bl, dIx_tup, dIx_lst, dIx_seq, dLen_tup, dLen_lst, dLen_seq, atI_0, atI_1, atI_2, atI_3, List.map_cons, List.map_nil, List.length_cons, List.length_nil, List.replicate_succ, List.replicate_zero, List.cons_append, List.nil_append, List.getElem?_cons_zero, List.getElem?_cons_succ, List.set_cons_zero, List.set_cons_succ, Nat.reduceAdd, Nat.reduceSub, Nat.zero_add, Nat.add_zero, Nat.sub_self, Nat.reduceMul, mostL_def, Nat.reduceLeDiff, Nat.reduceLT, ite_true, ite_false, if_true, if_false, ↓reduceIte, reduceIte, ↓br_ite, Bool.false_eq_true, reduceCtorEq, Bool.not_true, Bool.not_false, decide_true, decide_false, Int.cast_ofNat_Int, Int.reduceBEq, Int.reduceAdd, Int.reduceSub, Int.reduceMul, Int.reduceNeg, Int.reduceLT, Int.reduceLE, Int.reduceMod, Int.reduceDiv, sMeth1_ap, sSl_ap, sRev_ap, oNo_ap, oPart_ap, sDict0_ap, sSetL_ap, e1, e2, e3]
theorem true3 {p q r s A B C a b c : Int} (d : p * s - q * r = 1) (e1 : lA a b c p r = A) (e2 : lB a b c p q r s = B) (e3 : lA a b c q s = C) : ((p * s - q * r == 1) && (lA a b c p r == A && (lB a b c p q r s == B && (lA a b c q s == C && true)))) = true := by
  simp only [Bool.and_eq_true, beq_iff_eq]
  exact ⟨d, e1, e2, e3, trivial⟩
theorem turn_ok {n : Nat} {h : Ph} {a b c A B C : Int} {o3 o4 o5 o6 : Option D} (hd : Dc h n) (f : Fm 62 a b c) (x : Rdc a b c A B C) (fl : Fm 127 A B C) :
    ∃ o4' o5' o6' h', l__law_right_2 [some (.ref n), some (T3 a b c), some (T3 A B C), o3, o4, o5, o6] h = .nx [some (.ref n), some (T3 a b c), some (T3 A B C), o3, o4', o5', o6'] h' ∧ Dr n h h' := by
  obtain ⟨p, q, r, s, h1, e1, m, d1⟩ := matrix_ok (z := 9) hd (by decide) (by decide)
  have m' : Mx 46 p q r s := m.mono (by decide)
  have e2 := bf_led_ok (h := h1) (f.sa.mono (by decide)) (f.sb.mono (by decide)) (f.sc.mono (by decide)) (m'.mono (by decide))
  have f2 : Fm 158 _ _ _ := f.led m'
  have x2 := x.led m'.det rfl rfl rfl
  generalize lA a b c p r = a' at *
  generalize lB a b c p q r s = b' at *
  generalize lA a b c q s = c' at *
  obtain ⟨p', q', r', s', e3, y⟩ := reducing_matrix_ok (h := h1) f2 (by decide) x2
  have my := (y.mx f2).mono (by decide : 2 * 158 + 3 ≤ 450)
  have e4 := reduced_form_ok (h := h1) f2 (by decide) x2
  have e5 := right_ints (h := h1) (A := A) (B := B) (C := C) f2 (by decide) (my.sp.mono (by decide)) (my.sq.mono (by decide)) (my.sr.mono (by decide)) (my.ss.mono (by decide))
  rw [true3 y.det y.eA y.eB y.eC] at e5
  obtain ⟨ys, h2, e6, gy, ly, d2⟩ := near_ok d1.dc f2 (by decide) x2 my (fl.mono (by decide))
  obtain ⟨e', h3, q1, rfl, o6', rfl⟩ := forGo_inv (g := gNm 6) (f := l__law_right_1) (fun j e h' => h' = h2 ∧ ∃ o6, e = [some (.ref n), some (T3 a b c), some (T3 A B C), o3, some (T3 a' b' c'), some (T4 p' q' r' s'), o6]) ys 0 [some (.ref n), some (T3 a b c), some (T3 A B C), o3, some (T3 a' b' c'), some (T4 p' q' r' s'), o6] h2 ⟨rfl, o6, rfl⟩
    (fun v hv j e h' _ _ ⟨hh, o6, he⟩ => by
      subst hh
      subst he
      exact ⟨_, _, _, _, rfl, value_ok (gy v hv), rfl, some v, rfl⟩)
  refine ⟨some (T3 a' b' c'), some (T4 p' q' r' s'), o6', h3, ?_, d1.trans d2⟩
  have e7 : dNe (T3 A B C) (T3 A B C) h1 = .ok (.bl false) h1 := dNe_T3_same rfl rfl rfl
  unfold l__law_right_2
  simp (maxSteps := 4000000) (dsimp := false) (disch := first | assumption | decide | omega | walk_at "cm") only [runDef_ap, sVar_ap, sC_ap, sBin_ap, sNeg_ap, sAnd_ap, sOr_ap, sNot_ap, sIf_ap, sTst_ap, qAnd_ap, qOr_ap, qNot_ap, qYes_ap, sChain_ap, sChain3_ap, sNil_ap, sCons_ap, sTup_ap, sLst_ap, sLstM_ap, sCall_ap, g1_ap, g2_ap, sFn_ap, sAsg_ap, gNm_ap, gTp_ap, gConsS_ap, gNilS_ap, sPar_ap, sPar3_ap, sRet_ap, sRetN_ap, sNx_ap, sBrk_ap, sCnt_ap, sSeq_ap, sIte_ap, sDrop_ap, sFrz_ap, sAug_ap, iRange1_ap, iRange2_ap, iSeq_ap, sFor_ap, sLc_ap, R.toG_ok, ↓R.bind_bnd, bnd_ok, ↓R.bd_bdn, bdn_ok, ↓R.toF_tof, tof_ok, ↓F.seq_sqn, sqn_nx, sqn_ret, sqn_cnt, sqn_brk, ↓F.turn_trn, trn_nx, trn_ret, trn_cnt, trn_brk, F.end_nx, F.end_ret, ↓br_true, br_true, ↓br_false, br_false, Dbr, Dneg, Dtst, opt_some, dAdd_int, dSub_int, dLt_int, dLe_int, dGt_int, dGe_int, dEq_int, dNe_int, dEq_bl, dNe_bl, dMul_cm, dMod_pos, dDiv_pos, dAbs_int, dMax2_int, dMin2_int, dInt_int, dInt_bl, dIx_tup, dIx_lst, dIx_seq, dLen_tup, dLen_lst, dLen_seq, atI_0, atI_1, atI_2, atI_3, List.map_cons, List.map_nil, List.length_cons, List.length_nil, List.replicate_succ, List.replicate_zero, List.cons_append, List.nil_append, List.getElem?_cons_zero, List.getElem?_cons_succ, List.set_cons_zero, List.set_cons_succ, Nat.reduceAdd, Nat.reduceSub, Nat.zero_add, Nat.add_zero, Nat.sub_self, Nat.reduceMul, mostL_def, Nat.reduceLeDiff, Nat.reduceLT, ite_true, ite_false, if_true, if_false, ↓reduceIte, reduceIte, ↓br_ite, Bool.false_eq_true, reduceCtorEq, Bool.not_true, Bool.not_false, decide_true, decide_false, Int.cast_ofNat_Int, Int.reduceBEq, Int.reduceAdd, Int.reduceSub, Int.reduceMul, Int.reduceNeg, Int.reduceLT, Int.reduceLE, Int.reduceMod, Int.reduceDiv, sMeth1_ap, sSl_ap, sRev_ap, oNo_ap, oPart_ap, sDict0_ap, sSetL_ap, e1, e2, e3, e4, e5, e6, e7, q1, iSeq_at]
theorem right_ok {n : Nat} {h : Ph} (hd : Dc h n) : ∃ h', m__law_right [.ref n] h = .ok (.bl true) h' ∧ Dr n h h' := by
  obtain ⟨d, h1, e1, hm, d1⟩ := pick_ok (xs := [.int 3, .int 6, .int 30, .int 10000000]) hd (by simp) (by simp)
  obtain ⟨T, rfl, T1, T2⟩ : ∃ T : Int, d = .int T ∧ 0 < T ∧ T ≤ 1000000000 := by
    simp only [List.mem_cons, List.not_mem_nil, or_false] at hm
    rcases hm with rfl | rfl | rfl | rfl <;> exact ⟨_, rfl, by decide, by decide⟩
  obtain ⟨a, b, c, h2, e2, f, d2⟩ := drawn_ok d1.dc T1 T2
  obtain ⟨A, B, C, x, fl, _⟩ := rdc_some f (by decide)
  have fl : Fm 127 A B C := fl.mono (by decide)
  obtain ⟨p, q, r, s, e3, y⟩ := bf_least_all (h := h2) f (by decide) x
  have e4 := reduced_form_ok (h := h2) f (by decide) x
  have e5 := reduced_fm (h := h2) (fl.mono (by decide))
  rw [x.l] at e5
  have e6 := reduced_form_ok (h := h2) fl (by decide) (x.led y.det y.eA y.eB y.eC)
  have e7 : dNe (T3 A B C) (T3 A B C) h2 = .ok (.bl false) h2 := dNe_T3_same rfl rfl rfl
  obtain ⟨e', h3, q1, ⟨o3, o4, o5, o6, rfl⟩, d3⟩ := forGo_inv (g := gNm 3) (f := l__law_right_2) (fun j e h' => (∃ o3 o4 o5 o6, e = [some (.ref n), some (T3 a b c), some (T3 A B C), o3, o4, o5, o6]) ∧ Dr n h2 h') (rangeD 0 3) 0 [some (.ref n), some (T3 a b c), some (T3 A B C), none, none, none, none] h2 ⟨⟨_, _, _, _, rfl⟩, Dr.refl d2.dc⟩
    (fun v hv j e h' _ _ ⟨⟨o3, o4, o5, o6, he⟩, dr⟩ => by
      subst he
      obtain ⟨o4', o5', o6', h4, s1, s2⟩ := turn_ok (o3 := some v) (o4 := o4) (o5 := o5) (o6 := o6) dr.dc f x fl
      exact ⟨_, _, _, _, rfl, s1, ⟨_, _, _, _, rfl⟩, dr.trans s2⟩)
  obtain ⟨p2, q2, r2, s2, e8, y2⟩ := bf_least_all (h := h3) f (by decide) x
  have my := (y2.mx f).mono (by decide : 2 * 62 + 3 ≤ 600)
  have e9 := is_reducing_ok (h := h3) f (by decide) x my.sp my.sq my.sr my.ss
  rw [true3 y2.det y2.eA y2.eB y2.eC] at e9
  refine ⟨h3, ?_, (d1.trans d2).trans d3⟩
  have r4 := rng_ok (n := 3) (h := h2) (by decide) (by decide)
  rw [show (3 : Int).toNat = 3 from rfl] at r4
  unfold m__law_right
  simp (maxSteps := 4000000) (dsimp := false) (disch := first | assumption | decide | omega | walk_at "cm") only [runDef_ap, sVar_ap, sC_ap, sBin_ap, sNeg_ap, sAnd_ap, sOr_ap, sNot_ap, sIf_ap, sTst_ap, qAnd_ap, qOr_ap, qNot_ap, qYes_ap, sChain_ap, sChain3_ap, sNil_ap, sCons_ap, sTup_ap, sLst_ap, sLstM_ap, sCall_ap, g1_ap, g2_ap, sFn_ap, sAsg_ap, gNm_ap, gTp_ap, gConsS_ap, gNilS_ap, sPar_ap, sPar3_ap, sRet_ap, sRetN_ap, sNx_ap, sBrk_ap, sCnt_ap, sSeq_ap, sIte_ap, sDrop_ap, sFrz_ap, sAug_ap, iRange1_ap, iRange2_ap, iSeq_ap, sFor_ap, sLc_ap, R.toG_ok, ↓R.bind_bnd, bnd_ok, ↓R.bd_bdn, bdn_ok, ↓R.toF_tof, tof_ok, ↓F.seq_sqn, sqn_nx, sqn_ret, sqn_cnt, sqn_brk, ↓F.turn_trn, trn_nx, trn_ret, trn_cnt, trn_brk, F.end_nx, F.end_ret, ↓br_true, br_true, ↓br_false, br_false, Dbr, Dneg, Dtst, opt_some, dAdd_int, dSub_int, dLt_int, dLe_int, dGt_int, dGe_int, dEq_int, dNe_int, dEq_bl, dNe_bl, dMul_cm, dMod_pos, dDiv_pos, dAbs_int, dMax2_int, dMin2_int, dInt_int, dInt_bl, dIx_tup, dIx_lst, dIx_seq, dLen_tup, dLen_lst, dLen_seq, atI_0, atI_1, atI_2, atI_3, List.map_cons, List.map_nil, List.length_cons, List.length_nil, List.replicate_succ, List.replicate_zero, List.cons_append, List.nil_append, List.getElem?_cons_zero, List.getElem?_cons_succ, List.set_cons_zero, List.set_cons_succ, Nat.reduceAdd, Nat.reduceSub, Nat.zero_add, Nat.add_zero, Nat.sub_self, Nat.reduceMul, mostL_def, Nat.reduceLeDiff, Nat.reduceLT, ite_true, ite_false, if_true, if_false, ↓reduceIte, reduceIte, ↓br_ite, Bool.false_eq_true, reduceCtorEq, Bool.not_true, Bool.not_false, decide_true, decide_false, Int.cast_ofNat_Int, Int.reduceBEq, Int.reduceAdd, Int.reduceSub, Int.reduceMul, Int.reduceNeg, Int.reduceLT, Int.reduceLE, Int.reduceMod, Int.reduceDiv, sMeth1_ap, sSl_ap, sRev_ap, oNo_ap, oPart_ap, sDict0_ap, sSetL_ap, e1, e2, e3, e4, e5, e6, e7, e8, e9, r4, q1, Int.reduceToNat]
/-- one round of the law -/
theorem spot_ok {ns : List Int} {h : Ph} {k : Nat} {o3 : Option D} : ∃ o3' h', l_law_1 [some (.seq (ns.map D.int)), some (.int k), none, o3] h = .nx [some (.seq (ns.map D.int)), some (.int k), none, o3'] h' := by
  obtain ⟨l, m, e1⟩ := dice_ok ns k (by omega) h
  have hd : Dc (h ++ [.lst [.int l, .int m, .int 0]]) h.length := ⟨l, m, 0, by simp⟩
  generalize h ++ [.lst [.int l, .int m, .int 0]] = h1 at e1 hd
  obtain ⟨h2, e2, d2⟩ := right_ok hd
  obtain ⟨h3, e3, d3⟩ := right_ok d2.dc
  refine ⟨some (.ref h.length), h3, ?_⟩
  unfold l_law_1
  simp (maxSteps := 4000000) (dsimp := false) (disch := first | assumption | decide | omega | walk_at "cm") only [runDef_ap, sVar_ap, sC_ap, sBin_ap, sNeg_ap, sAnd_ap, sOr_ap, sNot_ap, sIf_ap, sTst_ap, qAnd_ap, qOr_ap, qNot_ap, qYes_ap, sChain_ap, sChain3_ap, sNil_ap, sCons_ap, sTup_ap, sLst_ap, sLstM_ap, sCall_ap, g1_ap, g2_ap, sFn_ap, sAsg_ap, gNm_ap, gTp_ap, gConsS_ap, gNilS_ap, sPar_ap, sPar3_ap, sRet_ap, sRetN_ap, sNx_ap, sBrk_ap, sCnt_ap, sSeq_ap, sIte_ap, sDrop_ap, sFrz_ap, sAug_ap, iRange1_ap, iRange2_ap, iSeq_ap, sFor_ap, sLc_ap, R.toG_ok, ↓R.bind_bnd, bnd_ok, ↓R.bd_bdn, bdn_ok, ↓R.toF_tof, tof_ok, ↓F.seq_sqn, sqn_nx, sqn_ret, sqn_cnt, sqn_brk, ↓F.turn_trn, trn_nx, trn_ret, trn_cnt, trn_brk, F.end_nx, F.end_ret, ↓br_true, br_true, ↓br_false, br_false, Dbr, Dneg, Dtst, opt_some, dAdd_int, dSub_int, dLt_int, dLe_int, dGt_int, dGe_int, dEq_int, dNe_int, dEq_bl, dNe_bl, dMul_cm, dMod_pos, dDiv_pos, dAbs_int, dMax2_int, dMin2_int, dInt_int, dInt_bl, dIx_tup, dIx_lst, dIx_seq, dLen_tup, dLen_lst, dLen_seq, atI_0, atI_1, atI_2, atI_3, List.map_cons, List.map_nil, List.length_cons, List.length_nil, List.replicate_succ, List.replicate_zero, List.cons_append, List.nil_append, List.getElem?_cons_zero, List.getElem?_cons_succ, List.set_cons_zero, List.set_cons_succ, Nat.reduceAdd, Nat.reduceSub, Nat.zero_add, Nat.add_zero, Nat.sub_self, Nat.reduceMul, mostL_def, Nat.reduceLeDiff, Nat.reduceLT, ite_true, ite_false, if_true, if_false, ↓reduceIte, reduceIte, ↓br_ite, Bool.false_eq_true, reduceCtorEq, Bool.not_true, Bool.not_false, decide_true, decide_false, Int.cast_ofNat_Int, Int.reduceBEq, Int.reduceAdd, Int.reduceSub, Int.reduceMul, Int.reduceNeg, Int.reduceLT, Int.reduceLE, Int.reduceMod, Int.reduceDiv, sMeth1_ap, sSl_ap, sRev_ap, oNo_ap, oPart_ap, sDict0_ap, sSetL_ap, e1, e2, e3]
theorem told {a b c A B C p q r s : Int} (ha : 0 < a) (hm : 0 < 4 * a * c - b * b) (s1 : Sm 62 a) (s2 : Sm 62 b) (s3 : Sm 62 c) (d : p * s - q * r = 1) (e1 : lA a b c p r = A) (e2 : lB a b c p q r s = B) (e3 : lA a b c q s = C) (l : Lst A B C = true) : Fm 62 a b c ∧ Rdc a b c A B C := by
  have f : Fm 62 a b c := ⟨s1, s2, s3, ha, hm⟩
  obtain ⟨A', B', C', x, _⟩ := rdc_some f (by decide)
  obtain ⟨rfl, rfl, rfl⟩ := x.u A B C p q r s d e1 e2 e3 l
  exact ⟨f, x⟩
theorem left : Left := by
  intro ns hl
  obtain ⟨e', h', q1, q2⟩ := forGo_inv (g := gNm 1) (f := l_law_1) (fun j e h' => ∃ o1 o3, e = [some (.seq (ns.map D.int)), o1, none, o3]) (rangeD 0 (if (if (ns.length : Int) < 3 then (ns.length : Int) else 3) > 1 then (if (ns.length : Int) < 3 then (ns.length : Int) else 3) else 1).toNat) 0 [some (.seq (ns.map D.int)), none, none, none] [] ⟨_, _, rfl⟩
    (fun x hx j e h2 _ _ ⟨o1, o3, he⟩ => by
      subst he
      obtain ⟨k, _, rfl⟩ := rangeD_mem hx
      obtain ⟨o3', h3, s1⟩ := spot_ok (ns := ns) (h := h2) (k := k) (o3 := o3)
      exact ⟨_, _, _, _, rfl, by rw [Int.zero_add]; exact s1, _, _, rfl⟩)
  obtain ⟨o1, o3, he⟩ := q2
  subst he
  refine ⟨h', ?_⟩
  obtain ⟨f1, x1⟩ := told (a := 6) (b := 13) (c := 8) (A := 1) (B := 1) (C := 6) (p := -1) (q := -2) (r := 1) (s := 1) (by decide) (by decide) ⟨by decide⟩ ⟨by decide⟩ ⟨by decide⟩ (by decide) (by decide) (by decide) (by decide) (by decide)
  obtain ⟨f2, x2⟩ := told (a := 3) (b := -5) (c := 4) (A := 2) (B := -1) (C := 3) (p := 1) (q := -1) (r := 1) (s := 0) (by decide) (by decide) ⟨by decide⟩ ⟨by decide⟩ ⟨by decide⟩ (by decide) (by decide) (by decide) (by decide) (by decide)
  obtain ⟨f3, x3⟩ := told (a := 2) (b := -2) (c := 3) (A := 2) (B := 2) (C := 3) (p := 1) (q := 1) (r := 0) (s := 1) (by decide) (by decide) ⟨by decide⟩ ⟨by decide⟩ ⟨by decide⟩ (by decide) (by decide) (by decide) (by decide) (by decide)
  obtain ⟨f4, x4⟩ := told (a := 3) (b := -1) (c := 3) (A := 3) (B := 1) (C := 3) (p := 0) (q := -1) (r := 1) (s := 0) (by decide) (by decide) ⟨by decide⟩ ⟨by decide⟩ ⟨by decide⟩ (by decide) (by decide) (by decide) (by decide) (by decide)
  obtain ⟨f5, x5⟩ := told (a := 1) (b := 5) (c := 12) (A := 1) (B := 1) (C := 6) (p := -1) (q := 2) (r := 0) (s := -1) (by decide) (by decide) ⟨by decide⟩ ⟨by decide⟩ ⟨by decide⟩ (by decide) (by decide) (by decide) (by decide) (by decide)
  have a1 := reduced_form_ok (h := h') f1 (by decide) x1
  have a2 := reduced_form_ok (h := h') f2 (by decide) x2
  have a3 := reduced_form_ok (h := h') f3 (by decide) x3
  have a4 := reduced_form_ok (h := h') f4 (by decide) x4
  have a5 := is_reducing_ok (h := h') (p := -1) (q := 2) (r := 0) (s := -1) f5 (by decide) x5 ⟨by decide +kernel⟩ ⟨by decide +kernel⟩ ⟨by decide +kernel⟩ ⟨by decide +kernel⟩
  rw [true3 (by decide) (by decide) (by decide) (by decide)] at a5
  have a6 : dEq (.lst [T3 1 1 6, T3 2 (-1) 3, T3 2 2 3, T3 3 1 3]) (.lst [T3 1 1 6, T3 2 (-1) 3, T3 2 2 3, T3 3 1 3]) h' = .ok (.bl true) h' := rfl
  unfold m_law
  simp (maxSteps := 4000000) (dsimp := false) (disch := first | assumption | decide | omega | walk_at "cm") only [runDef_ap, sVar_ap, sC_ap, sBin_ap, sNeg_ap, sAnd_ap, sOr_ap, sNot_ap, sIf_ap, sTst_ap, qAnd_ap, qOr_ap, qNot_ap, qYes_ap, sChain_ap, sChain3_ap, sNil_ap, sCons_ap, sTup_ap, sLst_ap, sLstM_ap, sCall_ap, g1_ap, g2_ap, sFn_ap, sAsg_ap, gNm_ap, gTp_ap, gConsS_ap, gNilS_ap, sPar_ap, sPar3_ap, sRet_ap, sRetN_ap, sNx_ap, sBrk_ap, sCnt_ap, sSeq_ap, sIte_ap, sDrop_ap, sFrz_ap, sAug_ap, iRange1_ap, iRange2_ap, iSeq_ap, sFor_ap, sLc_ap, R.toG_ok, ↓R.bind_bnd, bnd_ok, ↓R.bd_bdn, bdn_ok, ↓R.toF_tof, tof_ok, ↓F.seq_sqn, sqn_nx, sqn_ret, sqn_cnt, sqn_brk, ↓F.turn_trn, trn_nx, trn_ret, trn_cnt, trn_brk, F.end_nx, F.end_ret, ↓br_true, br_true, ↓br_false, br_false, Dbr, Dneg, Dtst, opt_some, dAdd_int, dSub_int, dLt_int, dLe_int, dGt_int, dGe_int, dEq_int, dNe_int, dEq_bl, dNe_bl, dMul_cm, dMod_pos, dDiv_pos, dAbs_int, dMax2_int, dMin2_int, dInt_int, dInt_bl, dIx_tup, dIx_lst, dIx_seq, dLen_tup, dLen_lst, dLen_seq, atI_0, atI_1, atI_2, atI_3, List.map_cons, List.map_nil, List.length_cons, List.length_nil, List.replicate_succ, List.replicate_zero, List.cons_append, List.nil_append, List.getElem?_cons_zero, List.getElem?_cons_succ, List.set_cons_zero, List.set_cons_succ, Nat.reduceAdd, Nat.reduceSub, Nat.zero_add, Nat.add_zero, Nat.sub_self, Nat.reduceMul, mostL_def, Nat.reduceLeDiff, Nat.reduceLT, ite_true, ite_false, if_true, if_false, ↓reduceIte, reduceIte, ↓br_ite, Bool.false_eq_true, reduceCtorEq, Bool.not_true, Bool.not_false, decide_true, decide_false, Int.cast_ofNat_Int, Int.reduceBEq, Int.reduceAdd, Int.reduceSub, Int.reduceMul, Int.reduceNeg, Int.reduceLT, Int.reduceLE, Int.reduceMod, Int.reduceDiv, sMeth1_ap, sSl_ap, sRev_ap, oNo_ap, oPart_ap, sDict0_ap, sSetL_ap, List.length_map, rng_ok, q1, a1, a2, a3, a4, a5, a6]
end L43

namespace L43
open PySem L2 Evl Pd
open PyProof.Rows (envOfC)
def top (i : Nat) : Stmt := PySem.Challenge.pw_levelroads_k43_whole_reducing.main.body.getD i (.Pass ⟨0, 0, 0, 0⟩)
/-! ### _law_dice -/
abbrev s__law_dice : Stmt := top 25
abbrev n__law_dice : List Str := ["_law_script", "_law_spot", "_law_cell", "_law_left"]
theorem sc__law_dice : FnScope n__law_dice ["_law_script", "_law_spot"] (defScope s__law_dice) := ⟨rfl, rfl, rfl, by decide +kernel, rfl, by decide +kernel, by decide +kernel⟩
theorem d__law_dice {B : Cb} {a : Addr} {fd : FuncData} (F : FunD B.K "_law_dice" "_law_dice" (defArgs s__law_dice) (defBody s__law_dice) (defScope s__law_dice) [] [] a fd) (hm : B.mg "_law_dice" = some (.ref a)) (z_len : B.mg "len" = none) (z_int : B.mg "int" = none) (z_max : B.mg "max" = none) (z_abs : B.mg "abs" = none) : Def B 1 "_law_dice" 2 f__law_dice :=
  Def.mk' (N := n__law_dice) (ps := ["_law_script", "_law_spot"]) F hm sc__law_dice (fun _ _ _ _ _ _ us hl => match us, hl with | [_, _], _ => rfl) (fun cdv A outer s H E hr =>
    (bi_cons (si_set 2 sc__law_dice.nd rfl (fun _ => .inl rfl) (fun _ => .inr rfl) (ei_ifExp (ti_cmp (fun _ => op_ltAll hr.units0) oi_lt (nomark _) (ei_var 1) (ei_callB (fun _ => call_lenA) ci_len (fun _ => rfl) z_len (by decide +kernel) (ai_cons (ei_var 0) ai_nil))) (ei_callTy (fun _ => call_int1) ci_int (fun _ => rfl) z_int (by decide +kernel) (ai_cons (ei_ix (ei_var 0) (ei_var 1) (fun _ _ => rfl)) ai_nil)) (ei_bin (fun _ => op_addAll) oi_add (ei_bin (fun _ => op_mulAll) oi_mul ei_int (ei_var 1)) ei_int))) (bi_cons (si_set 3 sc__law_dice.nd rfl (fun _ => .inl rfl) (fun _ => .inr rfl) (ei_bin (fun _ => op_modN) oi_mod (ei_callB (fun _ => (call_max2 rfl)) ci_max2 (fun _ => rfl) z_max (by decide +kernel) (ai_cons ei_int (ai_cons (ei_bin (fun _ => op_sub) oi_sub (ei_callB (fun _ => call_abs) ci_abs (fun _ => rfl) z_abs (by decide +kernel) (ai_cons (ei_var 2) ai_nil)) (ei_fold (f := sBin dPow (sC (.int 10)) (sC (.int 17))) (ei_bin (fun _ => op_pow) oi_pow ei_int ei_int) (by kernel_rfl))) ai_nil))) (ei_fold (f := sBin dMul (sC (.int (100000000000000000000000000000000000000000000000000000000000))) (sC (.int (1000000000000000000000000000000000000000000000000000000000000)))) (ei_bin (fun _ => op_mulAll) oi_mul (ei_fold (f := sBin dPow (sC (.int 10)) (sC (.int 59))) (ei_bin (fun _ => op_pow) oi_pow ei_int ei_int) (by kernel_rfl)) (ei_fold (f := sBin dPow (sC (.int 10)) (sC (.int 60))) (ei_bin (fun _ => op_pow) oi_pow ei_int ei_int) (by kernel_rfl))) (by kernel_rfl)))) (bi_one (si_ret (ei_lstM (ai_cons (ei_var 3) (ai_cons (ei_bin (fun _ => op_addAll) oi_add (ei_bin (fun _ => op_addAll) oi_add (ei_bin (fun _ => op_addAll) oi_add (ei_bin (fun _ => op_mulAll) oi_mul (ei_bin (fun _ => op_modN) oi_mod (ei_callB (fun _ => call_abs) ci_abs (fun _ => rfl) z_abs (by decide +kernel) (ai_cons (ei_var 2) ai_nil)) ei_int) ei_int) (ei_bin (fun _ => op_mulAll) oi_mul ei_int (ei_var 1))) (ei_bin (fun _ => op_mulAll) oi_mul ei_int (ei_callTy (fun _ => call_int1) ci_int (fun _ => rfl) z_int (by decide +kernel) (ai_cons (ei_cmp (fun _ => op_ltAll hr.units0) oi_lt (nomark _) (ei_var 2) ei_int) ai_nil)))) ei_int) (ai_cons ei_int ai_nil)))))))))
/-! ### _law_roll -/
abbrev s__law_roll : Stmt := top 26
abbrev n__law_roll : List Str := ["_law_dice_here", "_law_total", "_law_one", "_law_two", "_law_found"]
theorem sc__law_roll : FnScope n__law_roll ["_law_dice_here", "_law_total"] (defScope s__law_roll) := ⟨rfl, rfl, rfl, by decide +kernel, rfl, by decide +kernel, by decide +kernel⟩
theorem d__law_roll {B : Cb} {a : Addr} {fd : FuncData} (F : FunD B.K "_law_roll" "_law_roll" (defArgs s__law_roll) (defBody s__law_roll) (defScope s__law_roll) [] [] a fd) (hm : B.mg "_law_roll" = some (.ref a)) (z_int : B.mg "int" = none) : Def B 1 "_law_roll" 2 f__law_roll :=
  Def.mk' (N := n__law_roll) (ps := ["_law_dice_here", "_law_total"]) F hm sc__law_roll (fun _ _ _ _ _ _ us hl => match us, hl with | [_, _], _ => rfl) (fun cdv A outer s H E hr =>
    (bi_cons (si_if (ti_cmp (fun _ => op_gt) oi_gt (nomark _) (ei_ix (ei_var 0) ei_int (fun _ _ => rfl)) ei_int) (bi_cons (si_set 4 sc__law_roll.nd rfl (fun _ => .inl rfl) (fun _ => .inr rfl) (ei_bin (fun _ => op_modN) oi_mod (ei_callTy (fun _ => call_int1) ci_int (fun _ => rfl) z_int (by decide +kernel) (ai_cons (ei_ix (ei_var 0) ei_int (fun _ _ => rfl)) ai_nil)) (ei_var 1))) (bi_cons (si_setL (ei_bin (fun _ => op_divAll) oi_div (ei_ix (ei_var 0) ei_int (fun _ _ => rfl)) (ei_var 1)) (ei_var 0) ei_int) (bi_one (si_ret (ei_var 4))))) bi_nil) (bi_cons (si_setL (ei_bin (fun _ => op_addAll) oi_add (ei_ix (ei_var 0) ei_int (fun _ _ => rfl)) ei_int) (ei_var 0) ei_int) (bi_cons (si_set 2 sc__law_roll.nd rfl (fun _ => .inl rfl) (fun _ => .inr rfl) (ei_bin (fun _ => op_modN) oi_mod (ei_callTy (fun _ => call_int1) ci_int (fun _ => rfl) z_int (by decide +kernel) (ai_cons (ei_bin (fun _ => op_addAll) oi_add (ei_ix (ei_var 0) ei_int (fun _ _ => rfl)) (ei_bin (fun _ => op_mulAll) oi_mul ei_int (ei_ix (ei_var 0) ei_int (fun _ _ => rfl)))) ai_nil)) ei_int)) (bi_cons (si_set 3 sc__law_roll.nd rfl (fun _ => .inl rfl) (fun _ => .inr rfl) (ei_bin (fun _ => op_addAll) oi_add (ei_bin (fun _ => op_mulAll) oi_mul (ei_bin (fun _ => op_modN) oi_mod (ei_callTy (fun _ => call_int1) ci_int (fun _ => rfl) z_int (by decide +kernel) (ai_cons (ei_bin (fun _ => op_addAll) oi_add (ei_bin (fun _ => op_mulAll) oi_mul (ei_var 2) (ei_var 2)) (ei_bin (fun _ => op_mulAll) oi_mul ei_int (ei_ix (ei_var 0) ei_int (fun _ _ => rfl)))) ai_nil)) ei_int) ei_int) (ei_var 2))) (bi_one (si_ret (ei_bin (fun _ => op_modN) oi_mod (ei_callTy (fun _ => call_int1) ci_int (fun _ => rfl) z_int (by decide +kernel) (ai_cons (ei_bin (fun _ => op_divAll) oi_div (ei_var 3) ei_int) ai_nil)) (ei_var 1)))))))))
/-! ### _law_bf_drawn -/
abbrev s__law_bf_drawn : Stmt := top 33
abbrev n__law_bf_drawn : List Str := ["_law_dice_here", "_law_high", "_law_a", "_law_b"]
theorem sc__law_bf_drawn : FnScope n__law_bf_drawn ["_law_dice_here", "_law_high"] (defScope s__law_bf_drawn) := ⟨rfl, rfl, rfl, by decide +kernel, rfl, by decide +kernel, by decide +kernel⟩
theorem d__law_bf_drawn {B : Cb} {a : Addr} {fd : FuncData} (F : FunD B.K "_law_bf_drawn" "_law_bf_drawn" (defArgs s__law_bf_drawn) (defBody s__law_bf_drawn) (defScope s__law_bf_drawn) [] [] a fd) (hm : B.mg "_law_bf_drawn" = some (.ref a)) (D__law_roll : Def B 1 "_law_roll" 2 f__law_roll) : Def B 2 "_law_bf_drawn" 2 f__law_bf_drawn :=
  Def.mk' (N := n__law_bf_drawn) (ps := ["_law_dice_here", "_law_high"]) F hm sc__law_bf_drawn (fun _ _ _ _ _ _ us hl => match us, hl with | [_, _], _ => rfl) (fun cdv A outer s H E hr =>
    (bi_cons (si_par (i := 2) (j := 3) (fun _ => rfl) sc__law_bf_drawn.nd rfl rfl (by decide) (fun _ => rfl) (fun _ => rfl) (ai_cons (ei_bin (fun _ => op_addAll) oi_add ei_int (ei_call D__law_roll (fun _ => hr.mono (by decide)) (fun _ => cy_takes) (fun _ => rfl) rfl (ai_cons (ei_var 0) (ai_cons (ei_var 1) ai_nil)) (len_cons (len_cons (fun _ _ _ _ => len_nil))))) (ai_cons (ei_bin (fun _ => op_sub) oi_sub (ei_call D__law_roll (fun _ => hr.mono (by decide)) (fun _ => cy_takes) (fun _ => rfl) rfl (ai_cons (ei_var 0) (ai_cons (ei_bin (fun _ => op_addAll) oi_add (ei_bin (fun _ => op_mulAll) oi_mul ei_int (ei_var 1)) ei_int) ai_nil)) (len_cons (len_cons (fun _ _ _ _ => len_nil)))) (ei_var 1)) ai_nil)) (fun _ => rfl)) (bi_one (si_ret (ei_tup (ai_cons (ei_var 2) (ai_cons (ei_var 3) (ai_cons (ei_bin (fun _ => op_addAll) oi_add (ei_bin (fun _ => op_addAll) oi_add (ei_bin (fun _ => op_divAll) oi_div (ei_bin (fun _ => op_mulAll) oi_mul (ei_var 3) (ei_var 3)) (ei_bin (fun _ => op_mulAll) oi_mul ei_int (ei_var 2))) ei_int) (ei_call D__law_roll (fun _ => hr.mono (by decide)) (fun _ => cy_takes) (fun _ => rfl) rfl (ai_cons (ei_var 0) (ai_cons (ei_var 1) ai_nil)) (len_cons (len_cons (fun _ _ _ _ => len_nil))))) ai_nil))))))))
/-! ### _law_pick -/
abbrev s__law_pick : Stmt := top 27
abbrev n__law_pick : List Str := ["_law_dice_here", "_law_items"]
theorem sc__law_pick : FnScope n__law_pick ["_law_dice_here", "_law_items"] (defScope s__law_pick) := ⟨rfl, rfl, rfl, by decide +kernel, rfl, by decide +kernel, by decide +kernel⟩
theorem d__law_pick {B : Cb} {a : Addr} {fd : FuncData} (F : FunD B.K "_law_pick" "_law_pick" (defArgs s__law_pick) (defBody s__law_pick) (defScope s__law_pick) [] [] a fd) (hm : B.mg "_law_pick" = some (.ref a)) (D__law_roll : Def B 1 "_law_roll" 2 f__law_roll) (z_len : B.mg "len" = none) : Def B 2 "_law_pick" 2 f__law_pick :=
  Def.mk' (N := n__law_pick) (ps := ["_law_dice_here", "_law_items"]) F hm sc__law_pick (fun _ _ _ _ _ _ us hl => match us, hl with | [_, _], _ => rfl) (fun cdv A outer s H E hr =>
    (bi_one (si_ret (ei_ix (ei_var 1) (ei_call D__law_roll (fun _ => hr.mono (by decide)) (fun _ => cy_takes) (fun _ => rfl) rfl (ai_cons (ei_var 0) (ai_cons (ei_callB (fun _ => call_lenA) ci_len (fun _ => rfl) z_len (by decide +kernel) (ai_cons (ei_var 1) ai_nil)) ai_nil)) (len_cons (len_cons (fun _ _ _ _ => len_nil)))) (fun _ _ => rfl)))))
/-! ### _law_bf_is_least -/
abbrev s__law_bf_is_least : Stmt := top 31
abbrev n__law_bf_is_least : List Str := ["_law_form", "_law_a", "_law_b", "_law_c"]
theorem sc__law_bf_is_least : FnScope n__law_bf_is_least ["_law_form"] (defScope s__law_bf_is_least) := ⟨rfl, rfl, rfl, by decide +kernel, rfl, by decide +kernel, by decide +kernel⟩
theorem d__law_bf_is_least {B : Cb} {a : Addr} {fd : FuncData} (F : FunD B.K "_law_bf_is_least" "_law_bf_is_least" (defArgs s__law_bf_is_least) (defBody s__law_bf_is_least) (defScope s__law_bf_is_least) [] [] a fd) (hm : B.mg "_law_bf_is_least" = some (.ref a))  : Def B 1 "_law_bf_is_least" 1 f__law_bf_is_least :=
  Def.mk' (N := n__law_bf_is_least) (ps := ["_law_form"]) F hm sc__law_bf_is_least (fun _ _ _ _ _ _ us hl => match us, hl with | [_], _ => rfl) (fun cdv A outer s H E hr =>
    (bi_cons (si_asg (ei_var 0) (gi_tup (fun _ => rfl) (gis_cons (gi_name 1 sc__law_bf_is_least.nd rfl (fun _ => .inl rfl) (fun _ => .inr rfl)) (gis_cons (gi_name 2 sc__law_bf_is_least.nd rfl (fun _ => .inl rfl) (fun _ => .inr rfl)) (gis_cons (gi_name 3 sc__law_bf_is_least.nd rfl (fun _ => .inl rfl) (fun _ => .inr rfl)) gis_nil))))) (bi_cons (si_if (WI.ti (wi_or (ti_cmp (fun _ => op_ltAll hr.units0) oi_lt (nomark _) (ei_var 2) (ei_neg (ei_var 1))) (wi_or (ti_cmp (fun _ => op_gt) oi_gt (nomark _) (ei_var 2) (ei_var 1)) (wi_or1 (ti_cmp (fun _ => op_ltAll hr.units0) oi_lt (nomark _) (ei_var 3) (ei_var 1)))))) (bi_one (si_ret ei_bl)) bi_nil) (bi_one (si_ret (ei_or (ei_cmp (fun _ => op_ge) oi_ge (nomark _) (ei_var 2) ei_int) (ei_one (ei_and (ei_cmp (fun _ => op_neD hr.units) oi_ne (nomark _) (ei_var 2) (ei_neg (ei_var 1))) (ei_one (ei_cmp (fun _ => op_neD hr.units) oi_ne (nomark _) (ei_var 1) (ei_var 3)))))))))))
/-! ### _law_bf_product -/
abbrev s__law_bf_product : Stmt := top 29
abbrev n__law_bf_product : List Str := ["_law_one", "_law_other", "_law_a", "_law_b", "_law_c", "_law_d", "_law_p", "_law_q", "_law_r", "_law_s"]
theorem sc__law_bf_product : FnScope n__law_bf_product ["_law_one", "_law_other"] (defScope s__law_bf_product) := ⟨rfl, rfl, rfl, by decide +kernel, rfl, by decide +kernel, by decide +kernel⟩
theorem d__law_bf_product {B : Cb} {a : Addr} {fd : FuncData} (F : FunD B.K "_law_bf_product" "_law_bf_product" (defArgs s__law_bf_product) (defBody s__law_bf_product) (defScope s__law_bf_product) [] [] a fd) (hm : B.mg "_law_bf_product" = some (.ref a))  : Def B 1 "_law_bf_product" 2 f__law_bf_product :=
  Def.mk' (N := n__law_bf_product) (ps := ["_law_one", "_law_other"]) F hm sc__law_bf_product (fun _ _ _ _ _ _ us hl => match us, hl with | [_, _], _ => rfl) (fun cdv A outer s H E hr =>
    (bi_cons (si_asg (ei_var 0) (gi_tup (fun _ => rfl) (gis_cons (gi_name 2 sc__law_bf_product.nd rfl (fun _ => .inl rfl) (fun _ => .inr rfl)) (gis_cons (gi_name 3 sc__law_bf_product.nd rfl (fun _ => .inl rfl) (fun _ => .inr rfl)) (gis_cons (gi_name 4 sc__law_bf_product.nd rfl (fun _ => .inl rfl) (fun _ => .inr rfl)) (gis_cons (gi_name 5 sc__law_bf_product.nd rfl (fun _ => .inl rfl) (fun _ => .inr rfl)) gis_nil)))))) (bi_cons (si_asg (ei_var 1) (gi_tup (fun _ => rfl) (gis_cons (gi_name 6 sc__law_bf_product.nd rfl (fun _ => .inl rfl) (fun _ => .inr rfl)) (gis_cons (gi_name 7 sc__law_bf_product.nd rfl (fun _ => .inl rfl) (fun _ => .inr rfl)) (gis_cons (gi_name 8 sc__law_bf_product.nd rfl (fun _ => .inl rfl) (fun _ => .inr rfl)) (gis_cons (gi_name 9 sc__law_bf_product.nd rfl (fun _ => .inl rfl) (fun _ => .inr rfl)) gis_nil)))))) (bi_one (si_ret (ei_tup (ai_cons (ei_bin (fun _ => op_addAll) oi_add (ei_bin (fun _ => op_mulAll) oi_mul (ei_var 2) (ei_var 6)) (ei_bin (fun _ => op_mulAll) oi_mul (ei_var 3) (ei_var 8))) (ai_cons (ei_bin (fun _ => op_addAll) oi_add (ei_bin (fun _ => op_mulAll) oi_mul (ei_var 2) (ei_var 7)) (ei_bin (fun _ => op_mulAll) oi_mul (ei_var 3) (ei_var 9))) (ai_cons (ei_bin (fun _ => op_addAll) oi_add (ei_bin (fun _ => op_mulAll) oi_mul (ei_var 4) (ei_var 6)) (ei_bin (fun _ => op_mulAll) oi_mul (ei_var 5) (ei_var 8))) (ai_cons (ei_bin (fun _ => op_addAll) oi_add (ei_bin (fun _ => op_mulAll) oi_mul (ei_var 4) (ei_var 7)) (ei_bin (fun _ => op_mulAll) oi_mul (ei_var 5) (ei_var 9))) ai_nil))))))))))
/-! ### _law_bf_led -/
abbrev s__law_bf_led : Stmt := top 28
abbrev n__law_bf_led : List Str := ["_law_form", "_law_matrix", "_law_a", "_law_b", "_law_c", "_law_p", "_law_q", "_law_r", "_law_s", "_law_cross", "_law_double"]
theorem sc__law_bf_led : FnScope n__law_bf_led ["_law_form", "_law_matrix"] (defScope s__law_bf_led) := ⟨rfl, rfl, rfl, by decide +kernel, rfl, by decide +kernel, by decide +kernel⟩
theorem d__law_bf_led {B : Cb} {a : Addr} {fd : FuncData} (F : FunD B.K "_law_bf_led" "_law_bf_led" (defArgs s__law_bf_led) (defBody s__law_bf_led) (defScope s__law_bf_led) [] [] a fd) (hm : B.mg "_law_bf_led" = some (.ref a))  : Def B 1 "_law_bf_led" 2 f__law_bf_led :=
  Def.mk' (N := n__law_bf_led) (ps := ["_law_form", "_law_matrix"]) F hm sc__law_bf_led (fun _ _ _ _ _ _ us hl => match us, hl with | [_, _], _ => rfl) (fun cdv A outer s H E hr =>
    (bi_cons (si_asg (ei_var 0) (gi_tup (fun _ => rfl) (gis_cons (gi_name 2 sc__law_bf_led.nd rfl (fun _ => .inl rfl) (fun _ => .inr rfl)) (gis_cons (gi_name 3 sc__law_bf_led.nd rfl (fun _ => .inl rfl) (fun _ => .inr rfl)) (gis_cons (gi_name 4 sc__law_bf_led.nd rfl (fun _ => .inl rfl) (fun _ => .inr rfl)) gis_nil))))) (bi_cons (si_asg (ei_var 1) (gi_tup (fun _ => rfl) (gis_cons (gi_name 5 sc__law_bf_led.nd rfl (fun _ => .inl rfl) (fun _ => .inr rfl)) (gis_cons (gi_name 6 sc__law_bf_led.nd rfl (fun _ => .inl rfl) (fun _ => .inr rfl)) (gis_cons (gi_name 7 sc__law_bf_led.nd rfl (fun _ => .inl rfl) (fun _ => .inr rfl)) (gis_cons (gi_name 8 sc__law_bf_led.nd rfl (fun _ => .inl rfl) (fun _ => .inr rfl)) gis_nil)))))) (bi_cons (si_par (i := 9) (j := 10) (fun _ => rfl) sc__law_bf_led.nd rfl rfl (by decide) (fun _ => rfl) (fun _ => rfl) (ai_cons (ei_bin (fun _ => op_mulAll) oi_mul (ei_var 3) (ei_bin (fun _ => op_addAll) oi_add (ei_bin (fun _ => op_mulAll) oi_mul (ei_var 5) (ei_var 8)) (ei_bin (fun _ => op_mulAll) oi_mul (ei_var 6) (ei_var 7)))) (ai_cons (ei_bin (fun _ => op_addAll) oi_add (ei_bin (fun _ => op_mulAll) oi_mul (ei_bin (fun _ => op_mulAll) oi_mul (ei_var 2) (ei_var 5)) (ei_var 6)) (ei_bin (fun _ => op_mulAll) oi_mul (ei_bin (fun _ => op_mulAll) oi_mul (ei_var 4) (ei_var 7)) (ei_var 8))) ai_nil)) (fun _ => rfl)) (bi_one (si_ret (ei_tup (ai_cons (ei_bin (fun _ => op_addAll) oi_add (ei_bin (fun _ => op_addAll) oi_add (ei_bin (fun _ => op_mulAll) oi_mul (ei_bin (fun _ => op_mulAll) oi_mul (ei_var 2) (ei_var 5)) (ei_var 5)) (ei_bin (fun _ => op_mulAll) oi_mul (ei_bin (fun _ => op_mulAll) oi_mul (ei_var 3) (ei_var 5)) (ei_var 7))) (ei_bin (fun _ => op_mulAll) oi_mul (ei_bin (fun _ => op_mulAll) oi_mul (ei_var 4) (ei_var 7)) (ei_var 7))) (ai_cons (ei_bin (fun _ => op_addAll) oi_add (ei_var 9) (ei_bin (fun _ => op_mulAll) oi_mul ei_int (ei_var 10))) (ai_cons (ei_bin (fun _ => op_addAll) oi_add (ei_bin (fun _ => op_addAll) oi_add (ei_bin (fun _ => op_mulAll) oi_mul (ei_bin (fun _ => op_mulAll) oi_mul (ei_var 2) (ei_var 6)) (ei_var 6)) (ei_bin (fun _ => op_mulAll) oi_mul (ei_bin (fun _ => op_mulAll) oi_mul (ei_var 3) (ei_var 6)) (ei_var 8))) (ei_bin (fun _ => op_mulAll) oi_mul (ei_bin (fun _ => op_mulAll) oi_mul (ei_var 4) (ei_var 8)) (ei_var 8))) ai_nil))))))))))
/-! ### _law_bf_least -/
abbrev s__law_bf_least : Stmt := top 32
abbrev n__law_bf_least : List Str := ["_law_form", "_law_turn", "_law_here", "_law_matrix", "_law_part", "_law_step"]
theorem sc__law_bf_least : FnScope n__law_bf_least ["_law_form"] (defScope s__law_bf_least) := ⟨rfl, rfl, rfl, by decide +kernel, rfl, by decide +kernel, by decide +kernel⟩
theorem d__law_bf_least {B : Cb} {a : Addr} {fd : FuncData} (F : FunD B.K "_law_bf_least" "_law_bf_least" (defArgs s__law_bf_least) (defBody s__law_bf_least) (defScope s__law_bf_least) [] [] a fd) (hm : B.mg "_law_bf_least" = some (.ref a)) (z_range : B.mg "range" = none) (D__law_bf_is_least : Def B 1 "_law_bf_is_least" 1 f__law_bf_is_least) (D__law_bf_product : Def B 1 "_law_bf_product" 2 f__law_bf_product) (D__law_bf_led : Def B 1 "_law_bf_led" 2 f__law_bf_led) : Def B 2 "_law_bf_least" 1 f__law_bf_least :=
  Def.mk' (N := n__law_bf_least) (ps := ["_law_form"]) F hm sc__law_bf_least (fun _ _ _ _ _ _ us hl => match us, hl with | [_], _ => rfl) (fun cdv A outer s H E hr =>
    (bi_cons (si_par (i := 2) (j := 3) (fun _ => rfl) sc__law_bf_least.nd rfl rfl (by decide) (fun _ => rfl) (fun _ => rfl) (ai_cons (ei_var 0) (ai_cons (ei_tup (ai_cons ei_int (ai_cons ei_int (ai_cons ei_int (ai_cons ei_int ai_nil))))) ai_nil)) (fun _ => rfl)) (bi_cons (si_for (fun _ => cy_passes) (fun _ => rfl) (ii_range1 (fun _ => rfl) z_range (ai_cons ei_int ai_nil)) (gi_name 1 sc__law_bf_least.nd rfl (fun _ => .inl rfl) (fun _ => .inr rfl)) (bi_cons (si_if (ti_val (ei_call D__law_bf_is_least (fun _ => hr.mono (by decide)) (fun _ => cy_takes) (fun _ => rfl) rfl (ai_cons (ei_var 2) ai_nil) (len_cons (fun _ _ _ _ => len_nil)))) (bi_one si_break) bi_nil) (bi_cons (si_set 4 sc__law_bf_least.nd rfl (fun _ => .inl rfl) (fun _ => .inr rfl) (ei_bin (fun _ => op_divAll) oi_div (ei_bin (fun _ => op_sub) oi_sub (ei_ix (ei_var 2) ei_int (fun _ _ => rfl)) (ei_ix (ei_var 2) ei_int (fun _ _ => rfl))) (ei_bin (fun _ => op_mulAll) oi_mul ei_int (ei_ix (ei_var 2) ei_int (fun _ _ => rfl))))) (bi_cons (si_set 5 sc__law_bf_least.nd rfl (fun _ => .inl rfl) (fun _ => .inr rfl) (ei_ifExp (ti_cmp (fun _ => op_neD hr.units) oi_ne (nomark _) (ei_var 4) ei_int) (ei_tup (ai_cons ei_int (ai_cons (ei_var 4) (ai_cons ei_int (ai_cons ei_int ai_nil))))) (ei_tup (ai_cons ei_int (ai_cons (ei_fold (f := sNeg (sC (.int 1))) (ei_neg ei_int) (by kernel_rfl)) (ai_cons ei_int (ai_cons ei_int ai_nil))))))) (bi_one (si_par (i := 2) (j := 3) (fun _ => rfl) sc__law_bf_least.nd rfl rfl (by decide) (fun _ => rfl) (fun _ => rfl) (ai_cons (ei_call D__law_bf_led (fun _ => hr.mono (by decide)) (fun _ => cy_takes) (fun _ => rfl) rfl (ai_cons (ei_var 2) (ai_cons (ei_var 5) ai_nil)) (len_cons (len_cons (fun _ _ _ _ => len_nil)))) (ai_cons (ei_call D__law_bf_product (fun _ => hr.mono (by decide)) (fun _ => cy_takes) (fun _ => rfl) rfl (ai_cons (ei_var 3) (ai_cons (ei_var 5) ai_nil)) (len_cons (len_cons (fun _ _ _ _ => len_nil)))) ai_nil)) (fun _ => rfl))))))) (bi_one (si_ret (ei_tup (ai_cons (ei_var 2) (ai_cons (ei_var 3) ai_nil))))))))
/-! ### is_whole -/
abbrev s_is_whole : Stmt := top 5
abbrev n_is_whole : List Str := ["value"]
theorem sc_is_whole : FnScope n_is_whole ["value"] (defScope s_is_whole) := ⟨rfl, rfl, rfl, by decide +kernel, rfl, by decide +kernel, by decide +kernel⟩
theorem d_is_whole {B : Cb} {a : Addr} {fd : FuncData} (F : FunD B.K "is_whole" "is_whole" (defArgs s_is_whole) (defBody s_is_whole) (defScope s_is_whole) [] [] a fd) (hm : B.mg "is_whole" = some (.ref a)) (z_isinstance : B.mg "isinstance" = none) (z_bool : B.mg "bool" = none) (z_int : B.mg "int" = none) : Def B 1 "is_whole" 1 f_is_whole :=
  Def.mk' (N := n_is_whole) (ps := ["value"]) F hm sc_is_whole (fun _ _ _ _ _ _ us hl => match us, hl with | [_], _ => rfl) (fun cdv A outer s H E hr =>
    (bi_one (si_ret (ei_and (ei_callB (fun _ => call_isi) ci_isi (fun _ => rfl) z_isinstance (by decide +kernel) (ai_cons (ei_var 0) (ai_cons (ei_ty (fun _ => rfl) z_int (by decide +kernel)) ai_nil))) (ei_one (ei_not (ei_callB (fun _ => call_isi) ci_isi (fun _ => rfl) z_isinstance (by decide +kernel) (ai_cons (ei_var 0) (ai_cons (ei_ty (fun _ => rfl) z_bool (by decide +kernel)) ai_nil)))))))))
/-! ### is_integer -/
abbrev s_is_integer : Stmt := top 6
abbrev n_is_integer : List Str := ["value"]
theorem sc_is_integer : FnScope n_is_integer ["value"] (defScope s_is_integer) := ⟨rfl, rfl, rfl, by decide +kernel, rfl, by decide +kernel, by decide +kernel⟩
theorem d_is_integer {B : Cb} {a : Addr} {fd : FuncData} (F : FunD B.K "is_integer" "is_integer" (defArgs s_is_integer) (defBody s_is_integer) (defScope s_is_integer) [] [] a fd) (hm : B.mg "is_integer" = some (.ref a)) (c_GREAT : ∃ t, B.mg "GREAT" = some (.int (1000000000000000000000000000000000000000000000000000000000000) t)) (D_is_whole : Def B 1 "is_whole" 1 f_is_whole) : Def B 2 "is_integer" 1 f_is_integer :=
  Def.mk' (N := n_is_integer) (ps := ["value"]) F hm sc_is_integer (fun _ _ _ _ _ _ us hl => match us, hl with | [_], _ => rfl) (fun cdv A outer s H E hr =>
    (bi_one (si_ret (ei_and (ei_call D_is_whole (fun _ => hr.mono (by decide)) (fun _ => cy_takes) (fun _ => rfl) rfl (ai_cons (ei_var 0) ai_nil) (len_cons (fun _ _ _ _ => len_nil))) (ei_one (ei_chain (fun _ => op_ltAll hr.units0) oi_lt (fun _ => op_ltAll hr.units0) oi_lt (ei_neg (ei_gint (fun _ => rfl) c_GREAT)) (ei_var 0) (ei_gint (fun _ => rfl) c_GREAT)))))))
/-! ### measure_in -/
abbrev s_measure_in : Stmt := top 11
abbrev n_measure_in : List Str := ["form"]
theorem sc_measure_in : FnScope n_measure_in ["form"] (defScope s_measure_in) := ⟨rfl, rfl, rfl, by decide +kernel, rfl, by decide +kernel, by decide +kernel⟩
theorem d_measure_in {B : Cb} {a : Addr} {fd : FuncData} (F : FunD B.K "measure_in" "measure_in" (defArgs s_measure_in) (defBody s_measure_in) (defScope s_measure_in) [] [] a fd) (hm : B.mg "measure_in" = some (.ref a))  : Def B 1 "measure_in" 1 f_measure_in :=
  Def.mk' (N := n_measure_in) (ps := ["form"]) F hm sc_measure_in (fun _ _ _ _ _ _ us hl => match us, hl with | [_], _ => rfl) (fun cdv A outer s H E hr =>
    (bi_one (si_ret (ei_bin (fun _ => op_sub) oi_sub (ei_bin (fun _ => op_mulAll) oi_mul (ei_bin (fun _ => op_mulAll) oi_mul ei_int (ei_ix (ei_var 0) ei_int (fun _ _ => rfl))) (ei_ix (ei_var 0) ei_int (fun _ _ => rfl))) (ei_bin (fun _ => op_mulAll) oi_mul (ei_ix (ei_var 0) ei_int (fun _ _ => rfl)) (ei_ix (ei_var 0) ei_int (fun _ _ => rfl)))))))
/-! ### is_form -/
abbrev s_is_form : Stmt := top 12
abbrev n_is_form : List Str := ["value", "entry"]
theorem sc_is_form : FnScope n_is_form ["value"] (defScope s_is_form) := ⟨rfl, rfl, rfl, by decide +kernel, rfl, by decide +kernel, by decide +kernel⟩
theorem d_is_form {B : Cb} {a : Addr} {fd : FuncData} (F : FunD B.K "is_form" "is_form" (defArgs s_is_form) (defBody s_is_form) (defScope s_is_form) [] [] a fd) (hm : B.mg "is_form" = some (.ref a)) (z_all : B.mg "all" = none) (D_is_integer : Def B 2 "is_integer" 1 f_is_integer) (z_len : B.mg "len" = none) (c_FORM_SIZE : ∃ t, B.mg "FORM_SIZE" = some (.int (3) t)) (z_isinstance : B.mg "isinstance" = none) (z_tuple : B.mg "tuple" = none) (D_measure_in : Def B 1 "measure_in" 1 f_measure_in) : Def B 3 "is_form" 1 f_is_form :=
  Def.mk' (N := n_is_form) (ps := ["value"]) F hm sc_is_form (fun _ _ _ _ _ _ us hl => match us, hl with | [_], _ => rfl) (fun cdv A outer s H E hr =>
    (bi_cons (si_if (WI.ti (wi_or (ti_not (ti_val (ei_callB (fun _ => call_isi) ci_isi (fun _ => rfl) z_isinstance (by decide +kernel) (ai_cons (ei_var 0) (ai_cons (ei_ty (fun _ => rfl) z_tuple (by decide +kernel)) ai_nil))))) (wi_or (ti_cmp (fun _ => op_neD hr.units) oi_ne (nomark _) (ei_callB (fun _ => call_lenA) ci_len (fun _ => rfl) z_len (by decide +kernel) (ai_cons (ei_var 0) ai_nil)) (ei_gint (fun _ => rfl) c_FORM_SIZE)) (wi_or1 (ti_not (ti_val (ei_callB (fun _ => (cr_all rfl)) ci_all (fun _ => rfl) z_all (by decide +kernel) (ai_cons (ei_lc (own := [("entry", 1)]) (fun _ => rfl) sc_is_form.nd (ii_seq (ei_var 0)) (fun _ => show blkC n_is_form (defScope s_is_form) _ [("entry", 1)] = true by decide +kernel) (gi_name 1 sc_is_form.nd rfl (fun _ => .inl rfl) (fun _ => .inr rfl)) tsi_nil (ei_call D_is_integer (fun _ => hr.mono (by decide)) (fun _ => takes0) (fun _ => rfl) rfl (ai_cons (ei_var 1) ai_nil) (len_cons (fun _ _ _ _ => len_nil))) (by decide)) ai_nil)))))))) (bi_one (si_ret ei_bl)) bi_nil) (bi_one (si_ret (ei_and (ei_cmp (fun _ => op_gt) oi_gt (nomark _) (ei_ix (ei_var 0) ei_int (fun _ _ => rfl)) ei_int) (ei_one (ei_cmp (fun _ => op_gt) oi_gt (nomark _) (ei_call D_measure_in (fun _ => hr.mono (by decide)) (fun _ => cy_takes) (fun _ => rfl) rfl (ai_cons (ei_var 0) ai_nil) (len_cons (fun _ _ _ _ => len_nil))) ei_int)))))))
/-! ### require_form -/
abbrev s_require_form : Stmt := top 13
abbrev n_require_form : List Str := ["value"]
theorem sc_require_form : FnScope n_require_form ["value"] (defScope s_require_form) := ⟨rfl, rfl, rfl, by decide +kernel, rfl, by decide +kernel, by decide +kernel⟩
theorem d_require_form {B : Cb} {a : Addr} {fd : FuncData} (F : FunD B.K "require_form" "require_form" (defArgs s_require_form) (defBody s_require_form) (defScope s_require_form) [] [] a fd) (hm : B.mg "require_form" = some (.ref a)) (D_is_form : Def B 3 "is_form" 1 f_is_form) : Def B 4 "require_form" 1 f_require_form :=
  Def.mk' (N := n_require_form) (ps := ["value"]) F hm sc_require_form (fun _ _ _ _ _ _ us hl => match us, hl with | [_], _ => rfl) (fun cdv A outer s H E hr =>
    (bi_one (si_if (ti_not (ti_val (ei_call D_is_form (fun _ => hr.mono (by decide)) (fun _ => cy_takes) (fun _ => rfl) rfl (ai_cons (ei_var 0) ai_nil) (len_cons (fun _ _ _ _ => len_nil))))) (bi_one si_never) bi_nil)))
/-! ### is_least -/
abbrev s_is_least : Stmt := top 18
abbrev n_is_least : List Str := ["form", "a", "b", "c"]
theorem sc_is_least : FnScope n_is_least ["form"] (defScope s_is_least) := ⟨rfl, rfl, rfl, by decide +kernel, rfl, by decide +kernel, by decide +kernel⟩
theorem d_is_least {B : Cb} {a : Addr} {fd : FuncData} (F : FunD B.K "is_least" "is_least" (defArgs s_is_least) (defBody s_is_least) (defScope s_is_least) [] [] a fd) (hm : B.mg "is_least" = some (.ref a))  : Def B 1 "is_least" 1 f_is_least :=
  Def.mk' (N := n_is_least) (ps := ["form"]) F hm sc_is_least (fun _ _ _ _ _ _ us hl => match us, hl with | [_], _ => rfl) (fun cdv A outer s H E hr =>
    (bi_cons (si_asg (ei_var 0) (gi_tup (fun _ => rfl) (gis_cons (gi_name 1 sc_is_least.nd rfl (fun _ => .inl rfl) (fun _ => .inr rfl)) (gis_cons (gi_name 2 sc_is_least.nd rfl (fun _ => .inl rfl) (fun _ => .inr rfl)) (gis_cons (gi_name 3 sc_is_least.nd rfl (fun _ => .inl rfl) (fun _ => .inr rfl)) gis_nil))))) (bi_cons (si_if (ti_not (ti_chain3 (fun _ => op_le) oi_le (fun _ => op_le) oi_le (fun _ => op_le) oi_le (ei_neg (ei_var 1)) (ei_var 2) (ei_var 1) (ei_var 3))) (bi_one (si_ret ei_bl)) bi_nil) (bi_one (si_ret (ei_or (ei_cmp (fun _ => op_ge) oi_ge (nomark _) (ei_var 2) ei_int) (ei_one (ei_and (ei_cmp (fun _ => op_neD hr.units) oi_ne (nomark _) (ei_var 2) (ei_neg (ei_var 1))) (ei_one (ei_cmp (fun _ => op_neD hr.units) oi_ne (nomark _) (ei_var 1) (ei_var 3)))))))))))
/-! ### product_of -/
abbrev s_product_of : Stmt := top 17
abbrev n_product_of : List Str := ["one", "other", "a", "b", "c", "d", "p", "q", "r", "s"]
theorem sc_product_of : FnScope n_product_of ["one", "other"] (defScope s_product_of) := ⟨rfl, rfl, rfl, by decide +kernel, rfl, by decide +kernel, by decide +kernel⟩
theorem d_product_of {B : Cb} {a : Addr} {fd : FuncData} (F : FunD B.K "product_of" "product_of" (defArgs s_product_of) (defBody s_product_of) (defScope s_product_of) [] [] a fd) (hm : B.mg "product_of" = some (.ref a))  : Def B 1 "product_of" 2 f_product_of :=
  Def.mk' (N := n_product_of) (ps := ["one", "other"]) F hm sc_product_of (fun _ _ _ _ _ _ us hl => match us, hl with | [_, _], _ => rfl) (fun cdv A outer s H E hr =>
    (bi_cons (si_asg (ei_var 0) (gi_tup (fun _ => rfl) (gis_cons (gi_name 2 sc_product_of.nd rfl (fun _ => .inl rfl) (fun _ => .inr rfl)) (gis_cons (gi_name 3 sc_product_of.nd rfl (fun _ => .inl rfl) (fun _ => .inr rfl)) (gis_cons (gi_name 4 sc_product_of.nd rfl (fun _ => .inl rfl) (fun _ => .inr rfl)) (gis_cons (gi_name 5 sc_product_of.nd rfl (fun _ => .inl rfl) (fun _ => .inr rfl)) gis_nil)))))) (bi_cons (si_asg (ei_var 1) (gi_tup (fun _ => rfl) (gis_cons (gi_name 6 sc_product_of.nd rfl (fun _ => .inl rfl) (fun _ => .inr rfl)) (gis_cons (gi_name 7 sc_product_of.nd rfl (fun _ => .inl rfl) (fun _ => .inr rfl)) (gis_cons (gi_name 8 sc_product_of.nd rfl (fun _ => .inl rfl) (fun _ => .inr rfl)) (gis_cons (gi_name 9 sc_product_of.nd rfl (fun _ => .inl rfl) (fun _ => .inr rfl)) gis_nil)))))) (bi_one (si_ret (ei_tup (ai_cons (ei_bin (fun _ => op_addAll) oi_add (ei_bin (fun _ => op_mulAll) oi_mul (ei_var 2) (ei_var 6)) (ei_bin (fun _ => op_mulAll) oi_mul (ei_var 3) (ei_var 8))) (ai_cons (ei_bin (fun _ => op_addAll) oi_add (ei_bin (fun _ => op_mulAll) oi_mul (ei_var 2) (ei_var 7)) (ei_bin (fun _ => op_mulAll) oi_mul (ei_var 3) (ei_var 9))) (ai_cons (ei_bin (fun _ => op_addAll) oi_add (ei_bin (fun _ => op_mulAll) oi_mul (ei_var 4) (ei_var 6)) (ei_bin (fun _ => op_mulAll) oi_mul (ei_var 5) (ei_var 8))) (ai_cons (ei_bin (fun _ => op_addAll) oi_add (ei_bin (fun _ => op_mulAll) oi_mul (ei_var 4) (ei_var 7)) (ei_bin (fun _ => op_mulAll) oi_mul (ei_var 5) (ei_var 9))) ai_nil))))))))))
/-! ### value_at -/
abbrev s_value_at : Stmt := top 15
abbrev n_value_at : List Str := ["form", "x", "y"]
theorem sc_value_at : FnScope n_value_at ["form", "x", "y"] (defScope s_value_at) := ⟨rfl, rfl, rfl, by decide +kernel, rfl, by decide +kernel, by decide +kernel⟩
theorem d_value_at {B : Cb} {a : Addr} {fd : FuncData} (F : FunD B.K "value_at" "value_at" (defArgs s_value_at) (defBody s_value_at) (defScope s_value_at) [] [] a fd) (hm : B.mg "value_at" = some (.ref a))  : Def B 1 "value_at" 3 f_value_at :=
  Def.mk' (N := n_value_at) (ps := ["form", "x", "y"]) F hm sc_value_at (fun _ _ _ _ _ _ us hl => match us, hl with | [_, _, _], _ => rfl) (fun cdv A outer s H E hr =>
    (bi_one (si_ret (ei_bin (fun _ => op_addAll) oi_add (ei_bin (fun _ => op_addAll) oi_add (ei_bin (fun _ => op_mulAll) oi_mul (ei_bin (fun _ => op_mulAll) oi_mul (ei_ix (ei_var 0) ei_int (fun _ _ => rfl)) (ei_var 1)) (ei_var 1)) (ei_bin (fun _ => op_mulAll) oi_mul (ei_bin (fun _ => op_mulAll) oi_mul (ei_ix (ei_var 0) ei_int (fun _ _ => rfl)) (ei_var 1)) (ei_var 2))) (ei_bin (fun _ => op_mulAll) oi_mul (ei_bin (fun _ => op_mulAll) oi_mul (ei_ix (ei_var 0) ei_int (fun _ _ => rfl)) (ei_var 2)) (ei_var 2))))))
/-! ### led_by -/
abbrev s_led_by : Stmt := top 16
abbrev n_led_by : List Str := ["form", "matrix", "middle", "p", "q", "r", "s"]
theorem sc_led_by : FnScope n_led_by ["form", "matrix"] (defScope s_led_by) := ⟨rfl, rfl, rfl, by decide +kernel, rfl, by decide +kernel, by decide +kernel⟩
theorem d_led_by {B : Cb} {a : Addr} {fd : FuncData} (F : FunD B.K "led_by" "led_by" (defArgs s_led_by) (defBody s_led_by) (defScope s_led_by) [] [] a fd) (hm : B.mg "led_by" = some (.ref a)) (D_value_at : Def B 1 "value_at" 3 f_value_at) : Def B 2 "led_by" 2 f_led_by :=
  Def.mk' (N := n_led_by) (ps := ["form", "matrix"]) F hm sc_led_by (fun _ _ _ _ _ _ us hl => match us, hl with | [_, _], _ => rfl) (fun cdv A outer s H E hr =>
    (bi_cons (si_asg (ei_var 1) (gi_tup (fun _ => rfl) (gis_cons (gi_name 3 sc_led_by.nd rfl (fun _ => .inl rfl) (fun _ => .inr rfl)) (gis_cons (gi_name 4 sc_led_by.nd rfl (fun _ => .inl rfl) (fun _ => .inr rfl)) (gis_cons (gi_name 5 sc_led_by.nd rfl (fun _ => .inl rfl) (fun _ => .inr rfl)) (gis_cons (gi_name 6 sc_led_by.nd rfl (fun _ => .inl rfl) (fun _ => .inr rfl)) gis_nil)))))) (bi_cons (si_set 2 sc_led_by.nd rfl (fun _ => .inl rfl) (fun _ => .inr rfl) (ei_bin (fun _ => op_addAll) oi_add (ei_bin (fun _ => op_addAll) oi_add (ei_bin (fun _ => op_mulAll) oi_mul (ei_bin (fun _ => op_mulAll) oi_mul (ei_bin (fun _ => op_mulAll) oi_mul ei_int (ei_ix (ei_var 0) ei_int (fun _ _ => rfl))) (ei_var 3)) (ei_var 4)) (ei_bin (fun _ => op_mulAll) oi_mul (ei_ix (ei_var 0) ei_int (fun _ _ => rfl)) (ei_bin (fun _ => op_addAll) oi_add (ei_bin (fun _ => op_mulAll) oi_mul (ei_var 3) (ei_var 6)) (ei_bin (fun _ => op_mulAll) oi_mul (ei_var 4) (ei_var 5))))) (ei_bin (fun _ => op_mulAll) oi_mul (ei_bin (fun _ => op_mulAll) oi_mul (ei_bin (fun _ => op_mulAll) oi_mul ei_int (ei_ix (ei_var 0) ei_int (fun _ _ => rfl))) (ei_var 5)) (ei_var 6)))) (bi_one (si_ret (ei_tup (ai_cons (ei_call D_value_at (fun _ => hr.mono (by decide)) (fun _ => cy_takes) (fun _ => rfl) rfl (ai_cons (ei_var 0) (ai_cons (ei_var 3) (ai_cons (ei_var 5) ai_nil))) (len_cons (len_cons (len_cons (fun _ _ _ _ => len_nil))))) (ai_cons (ei_var 2) (ai_cons (ei_call D_value_at (fun _ => hr.mono (by decide)) (fun _ => cy_takes) (fun _ => rfl) rfl (ai_cons (ei_var 0) (ai_cons (ei_var 4) (ai_cons (ei_var 6) ai_nil))) (len_cons (len_cons (len_cons (fun _ _ _ _ => len_nil))))) ai_nil)))))))))
/-! ### reducing -/
abbrev s_reducing : Stmt := top 19
abbrev n_reducing : List Str := ["form", "here", "matrix", "a", "b", "c", "step"]
theorem sc_reducing : FnScope n_reducing ["form"] (defScope s_reducing) := ⟨rfl, rfl, rfl, by decide +kernel, rfl, by decide +kernel, by decide +kernel⟩
theorem d_reducing {B : Cb} {a : Addr} {fd : FuncData} (F : FunD B.K "reducing" "reducing" (defArgs s_reducing) (defBody s_reducing) (defScope s_reducing) [] [] a fd) (hm : B.mg "reducing" = some (.ref a)) (w_IDLE : Dat B.K B.mg "IDLE" (.tup [(.int (1)), (.int (0)), (.int (0)), (.int (1))])) (D_is_least : Def B 1 "is_least" 1 f_is_least) (D_product_of : Def B 1 "product_of" 2 f_product_of) (D_led_by : Def B 2 "led_by" 2 f_led_by) : Def B 3 "reducing" 1 f_reducing :=
  Def.mk' (N := n_reducing) (ps := ["form"]) F hm sc_reducing (fun _ _ _ _ _ _ us hl => match us, hl with | [_], _ => rfl) (fun cdv A outer s H E hr =>
    (bi_cons (si_par (i := 1) (j := 2) (fun _ => rfl) sc_reducing.nd rfl rfl (by decide) (fun _ => rfl) (fun _ => rfl) (ai_cons (ei_var 0) (ai_cons (ei_dat (fun _ => rfl) w_IDLE) ai_nil)) (fun _ => rfl)) (bi_cons (si_while FU (fun _ => cy_passes) (ti_not (ti_val (ei_call D_is_least (fun _ => hr.mono (by decide)) (fun _ => cy_takes) (fun _ => rfl) rfl (ai_cons (ei_var 1) ai_nil) (len_cons (fun _ _ _ _ => len_nil))))) (bi_cons (si_asg (ei_var 1) (gi_tup (fun _ => rfl) (gis_cons (gi_name 3 sc_reducing.nd rfl (fun _ => .inl rfl) (fun _ => .inr rfl)) (gis_cons (gi_name 4 sc_reducing.nd rfl (fun _ => .inl rfl) (fun _ => .inr rfl)) (gis_cons (gi_name 5 sc_reducing.nd rfl (fun _ => .inl rfl) (fun _ => .inr rfl)) gis_nil))))) (bi_cons (si_if (ti_chain (fun _ => op_ltAll hr.units0) oi_lt (fun _ => op_le) oi_le (ei_neg (ei_var 3)) (ei_var 4) (ei_var 3)) (bi_one (si_set 6 sc_reducing.nd rfl (fun _ => .inl rfl) (fun _ => .inr rfl) (ei_tup (ai_cons ei_int (ai_cons (ei_fold (f := sNeg (sC (.int 1))) (ei_neg ei_int) (by kernel_rfl)) (ai_cons ei_int (ai_cons ei_int ai_nil))))))) (bi_one (si_set 6 sc_reducing.nd rfl (fun _ => .inl rfl) (fun _ => .inr rfl) (ei_tup (ai_cons ei_int (ai_cons (ei_bin (fun _ => op_divAll) oi_div (ei_bin (fun _ => op_sub) oi_sub (ei_var 3) (ei_var 4)) (ei_bin (fun _ => op_mulAll) oi_mul ei_int (ei_var 3))) (ai_cons ei_int (ai_cons ei_int ai_nil)))))))) (bi_one (si_par (i := 1) (j := 2) (fun _ => rfl) sc_reducing.nd rfl rfl (by decide) (fun _ => rfl) (fun _ => rfl) (ai_cons (ei_call D_led_by (fun _ => hr.mono (by decide)) (fun _ => cy_takes) (fun _ => rfl) rfl (ai_cons (ei_var 1) (ai_cons (ei_var 6) ai_nil)) (len_cons (len_cons (fun _ _ _ _ => len_nil)))) (ai_cons (ei_call D_product_of (fun _ => hr.mono (by decide)) (fun _ => cy_takes) (fun _ => rfl) rfl (ai_cons (ei_var 2) (ai_cons (ei_var 6) ai_nil)) (len_cons (len_cons (fun _ _ _ _ => len_nil)))) ai_nil)) (fun _ => rfl)))))) (bi_one (si_ret (ei_tup (ai_cons (ei_var 1) (ai_cons (ei_var 2) ai_nil))))))))
/-! ### reduced_form -/
abbrev s_reduced_form : Stmt := top 21
abbrev n_reduced_form : List Str := ["form"]
theorem sc_reduced_form : FnScope n_reduced_form ["form"] (defScope s_reduced_form) := ⟨rfl, rfl, rfl, by decide +kernel, rfl, by decide +kernel, by decide +kernel⟩
theorem d_reduced_form {B : Cb} {a : Addr} {fd : FuncData} (F : FunD B.K "reduced_form" "reduced_form" (defArgs s_reduced_form) (defBody s_reduced_form) (defScope s_reduced_form) [] [] a fd) (hm : B.mg "reduced_form" = some (.ref a)) (D_require_form : Def B 4 "require_form" 1 f_require_form) (D_reducing : Def B 3 "reducing" 1 f_reducing) : Def B 5 "reduced_form" 1 f_reduced_form :=
  Def.mk' (N := n_reduced_form) (ps := ["form"]) F hm sc_reduced_form (fun _ _ _ _ _ _ us hl => match us, hl with | [_], _ => rfl) (fun cdv A outer s H E hr =>
    (bi_cons (si_expr (ei_call D_require_form (fun _ => hr.mono (by decide)) (fun _ => cy_takes) (fun _ => rfl) rfl (ai_cons (ei_var 0) ai_nil) (len_cons (fun _ _ _ _ => len_nil)))) (bi_one (si_ret (ei_ix (ei_call D_reducing (fun _ => hr.mono (by decide)) (fun _ => cy_takes) (fun _ => rfl) rfl (ai_cons (ei_var 0) ai_nil) (len_cons (fun _ _ _ _ => len_nil))) ei_int (fun _ _ => rfl))))))
/-! ### is_reduced -/
abbrev s_is_reduced : Stmt := top 20
abbrev n_is_reduced : List Str := ["form"]
theorem sc_is_reduced : FnScope n_is_reduced ["form"] (defScope s_is_reduced) := ⟨rfl, rfl, rfl, by decide +kernel, rfl, by decide +kernel, by decide +kernel⟩
theorem d_is_reduced {B : Cb} {a : Addr} {fd : FuncData} (F : FunD B.K "is_reduced" "is_reduced" (defArgs s_is_reduced) (defBody s_is_reduced) (defScope s_is_reduced) [] [] a fd) (hm : B.mg "is_reduced" = some (.ref a)) (D_require_form : Def B 4 "require_form" 1 f_require_form) (D_is_least : Def B 1 "is_least" 1 f_is_least) : Def B 5 "is_reduced" 1 f_is_reduced :=
  Def.mk' (N := n_is_reduced) (ps := ["form"]) F hm sc_is_reduced (fun _ _ _ _ _ _ us hl => match us, hl with | [_], _ => rfl) (fun cdv A outer s H E hr =>
    (bi_cons (si_expr (ei_call D_require_form (fun _ => hr.mono (by decide)) (fun _ => cy_takes) (fun _ => rfl) rfl (ai_cons (ei_var 0) ai_nil) (len_cons (fun _ _ _ _ => len_nil)))) (bi_one (si_ret (ei_call D_is_least (fun _ => hr.mono (by decide)) (fun _ => cy_takes) (fun _ => rfl) rfl (ai_cons (ei_var 0) ai_nil) (len_cons (fun _ _ _ _ => len_nil)))))))
/-! ### _law_bf_matrix -/
abbrev s__law_bf_matrix : Stmt := top 30
abbrev n__law_bf_matrix : List Str := ["_law_dice_here", "_law_most", "_law_found", "_law_turn", "_law_part", "_law_step"]
theorem sc__law_bf_matrix : FnScope n__law_bf_matrix ["_law_dice_here", "_law_most"] (defScope s__law_bf_matrix) := ⟨rfl, rfl, rfl, by decide +kernel, rfl, by decide +kernel, by decide +kernel⟩
theorem d__law_bf_matrix {B : Cb} {a : Addr} {fd : FuncData} (F : FunD B.K "_law_bf_matrix" "_law_bf_matrix" (defArgs s__law_bf_matrix) (defBody s__law_bf_matrix) (defScope s__law_bf_matrix) [] [] a fd) (hm : B.mg "_law_bf_matrix" = some (.ref a)) (z_range : B.mg "range" = none) (D__law_roll : Def B 1 "_law_roll" 2 f__law_roll) (D__law_pick : Def B 2 "_law_pick" 2 f__law_pick) (D__law_bf_product : Def B 1 "_law_bf_product" 2 f__law_bf_product) : Def B 3 "_law_bf_matrix" 2 f__law_bf_matrix :=
  Def.mk' (N := n__law_bf_matrix) (ps := ["_law_dice_here", "_law_most"]) F hm sc__law_bf_matrix (fun _ _ _ _ _ _ us hl => match us, hl with | [_, _], _ => rfl) (fun cdv A outer s H E hr =>
    (bi_cons (si_set 2 sc__law_bf_matrix.nd rfl (fun _ => .inl rfl) (fun _ => .inr rfl) (ei_tup (ai_cons ei_int (ai_cons ei_int (ai_cons ei_int (ai_cons ei_int ai_nil)))))) (bi_cons (si_for (fun _ => cy_passes) (fun _ => rfl) (ii_range1 (fun _ => rfl) z_range (ai_cons (ei_call D__law_roll (fun _ => hr.mono (by decide)) (fun _ => cy_takes) (fun _ => rfl) rfl (ai_cons (ei_var 0) (ai_cons (ei_bin (fun _ => op_addAll) oi_add (ei_var 1) ei_int) ai_nil)) (len_cons (len_cons (fun _ _ _ _ => len_nil)))) ai_nil)) (gi_name 3 sc__law_bf_matrix.nd rfl (fun _ => .inl rfl) (fun _ => .inr rfl)) (bi_cons (si_set 4 sc__law_bf_matrix.nd rfl (fun _ => .inl rfl) (fun _ => .inr rfl) (ei_bin (fun _ => op_addAll) oi_add ei_int (ei_call D__law_roll (fun _ => hr.mono (by decide)) (fun _ => cy_takes) (fun _ => rfl) rfl (ai_cons (ei_var 0) (ai_cons ei_int ai_nil)) (len_cons (len_cons (fun _ _ _ _ => len_nil)))))) (bi_cons (si_set 5 sc__law_bf_matrix.nd rfl (fun _ => .inl rfl) (fun _ => .inr rfl) (ei_call D__law_pick (fun _ => hr.mono (by decide)) (fun _ => cy_takes) (fun _ => rfl) rfl (ai_cons (ei_var 0) (ai_cons (ei_lst (ai_cons (ei_tup (ai_cons ei_int (ai_cons (ei_fold (f := sNeg (sC (.int 1))) (ei_neg ei_int) (by kernel_rfl)) (ai_cons ei_int (ai_cons ei_int ai_nil))))) (ai_cons (ei_tup (ai_cons ei_int (ai_cons (ei_var 4) (ai_cons ei_int (ai_cons ei_int ai_nil))))) (ai_cons (ei_tup (ai_cons ei_int (ai_cons ei_int (ai_cons (ei_neg (ei_var 4)) (ai_cons ei_int ai_nil))))) (ai_cons (ei_tup (ai_cons ei_int (ai_cons (ei_neg (ei_var 4)) (ai_cons ei_int (ai_cons ei_int ai_nil))))) ai_nil))))) ai_nil)) (len_cons (len_cons (fun _ _ _ _ => len_nil))))) (bi_one (si_set 2 sc__law_bf_matrix.nd rfl (fun _ => .inl rfl) (fun _ => .inr rfl) (ei_call D__law_bf_product (fun _ => hr.mono (by decide)) (fun _ => cy_takes) (fun _ => rfl) rfl (ai_cons (ei_var 2) (ai_cons (ei_var 5) ai_nil)) (len_cons (len_cons (fun _ _ _ _ => len_nil))))))))) (bi_one (si_ret (ei_var 2))))))
/-! ### reducing_matrix -/
abbrev s_reducing_matrix : Stmt := top 22
abbrev n_reducing_matrix : List Str := ["form"]
theorem sc_reducing_matrix : FnScope n_reducing_matrix ["form"] (defScope s_reducing_matrix) := ⟨rfl, rfl, rfl, by decide +kernel, rfl, by decide +kernel, by decide +kernel⟩
theorem d_reducing_matrix {B : Cb} {a : Addr} {fd : FuncData} (F : FunD B.K "reducing_matrix" "reducing_matrix" (defArgs s_reducing_matrix) (defBody s_reducing_matrix) (defScope s_reducing_matrix) [] [] a fd) (hm : B.mg "reducing_matrix" = some (.ref a)) (D_require_form : Def B 4 "require_form" 1 f_require_form) (D_reducing : Def B 3 "reducing" 1 f_reducing) : Def B 5 "reducing_matrix" 1 f_reducing_matrix :=
  Def.mk' (N := n_reducing_matrix) (ps := ["form"]) F hm sc_reducing_matrix (fun _ _ _ _ _ _ us hl => match us, hl with | [_], _ => rfl) (fun cdv A outer s H E hr =>
    (bi_cons (si_expr (ei_call D_require_form (fun _ => hr.mono (by decide)) (fun _ => cy_takes) (fun _ => rfl) rfl (ai_cons (ei_var 0) ai_nil) (len_cons (fun _ _ _ _ => len_nil)))) (bi_one (si_ret (ei_ix (ei_call D_reducing (fun _ => hr.mono (by decide)) (fun _ => cy_takes) (fun _ => rfl) rfl (ai_cons (ei_var 0) ai_nil) (len_cons (fun _ _ _ _ => len_nil))) ei_int (fun _ _ => rfl))))))
/-! ### _law_is_right_matrix -/
abbrev s__law_is_right_matrix : Stmt := top 35
abbrev n__law_is_right_matrix : List Str := ["_law_form", "_law_least", "_law_value", "_law_entry"]
theorem sc__law_is_right_matrix : FnScope n__law_is_right_matrix ["_law_form", "_law_least", "_law_value"] (defScope s__law_is_right_matrix) := ⟨rfl, rfl, rfl, by decide +kernel, rfl, by decide +kernel, by decide +kernel⟩
theorem d__law_is_right_matrix {B : Cb} {a : Addr} {fd : FuncData} (F : FunD B.K "_law_is_right_matrix" "_law_is_right_matrix" (defArgs s__law_is_right_matrix) (defBody s__law_is_right_matrix) (defScope s__law_is_right_matrix) [] [] a fd) (hm : B.mg "_law_is_right_matrix" = some (.ref a)) (z_len : B.mg "len" = none) (z_isinstance : B.mg "isinstance" = none) (z_tuple : B.mg "tuple" = none) (z_all : B.mg "all" = none) (z_bool : B.mg "bool" = none) (z_int : B.mg "int" = none) (D__law_bf_led : Def B 1 "_law_bf_led" 2 f__law_bf_led) : Def B 2 "_law_is_right_matrix" 3 m__law_is_right_matrix :=
  Def.mk' (N := n__law_is_right_matrix) (ps := ["_law_form", "_law_least", "_law_value"]) F hm sc__law_is_right_matrix (fun _ _ _ _ _ _ us hl => match us, hl with | [_, _, _], _ => rfl) (fun cdv A outer s H E hr =>
    (bi_cons (si_if (WI.ti (wi_or (ti_not (ti_val (ei_callB (fun _ => call_isi) ci_isi (fun _ => rfl) z_isinstance (by decide +kernel) (ai_cons (ei_var 2) (ai_cons (ei_ty (fun _ => rfl) z_tuple (by decide +kernel)) ai_nil))))) (wi_or1 (ti_cmp (fun _ => op_neD hr.units) oi_ne (nomark _) (ei_callB (fun _ => call_lenA) ci_len (fun _ => rfl) z_len (by decide +kernel) (ai_cons (ei_var 2) ai_nil)) ei_int)))) (bi_one (si_ret ei_bl)) bi_nil) (bi_cons (si_if (ti_not (ti_val (ei_callB (fun _ => (cr_all rfl)) ci_all (fun _ => rfl) z_all (by decide +kernel) (ai_cons (ei_lc (own := [("_law_entry", 3)]) (fun _ => rfl) sc__law_is_right_matrix.nd (ii_seq (ei_var 2)) (fun _ => show blkC n__law_is_right_matrix (defScope s__law_is_right_matrix) _ [("_law_entry", 3)] = true by decide +kernel) (gi_name 3 sc__law_is_right_matrix.nd rfl (fun _ => .inl rfl) (fun _ => .inr rfl)) tsi_nil (ei_and (ei_callB (fun _ => call_isi) ci_isi (fun _ => rfl) z_isinstance (by decide +kernel) (ai_cons (ei_var 3) (ai_cons (ei_ty (fun _ => rfl) z_int (by decide +kernel)) ai_nil))) (ei_one (ei_not (ei_callB (fun _ => call_isi) ci_isi (fun _ => rfl) z_isinstance (by decide +kernel) (ai_cons (ei_var 3) (ai_cons (ei_ty (fun _ => rfl) z_bool (by decide +kernel)) ai_nil)))))) (by decide)) ai_nil)))) (bi_one (si_ret ei_bl)) bi_nil) (bi_one (si_ret (ei_and (ei_cmp (fun _ => op_eqD hr.units) oi_eq (nomark _) (ei_bin (fun _ => op_sub) oi_sub (ei_bin (fun _ => op_mulAll) oi_mul (ei_ix (ei_var 2) ei_int (fun _ _ => rfl)) (ei_ix (ei_var 2) ei_int (fun _ _ => rfl))) (ei_bin (fun _ => op_mulAll) oi_mul (ei_ix (ei_var 2) ei_int (fun _ _ => rfl)) (ei_ix (ei_var 2) ei_int (fun _ _ => rfl)))) ei_int) (ei_one (ei_cmp (fun _ => op_eqD hr.units) oi_eq (nomark _) (ei_call D__law_bf_led (fun _ => hr.mono (by decide)) (fun _ => cy_takes) (fun _ => rfl) rfl (ai_cons (ei_var 0) (ai_cons (ei_var 2) ai_nil)) (len_cons (len_cons (fun _ _ _ _ => len_nil)))) (ei_var 1)))))))))
/-! ### _law_bf_keepers -/
abbrev s__law_bf_keepers : Stmt := top 34
abbrev n__law_bf_keepers : List Str := ["_law_form", "_law_p", "_law_found", "_law_some", "_law_q", "_law_r", "_law_matrix", "_law_s"]
theorem sc__law_bf_keepers : FnScope n__law_bf_keepers ["_law_form"] (defScope s__law_bf_keepers) := ⟨rfl, rfl, rfl, by decide +kernel, rfl, by decide +kernel, by decide +kernel⟩
theorem d__law_bf_keepers {B : Cb} {a : Addr} {fd : FuncData} (F : FunD B.K "_law_bf_keepers" "_law_bf_keepers" (defArgs s__law_bf_keepers) (defBody s__law_bf_keepers) (defScope s__law_bf_keepers) [] [] a fd) (hm : B.mg "_law_bf_keepers" = some (.ref a)) (D__law_bf_led : Def B 1 "_law_bf_led" 2 f__law_bf_led) : Def B 2 "_law_bf_keepers" 1 f__law_bf_keepers :=
  Def.mk' (N := n__law_bf_keepers) (ps := ["_law_form"]) F hm sc__law_bf_keepers (fun _ _ _ _ _ _ us hl => match us, hl with | [_], _ => rfl) (fun cdv A outer s H E hr =>
    (bi_cons (si_par (i := 2) (j := 3) (fun _ => rfl) sc__law_bf_keepers.nd rfl rfl (by decide) (fun _ => rfl) (fun _ => rfl) (ai_cons (ei_lst ai_nil) (ai_cons (ei_lst (ai_cons (ei_fold (f := sNeg (sC (.int 1))) (ei_neg ei_int) (by kernel_rfl)) (ai_cons ei_int (ai_cons ei_int ai_nil)))) ai_nil)) (fun _ => rfl)) (bi_cons (si_for (fun _ => cy_passes) (fun _ => rfl) (ii_seq (ei_var 3)) (gi_name 1 sc__law_bf_keepers.nd rfl (fun _ => .inr rfl) (fun _ => .inl rfl)) (bi_one (si_for (fun _ => cy_passes) (fun _ => rfl) (ii_seq (ei_var 3)) (gi_name 4 sc__law_bf_keepers.nd rfl (fun _ => .inr rfl) (fun _ => .inl rfl)) (bi_one (si_for (fun _ => cy_passes) (fun _ => rfl) (ii_seq (ei_var 3)) (gi_name 5 sc__law_bf_keepers.nd rfl (fun _ => .inr rfl) (fun _ => .inl rfl)) (bi_one (si_set 2 sc__law_bf_keepers.nd rfl (fun _ => .inl rfl) (fun _ => .inr rfl) (ei_bin (fun _ => op_addAll) oi_add (ei_var 2) (ei_lc (own := [("_law_s", 7)]) (fun _ => rfl) sc__law_bf_keepers.nd (ii_seq (ei_var 3)) (fun _ => show blkC n__law_bf_keepers (defScope s__law_bf_keepers) _ [("_law_s", 7)] = true by decide +kernel) (gi_name 7 sc__law_bf_keepers.nd rfl (fun _ => .inl rfl) (fun _ => .inr rfl)) (tsi_one (ti_cmp (fun _ => op_eqD hr.units) oi_eq (nomark _) (ei_bin (fun _ => op_sub) oi_sub (ei_bin (fun _ => op_mulAll) oi_mul (ei_var 1) (ei_var 7)) (ei_bin (fun _ => op_mulAll) oi_mul (ei_var 4) (ei_var 5))) ei_int)) (ei_tup (ai_cons (ei_var 1) (ai_cons (ei_var 4) (ai_cons (ei_var 5) (ai_cons (ei_var 7) ai_nil))))) (by decide)))))))))) (bi_one (si_ret (ei_lc (own := [("_law_matrix", 6)]) (fun _ => rfl) sc__law_bf_keepers.nd (ii_seq (ei_var 2)) (fun _ => show blkC n__law_bf_keepers (defScope s__law_bf_keepers) _ [("_law_matrix", 6)] = true by decide +kernel) (gi_name 6 sc__law_bf_keepers.nd rfl (fun _ => .inl rfl) (fun _ => .inr rfl)) (tsi_one (ti_cmp (fun _ => op_eqD hr.units) oi_eq (nomark _) (ei_call D__law_bf_led (fun _ => hr.mono (by decide)) (fun _ => takes0) (fun _ => rfl) rfl (ai_cons (ei_var 0) (ai_cons (ei_var 6) ai_nil)) (len_cons (len_cons (fun _ _ _ _ => len_nil)))) (ei_var 0))) (ei_var 6) (by decide)))))))
/-! ### _law_near -/
abbrev s__law_near : Stmt := top 36
abbrev n__law_near : List Str := ["_law_dice_here", "_law_matrix", "_law_least", "_law_found", "_law_keeper", "_law_at", "_law_entry"]
theorem sc__law_near : FnScope n__law_near ["_law_dice_here", "_law_matrix", "_law_least"] (defScope s__law_near) := ⟨rfl, rfl, rfl, by decide +kernel, rfl, by decide +kernel, by decide +kernel⟩
theorem d__law_near {B : Cb} {a : Addr} {fd : FuncData} (F : FunD B.K "_law_near" "_law_near" (defArgs s__law_near) (defBody s__law_near) (defScope s__law_near) [] [] a fd) (hm : B.mg "_law_near" = some (.ref a)) (z_tuple : B.mg "tuple" = none) (z_list : B.mg "list" = none) (D__law_bf_keepers : Def B 2 "_law_bf_keepers" 1 f__law_bf_keepers) (D__law_bf_product : Def B 1 "_law_bf_product" 2 f__law_bf_product) (D__law_bf_matrix : Def B 3 "_law_bf_matrix" 2 f__law_bf_matrix) (D__law_roll : Def B 1 "_law_roll" 2 f__law_roll) (z_str : B.mg "str" = none) : Def B 4 "_law_near" 3 m__law_near :=
  Def.mk' (N := n__law_near) (ps := ["_law_dice_here", "_law_matrix", "_law_least"]) F hm sc__law_near (fun _ _ _ _ _ _ us hl => match us, hl with | [_, _, _], _ => rfl) (fun cdv A outer s H E hr =>
    (bi_cons (si_set 3 sc__law_near.nd rfl (fun _ => .inl rfl) (fun _ => .inr rfl) (ei_lstM (ai_cons (ei_var 1) (ai_cons (ei_callTy (fun _ => call_list_of) ci_list (fun _ => rfl) z_list (by decide +kernel) (ai_cons (ei_var 1) ai_nil)) (ai_cons (ei_sl li_sl (ei_var 1) ol_no (ol_part ei_int)) (ai_cons (ei_bin (fun _ => op_addAll) oi_add (ei_var 1) (ei_tup (ai_cons ei_int ai_nil))) (ai_cons (ei_callTy (fun _ => call_tuple_of) ci_tuple (fun _ => rfl) z_tuple (by decide +kernel) (ai_cons (ei_lc (own := [("_law_entry", 6)]) (fun _ => rfl) sc__law_near.nd (ii_seq (ei_var 1)) (fun _ => show blkC n__law_near (defScope s__law_near) _ [("_law_entry", 6)] = true by decide +kernel) (gi_name 6 sc__law_near.nd rfl (fun _ => .inl rfl) (fun _ => .inr rfl)) tsi_nil (ei_neg (ei_var 6)) (by decide)) ai_nil)) (ai_cons ei_non (ai_cons ei_int (ai_cons (ei_tup ai_nil) (ai_cons (ei_tup (ai_cons ei_int (ai_cons ei_int (ai_cons ei_int (ai_cons ei_int ai_nil))))) ai_nil))))))))))) (bi_cons (si_for (fun _ => cy_passes) (fun _ => rfl) (ii_seq (ei_call D__law_bf_keepers (fun _ => hr.mono (by decide)) (fun _ => cy_takes) (fun _ => rfl) rfl (ai_cons (ei_var 2) ai_nil) (len_cons (fun _ _ _ _ => len_nil)))) (gi_name 4 sc__law_near.nd rfl (fun _ => .inl rfl) (fun _ => .inr rfl)) (bi_one (si_expr (ei_append (ei_var 3) (ei_call D__law_bf_product (fun _ => hr.mono (by decide)) (fun _ => cy_takes) (fun _ => rfl) rfl (ai_cons (ei_var 1) (ai_cons (ei_var 4) ai_nil)) (len_cons (len_cons (fun _ _ _ _ => len_nil)))))))) (bi_cons (si_for (fun _ => cy_passes) (fun _ => rfl) (ii_seq (ei_lst (ai_cons (ei_tup (ai_cons ei_int (ai_cons ei_int (ai_cons ei_int (ai_cons ei_int ai_nil))))) (ai_cons (ei_tup (ai_cons ei_int (ai_cons (ei_fold (f := sNeg (sC (.int 1))) (ei_neg ei_int) (by kernel_rfl)) (ai_cons ei_int (ai_cons ei_int ai_nil))))) (ai_cons (ei_tup (ai_cons (ei_fold (f := sNeg (sC (.int 1))) (ei_neg ei_int) (by kernel_rfl)) (ai_cons ei_int (ai_cons ei_int (ai_cons ei_int ai_nil))))) (ai_cons (ei_tup (ai_cons ei_int (ai_cons ei_int (ai_cons ei_int (ai_cons ei_int ai_nil))))) (ai_cons (ei_call D__law_bf_matrix (fun _ => hr.mono (by decide)) (fun _ => cy_takes) (fun _ => rfl) rfl (ai_cons (ei_var 0) (ai_cons ei_int ai_nil)) (len_cons (len_cons (fun _ _ _ _ => len_nil)))) ai_nil))))))) (gi_name 4 sc__law_near.nd rfl (fun _ => .inl rfl) (fun _ => .inr rfl)) (bi_one (si_expr (ei_append (ei_var 3) (ei_call D__law_bf_product (fun _ => hr.mono (by decide)) (fun _ => cy_takes) (fun _ => rfl) rfl (ai_cons (ei_var 1) (ai_cons (ei_var 4) ai_nil)) (len_cons (len_cons (fun _ _ _ _ => len_nil)))))))) (bi_cons (si_set 5 sc__law_near.nd rfl (fun _ => .inl rfl) (fun _ => .inr rfl) (ei_call D__law_roll (fun _ => hr.mono (by decide)) (fun _ => cy_takes) (fun _ => rfl) rfl (ai_cons (ei_var 0) (ai_cons ei_int ai_nil)) (len_cons (len_cons (fun _ _ _ _ => len_nil))))) (bi_cons (si_for (fun _ => cy_passes) (fun _ => rfl) (ii_seq (ei_lst (ai_cons (ei_bin (fun _ => op_addAll) oi_add (ei_ix (ei_var 1) (ei_var 5) (fun _ _ => rfl)) ei_int) (ai_cons (ei_bin (fun _ => op_sub) oi_sub (ei_ix (ei_var 1) (ei_var 5) (fun _ _ => rfl)) ei_int) (ai_cons (ei_callTy (fun _ => call_str_int) ci_str (fun _ => rfl) z_str (by decide +kernel) (ai_cons (ei_ix (ei_var 1) (ei_var 5) (fun _ _ => rfl)) ai_nil)) (ai_cons ei_non (ai_cons ei_bl ai_nil))))))) (gi_name 6 sc__law_near.nd rfl (fun _ => .inl rfl) (fun _ => .inr rfl)) (bi_one (si_expr (ei_append (ei_var 3) (ei_bin (fun _ => op_addAll) oi_add (ei_bin (fun _ => op_addAll) oi_add (ei_sl li_sl (ei_var 1) ol_no (ol_part (ei_var 5))) (ei_tup (ai_cons (ei_var 6) ai_nil))) (ei_sl li_sl (ei_var 1) (ol_part (ei_bin (fun _ => op_addAll) oi_add (ei_var 5) ei_int)) ol_no)))))) (bi_one (si_ret (ei_frz (ei_var 3))))))))))
/-! ### is_turn -/
abbrev s_is_turn : Stmt := top 14
abbrev n_is_turn : List Str := ["value", "entry"]
theorem sc_is_turn : FnScope n_is_turn ["value"] (defScope s_is_turn) := ⟨rfl, rfl, rfl, by decide +kernel, rfl, by decide +kernel, by decide +kernel⟩
theorem d_is_turn {B : Cb} {a : Addr} {fd : FuncData} (F : FunD B.K "is_turn" "is_turn" (defArgs s_is_turn) (defBody s_is_turn) (defScope s_is_turn) [] [] a fd) (hm : B.mg "is_turn" = some (.ref a)) (z_all : B.mg "all" = none) (D_is_whole : Def B 1 "is_whole" 1 f_is_whole) (z_len : B.mg "len" = none) (c_MATRIX_SIZE : ∃ t, B.mg "MATRIX_SIZE" = some (.int (4) t)) (z_isinstance : B.mg "isinstance" = none) (z_tuple : B.mg "tuple" = none) : Def B 2 "is_turn" 1 f_is_turn :=
  Def.mk' (N := n_is_turn) (ps := ["value"]) F hm sc_is_turn (fun _ _ _ _ _ _ us hl => match us, hl with | [_], _ => rfl) (fun cdv A outer s H E hr =>
    (bi_cons (si_if (WI.ti (wi_or (ti_not (ti_val (ei_callB (fun _ => call_isi) ci_isi (fun _ => rfl) z_isinstance (by decide +kernel) (ai_cons (ei_var 0) (ai_cons (ei_ty (fun _ => rfl) z_tuple (by decide +kernel)) ai_nil))))) (wi_or (ti_cmp (fun _ => op_neD hr.units) oi_ne (nomark _) (ei_callB (fun _ => call_lenA) ci_len (fun _ => rfl) z_len (by decide +kernel) (ai_cons (ei_var 0) ai_nil)) (ei_gint (fun _ => rfl) c_MATRIX_SIZE)) (wi_or1 (ti_not (ti_val (ei_callB (fun _ => (cr_all rfl)) ci_all (fun _ => rfl) z_all (by decide +kernel) (ai_cons (ei_lc (own := [("entry", 1)]) (fun _ => rfl) sc_is_turn.nd (ii_seq (ei_var 0)) (fun _ => show blkC n_is_turn (defScope s_is_turn) _ [("entry", 1)] = true by decide +kernel) (gi_name 1 sc_is_turn.nd rfl (fun _ => .inl rfl) (fun _ => .inr rfl)) tsi_nil (ei_call D_is_whole (fun _ => hr.mono (by decide)) (fun _ => takes0) (fun _ => rfl) rfl (ai_cons (ei_var 1) ai_nil) (len_cons (fun _ _ _ _ => len_nil))) (by decide)) ai_nil)))))))) (bi_one (si_ret ei_bl)) bi_nil) (bi_one (si_ret (ei_cmp (fun _ => op_eqD hr.units) oi_eq (nomark _) (ei_bin (fun _ => op_sub) oi_sub (ei_bin (fun _ => op_mulAll) oi_mul (ei_ix (ei_var 0) ei_int (fun _ _ => rfl)) (ei_ix (ei_var 0) ei_int (fun _ _ => rfl))) (ei_bin (fun _ => op_mulAll) oi_mul (ei_ix (ei_var 0) ei_int (fun _ _ => rfl)) (ei_ix (ei_var 0) ei_int (fun _ _ => rfl)))) ei_int)))))
/-! ### is_reducing -/
abbrev s_is_reducing : Stmt := top 23
abbrev n_is_reducing : List Str := ["form", "value"]
theorem sc_is_reducing : FnScope n_is_reducing ["form", "value"] (defScope s_is_reducing) := ⟨rfl, rfl, rfl, by decide +kernel, rfl, by decide +kernel, by decide +kernel⟩
theorem d_is_reducing {B : Cb} {a : Addr} {fd : FuncData} (F : FunD B.K "is_reducing" "is_reducing" (defArgs s_is_reducing) (defBody s_is_reducing) (defScope s_is_reducing) [] [] a fd) (hm : B.mg "is_reducing" = some (.ref a)) (D_require_form : Def B 4 "require_form" 1 f_require_form) (D_led_by : Def B 2 "led_by" 2 f_led_by) (D_reducing : Def B 3 "reducing" 1 f_reducing) (D_is_turn : Def B 2 "is_turn" 1 f_is_turn) : Def B 5 "is_reducing" 2 f_is_reducing :=
  Def.mk' (N := n_is_reducing) (ps := ["form", "value"]) F hm sc_is_reducing (fun _ _ _ _ _ _ us hl => match us, hl with | [_, _], _ => rfl) (fun cdv A outer s H E hr =>
    (bi_cons (si_expr (ei_call D_require_form (fun _ => hr.mono (by decide)) (fun _ => cy_takes) (fun _ => rfl) rfl (ai_cons (ei_var 0) ai_nil) (len_cons (fun _ _ _ _ => len_nil)))) (bi_one (si_ret (ei_and (ei_call D_is_turn (fun _ => hr.mono (by decide)) (fun _ => cy_takes) (fun _ => rfl) rfl (ai_cons (ei_var 1) ai_nil) (len_cons (fun _ _ _ _ => len_nil))) (ei_one (ei_cmp (fun _ => op_eqD hr.units) oi_eq (nomark _) (ei_call D_led_by (fun _ => hr.mono (by decide)) (fun _ => cy_takes) (fun _ => rfl) rfl (ai_cons (ei_var 0) (ai_cons (ei_var 1) ai_nil)) (len_cons (len_cons (fun _ _ _ _ => len_nil)))) (ei_ix (ei_call D_reducing (fun _ => hr.mono (by decide)) (fun _ => cy_takes) (fun _ => rfl) rfl (ai_cons (ei_var 0) ai_nil) (len_cons (fun _ _ _ _ => len_nil))) ei_int (fun _ _ => rfl)))))))))
/-! ### _law_right -/
abbrev s__law_right : Stmt := top 37
abbrev n__law_right : List Str := ["_law_dice_here", "_law_form", "_law_least", "_law_turn", "_law_here", "_law_matrix", "_law_value"]
theorem sc__law_right : FnScope n__law_right ["_law_dice_here"] (defScope s__law_right) := ⟨rfl, rfl, rfl, by decide +kernel, rfl, by decide +kernel, by decide +kernel⟩
theorem d__law_right {B : Cb} {a : Addr} {fd : FuncData} (F : FunD B.K "_law_right" "_law_right" (defArgs s__law_right) (defBody s__law_right) (defScope s__law_right) [] [] a fd) (hm : B.mg "_law_right" = some (.ref a)) (D__law_bf_drawn : Def B 2 "_law_bf_drawn" 2 f__law_bf_drawn) (D__law_pick : Def B 2 "_law_pick" 2 f__law_pick) (D__law_bf_least : Def B 2 "_law_bf_least" 1 f__law_bf_least) (D_reduced_form : Def B 5 "reduced_form" 1 f_reduced_form) (D_is_reduced : Def B 5 "is_reduced" 1 f_is_reduced) (z_range : B.mg "range" = none) (D__law_bf_led : Def B 1 "_law_bf_led" 2 f__law_bf_led) (D__law_bf_matrix : Def B 3 "_law_bf_matrix" 2 f__law_bf_matrix) (D_reducing_matrix : Def B 5 "reducing_matrix" 1 f_reducing_matrix) (D__law_is_right_matrix : Def B 2 "_law_is_right_matrix" 3 m__law_is_right_matrix) (D__law_near : Def B 4 "_law_near" 3 m__law_near) (D_is_reducing : Def B 5 "is_reducing" 2 f_is_reducing) : Def B 6 "_law_right" 1 m__law_right :=
  Def.mk' (N := n__law_right) (ps := ["_law_dice_here"]) F hm sc__law_right (fun _ _ _ _ _ _ us hl => match us, hl with | [_], _ => rfl) (fun cdv A outer s H E hr =>
    (bi_cons (si_set 1 sc__law_right.nd rfl (fun _ => .inl rfl) (fun _ => .inr rfl) (ei_call D__law_bf_drawn (fun _ => hr.mono (by decide)) (fun _ => cy_takes) (fun _ => rfl) rfl (ai_cons (ei_var 0) (ai_cons (ei_call D__law_pick (fun _ => hr.mono (by decide)) (fun _ => cy_takes) (fun _ => rfl) rfl (ai_cons (ei_var 0) (ai_cons (ei_lst (ai_cons ei_int (ai_cons ei_int (ai_cons ei_int (ai_cons (ei_fold (f := sBin dPow (sC (.int 10)) (sC (.int 7))) (ei_bin (fun _ => op_pow) oi_pow ei_int ei_int) (by kernel_rfl)) ai_nil))))) ai_nil)) (len_cons (len_cons (fun _ _ _ _ => len_nil)))) ai_nil)) (len_cons (len_cons (fun _ _ _ _ => len_nil))))) (bi_cons (si_set 2 sc__law_right.nd rfl (fun _ => .inl rfl) (fun _ => .inr rfl) (ei_ix (ei_call D__law_bf_least (fun _ => hr.mono (by decide)) (fun _ => cy_takes) (fun _ => rfl) rfl (ai_cons (ei_var 1) ai_nil) (len_cons (fun _ _ _ _ => len_nil))) ei_int (fun _ _ => rfl))) (bi_cons (si_if (WI.ti (wi_or (ti_cmp (fun _ => op_neD hr.units) oi_ne (nomark _) (ei_call D_reduced_form (fun _ => hr.mono (by decide)) (fun _ => cy_takes) (fun _ => rfl) rfl (ai_cons (ei_var 1) ai_nil) (len_cons (fun _ _ _ _ => len_nil))) (ei_var 2)) (wi_or (ti_not (ti_val (ei_call D_is_reduced (fun _ => hr.mono (by decide)) (fun _ => cy_takes) (fun _ => rfl) rfl (ai_cons (ei_var 2) ai_nil) (len_cons (fun _ _ _ _ => len_nil))))) (wi_or1 (ti_cmp (fun _ => op_neD hr.units) oi_ne (nomark _) (ei_call D_reduced_form (fun _ => hr.mono (by decide)) (fun _ => cy_takes) (fun _ => rfl) rfl (ai_cons (ei_var 2) ai_nil) (len_cons (fun _ _ _ _ => len_nil))) (ei_var 2)))))) (bi_one (si_ret ei_bl)) bi_nil) (bi_cons (si_for (fun _ => cy_passes) (fun _ => rfl) (ii_range1 (fun _ => rfl) z_range (ai_cons ei_int ai_nil)) (gi_name 3 sc__law_right.nd rfl (fun _ => .inl rfl) (fun _ => .inr rfl)) (bi_cons (si_set 4 sc__law_right.nd rfl (fun _ => .inl rfl) (fun _ => .inr rfl) (ei_call D__law_bf_led (fun _ => hr.mono (by decide)) (fun _ => cy_takes) (fun _ => rfl) rfl (ai_cons (ei_var 1) (ai_cons (ei_call D__law_bf_matrix (fun _ => hr.mono (by decide)) (fun _ => cy_takes) (fun _ => rfl) rfl (ai_cons (ei_var 0) (ai_cons ei_int ai_nil)) (len_cons (len_cons (fun _ _ _ _ => len_nil)))) ai_nil)) (len_cons (len_cons (fun _ _ _ _ => len_nil))))) (bi_cons (si_set 5 sc__law_right.nd rfl (fun _ => .inl rfl) (fun _ => .inr rfl) (ei_call D_reducing_matrix (fun _ => hr.mono (by decide)) (fun _ => cy_takes) (fun _ => rfl) rfl (ai_cons (ei_var 4) ai_nil) (len_cons (fun _ _ _ _ => len_nil)))) (bi_cons (si_if (WI.ti (wi_or (ti_cmp (fun _ => op_neD hr.units) oi_ne (nomark _) (ei_call D_reduced_form (fun _ => hr.mono (by decide)) (fun _ => cy_takes) (fun _ => rfl) rfl (ai_cons (ei_var 4) ai_nil) (len_cons (fun _ _ _ _ => len_nil))) (ei_var 2)) (wi_or1 (ti_not (ti_val (ei_call D__law_is_right_matrix (fun _ => hr.mono (by decide)) (fun _ => cy_takes) (fun _ => rfl) rfl (ai_cons (ei_var 4) (ai_cons (ei_var 2) (ai_cons (ei_var 5) ai_nil))) (len_cons (len_cons (len_cons (fun _ _ _ _ => len_nil)))))))))) (bi_one (si_ret ei_bl)) bi_nil) (bi_one (si_for (fun _ => cy_passes) (fun _ => rfl) (ii_seq (ei_call D__law_near (fun _ => hr.mono (by decide)) (fun _ => cy_takes) (fun _ => rfl) rfl (ai_cons (ei_var 0) (ai_cons (ei_var 5) (ai_cons (ei_var 2) ai_nil))) (len_cons (len_cons (len_cons (fun _ _ _ _ => len_nil)))))) (gi_name 6 sc__law_right.nd rfl (fun _ => .inl rfl) (fun _ => .inr rfl)) (bi_one (si_if (ti_cmp (fun _ => op_neD hr.units) oi_ne (nomark _) (ei_call D_is_reducing (fun _ => hr.mono (by decide)) (fun _ => cy_takes) (fun _ => rfl) rfl (ai_cons (ei_var 4) (ai_cons (ei_var 6) ai_nil)) (len_cons (len_cons (fun _ _ _ _ => len_nil)))) (ei_call D__law_is_right_matrix (fun _ => hr.mono (by decide)) (fun _ => cy_takes) (fun _ => rfl) rfl (ai_cons (ei_var 4) (ai_cons (ei_var 2) (ai_cons (ei_var 6) ai_nil))) (len_cons (len_cons (len_cons (fun _ _ _ _ => len_nil)))))) (bi_one (si_ret ei_bl)) bi_nil)))))))) (bi_one (si_ret (ei_call D_is_reducing (fun _ => hr.mono (by decide)) (fun _ => cy_takes) (fun _ => rfl) rfl (ai_cons (ei_var 1) (ai_cons (ei_ix (ei_call D__law_bf_least (fun _ => hr.mono (by decide)) (fun _ => cy_takes) (fun _ => rfl) rfl (ai_cons (ei_var 1) ai_nil) (len_cons (fun _ _ _ _ => len_nil))) ei_int (fun _ _ => rfl)) ai_nil)) (len_cons (len_cons (fun _ _ _ _ => len_nil)))))))))))
/-! ### law -/
abbrev s_law : Stmt := top 38
abbrev n_law : List Str := ["_law_script", "_law_spot", "_law_told", "_law_dice_here"]
theorem sc_law : FnScope n_law ["_law_script"] (defScope s_law) := ⟨rfl, rfl, rfl, by decide +kernel, rfl, by decide +kernel, by decide +kernel⟩
theorem d_law {B : Cb} {a : Addr} {fd : FuncData} (F : FunD B.K "law" "law" (defArgs s_law) (defBody s_law) (defScope s_law) [] [] a fd) (hm : B.mg "law" = some (.ref a)) (z_range : B.mg "range" = none) (z_max : B.mg "max" = none) (z_min : B.mg "min" = none) (z_len : B.mg "len" = none) (D__law_dice : Def B 1 "_law_dice" 2 f__law_dice) (D__law_right : Def B 6 "_law_right" 1 m__law_right) (D_reduced_form : Def B 5 "reduced_form" 1 f_reduced_form) (D_is_reducing : Def B 5 "is_reducing" 2 f_is_reducing) : Def B 7 "law" 1 m_law :=
  Def.mk' (N := n_law) (ps := ["_law_script"]) F hm sc_law (fun _ _ _ _ _ _ us hl => match us, hl with | [_], _ => rfl) (fun cdv A outer s H E hr =>
    (bi_cons (si_for (fun _ => cy_passes) (fun _ => rfl) (ii_range1 (fun _ => rfl) z_range (ai_cons (ei_callB (fun _ => (call_max2 rfl)) ci_max2 (fun _ => rfl) z_max (by decide +kernel) (ai_cons ei_int (ai_cons (ei_callB (fun _ => (call_min2 rfl)) ci_min2 (fun _ => rfl) z_min (by decide +kernel) (ai_cons ei_int (ai_cons (ei_callB (fun _ => call_lenA) ci_len (fun _ => rfl) z_len (by decide +kernel) (ai_cons (ei_var 0) ai_nil)) ai_nil))) ai_nil))) ai_nil)) (gi_name 1 sc_law.nd rfl (fun _ => .inl rfl) (fun _ => .inr rfl)) (bi_cons (si_set 3 sc_law.nd rfl (fun _ => .inl rfl) (fun _ => .inr rfl) (ei_call D__law_dice (fun _ => hr.mono (by decide)) (fun _ => cy_takes) (fun _ => rfl) rfl (ai_cons (ei_var 0) (ai_cons (ei_var 1) ai_nil)) (len_cons (len_cons (fun _ _ _ _ => len_nil))))) (bi_one (si_if (WI.ti (wi_or (ti_not (ti_val (ei_call D__law_right (fun _ => hr.mono (by decide)) (fun _ => cy_takes) (fun _ => rfl) rfl (ai_cons (ei_var 3) ai_nil) (len_cons (fun _ _ _ _ => len_nil))))) (wi_or1 (ti_not (ti_val (ei_call D__law_right (fun _ => hr.mono (by decide)) (fun _ => cy_takes) (fun _ => rfl) rfl (ai_cons (ei_var 3) ai_nil) (len_cons (fun _ _ _ _ => len_nil)))))))) (bi_one (si_ret ei_bl)) bi_nil)))) (bi_cons (si_set 2 sc_law.nd rfl (fun _ => .inl rfl) (fun _ => .inr rfl) (ei_lst (ai_cons (ei_call D_reduced_form (fun _ => hr.mono (by decide)) (fun _ => cy_takes) (fun _ => rfl) rfl (ai_cons (ei_tup (ai_cons ei_int (ai_cons ei_int (ai_cons ei_int ai_nil)))) ai_nil) (len_cons (fun _ _ _ _ => len_nil))) (ai_cons (ei_call D_reduced_form (fun _ => hr.mono (by decide)) (fun _ => cy_takes) (fun _ => rfl) rfl (ai_cons (ei_tup (ai_cons ei_int (ai_cons (ei_fold (f := sNeg (sC (.int 5))) (ei_neg ei_int) (by kernel_rfl)) (ai_cons ei_int ai_nil)))) ai_nil) (len_cons (fun _ _ _ _ => len_nil))) (ai_cons (ei_call D_reduced_form (fun _ => hr.mono (by decide)) (fun _ => cy_takes) (fun _ => rfl) rfl (ai_cons (ei_tup (ai_cons ei_int (ai_cons (ei_fold (f := sNeg (sC (.int 2))) (ei_neg ei_int) (by kernel_rfl)) (ai_cons ei_int ai_nil)))) ai_nil) (len_cons (fun _ _ _ _ => len_nil))) (ai_cons (ei_call D_reduced_form (fun _ => hr.mono (by decide)) (fun _ => cy_takes) (fun _ => rfl) rfl (ai_cons (ei_tup (ai_cons ei_int (ai_cons (ei_fold (f := sNeg (sC (.int 1))) (ei_neg ei_int) (by kernel_rfl)) (ai_cons ei_int ai_nil)))) ai_nil) (len_cons (fun _ _ _ _ => len_nil))) ai_nil)))))) (bi_one (si_ret (ei_and (ei_cmp (fun _ => op_eqD hr.units) oi_eq (nomark _) (ei_var 2) (ei_lst (ai_cons (ei_tup (ai_cons ei_int (ai_cons ei_int (ai_cons ei_int ai_nil)))) (ai_cons (ei_tup (ai_cons ei_int (ai_cons (ei_fold (f := sNeg (sC (.int 1))) (ei_neg ei_int) (by kernel_rfl)) (ai_cons ei_int ai_nil)))) (ai_cons (ei_tup (ai_cons ei_int (ai_cons ei_int (ai_cons ei_int ai_nil)))) (ai_cons (ei_tup (ai_cons ei_int (ai_cons ei_int (ai_cons ei_int ai_nil)))) ai_nil)))))) (ei_one (ei_call D_is_reducing (fun _ => hr.mono (by decide)) (fun _ => cy_takes) (fun _ => rfl) rfl (ai_cons (ei_tup (ai_cons ei_int (ai_cons ei_int (ai_cons ei_int ai_nil)))) (ai_cons (ei_tup (ai_cons (ei_fold (f := sNeg (sC (.int 1))) (ei_neg ei_int) (by kernel_rfl)) (ai_cons ei_int (ai_cons ei_int (ai_cons (ei_fold (f := sNeg (sC (.int 1))) (ei_neg ei_int) (by kernel_rfl)) ai_nil))))) ai_nil)) (len_cons (len_cons (fun _ _ _ _ => len_nil)))))))))))
/-! ### the head -/
def e__law_dice : He.DefD := ⟨("_law_dice", none), "_law_dice", "_law_dice", defArgs s__law_dice, defBody s__law_dice, defScope s__law_dice, [], []⟩
def e__law_roll : He.DefD := ⟨("_law_roll", none), "_law_roll", "_law_roll", defArgs s__law_roll, defBody s__law_roll, defScope s__law_roll, [], []⟩
def e__law_bf_drawn : He.DefD := ⟨("_law_bf_drawn", none), "_law_bf_drawn", "_law_bf_drawn", defArgs s__law_bf_drawn, defBody s__law_bf_drawn, defScope s__law_bf_drawn, [], []⟩
def e__law_pick : He.DefD := ⟨("_law_pick", none), "_law_pick", "_law_pick", defArgs s__law_pick, defBody s__law_pick, defScope s__law_pick, [], []⟩
def e__law_bf_is_least : He.DefD := ⟨("_law_bf_is_least", none), "_law_bf_is_least", "_law_bf_is_least", defArgs s__law_bf_is_least, defBody s__law_bf_is_least, defScope s__law_bf_is_least, [], []⟩
def e__law_bf_product : He.DefD := ⟨("_law_bf_product", none), "_law_bf_product", "_law_bf_product", defArgs s__law_bf_product, defBody s__law_bf_product, defScope s__law_bf_product, [], []⟩
def e__law_bf_led : He.DefD := ⟨("_law_bf_led", none), "_law_bf_led", "_law_bf_led", defArgs s__law_bf_led, defBody s__law_bf_led, defScope s__law_bf_led, [], []⟩
def e__law_bf_least : He.DefD := ⟨("_law_bf_least", none), "_law_bf_least", "_law_bf_least", defArgs s__law_bf_least, defBody s__law_bf_least, defScope s__law_bf_least, [], []⟩
def e_is_whole : He.DefD := ⟨("is_whole", none), "is_whole", "is_whole", defArgs s_is_whole, defBody s_is_whole, defScope s_is_whole, [], []⟩
def e_is_integer : He.DefD := ⟨("is_integer", none), "is_integer", "is_integer", defArgs s_is_integer, defBody s_is_integer, defScope s_is_integer, [], []⟩
def e_measure_in : He.DefD := ⟨("measure_in", none), "measure_in", "measure_in", defArgs s_measure_in, defBody s_measure_in, defScope s_measure_in, [], []⟩
def e_is_form : He.DefD := ⟨("is_form", none), "is_form", "is_form", defArgs s_is_form, defBody s_is_form, defScope s_is_form, [], []⟩
def e_require_form : He.DefD := ⟨("require_form", none), "require_form", "require_form", defArgs s_require_form, defBody s_require_form, defScope s_require_form, [], []⟩
def e_is_least : He.DefD := ⟨("is_least", none), "is_least", "is_least", defArgs s_is_least, defBody s_is_least, defScope s_is_least, [], []⟩
def e_product_of : He.DefD := ⟨("product_of", none), "product_of", "product_of", defArgs s_product_of, defBody s_product_of, defScope s_product_of, [], []⟩
def e_value_at : He.DefD := ⟨("value_at", none), "value_at", "value_at", defArgs s_value_at, defBody s_value_at, defScope s_value_at, [], []⟩
def e_led_by : He.DefD := ⟨("led_by", none), "led_by", "led_by", defArgs s_led_by, defBody s_led_by, defScope s_led_by, [], []⟩
def e_reducing : He.DefD := ⟨("reducing", none), "reducing", "reducing", defArgs s_reducing, defBody s_reducing, defScope s_reducing, [], []⟩
def e_reduced_form : He.DefD := ⟨("reduced_form", none), "reduced_form", "reduced_form", defArgs s_reduced_form, defBody s_reduced_form, defScope s_reduced_form, [], []⟩
def e_is_reduced : He.DefD := ⟨("is_reduced", none), "is_reduced", "is_reduced", defArgs s_is_reduced, defBody s_is_reduced, defScope s_is_reduced, [], []⟩
def e__law_bf_matrix : He.DefD := ⟨("_law_bf_matrix", none), "_law_bf_matrix", "_law_bf_matrix", defArgs s__law_bf_matrix, defBody s__law_bf_matrix, defScope s__law_bf_matrix, [], []⟩
def e_reducing_matrix : He.DefD := ⟨("reducing_matrix", none), "reducing_matrix", "reducing_matrix", defArgs s_reducing_matrix, defBody s_reducing_matrix, defScope s_reducing_matrix, [], []⟩
def e__law_is_right_matrix : He.DefD := ⟨("_law_is_right_matrix", none), "_law_is_right_matrix", "_law_is_right_matrix", defArgs s__law_is_right_matrix, defBody s__law_is_right_matrix, defScope s__law_is_right_matrix, [], []⟩
def e__law_bf_keepers : He.DefD := ⟨("_law_bf_keepers", none), "_law_bf_keepers", "_law_bf_keepers", defArgs s__law_bf_keepers, defBody s__law_bf_keepers, defScope s__law_bf_keepers, [], []⟩
def e__law_near : He.DefD := ⟨("_law_near", none), "_law_near", "_law_near", defArgs s__law_near, defBody s__law_near, defScope s__law_near, [], []⟩
def e_is_turn : He.DefD := ⟨("is_turn", none), "is_turn", "is_turn", defArgs s_is_turn, defBody s_is_turn, defScope s_is_turn, [], []⟩
def e_is_reducing : He.DefD := ⟨("is_reducing", none), "is_reducing", "is_reducing", defArgs s_is_reducing, defBody s_is_reducing, defScope s_is_reducing, [], []⟩
def e__law_right : He.DefD := ⟨("_law_right", none), "_law_right", "_law_right", defArgs s__law_right, defBody s__law_right, defScope s__law_right, [], []⟩
def e_law : He.DefD := ⟨("law", none), "law", "law", defArgs s_law, defBody s_law, defScope s_law, [], []⟩
def fn : List He.DefD := [e__law_dice, e__law_roll, e__law_bf_drawn, e__law_pick, e__law_bf_is_least, e__law_bf_product, e__law_bf_led, e__law_bf_least, e_is_whole, e_is_integer, e_measure_in, e_is_form, e_require_form, e_is_least, e_product_of, e_value_at, e_led_by, e_reducing, e_reduced_form, e_is_reduced, e__law_bf_matrix, e_reducing_matrix, e__law_is_right_matrix, e__law_bf_keepers, e__law_near, e_is_turn, e_is_reducing, e__law_right, e_law]
def fa_0 : FaX := fun K => (He.Fa.glo "_law_dice").ok K
def fa_1 : FaX := fun K => (He.Fa.glo "_law_roll").ok K
def fa_2 : FaX := fun K => (He.Fa.glo "_law_bf_drawn").ok K
def fa_3 : FaX := fun K => (He.Fa.glo "_law_pick").ok K
def fa_4 : FaX := fun K => (He.Fa.glo "_law_bf_is_least").ok K
def fa_5 : FaX := fun K => (He.Fa.glo "_law_bf_product").ok K
def fa_6 : FaX := fun K => (He.Fa.glo "_law_bf_led").ok K
def fa_7 : FaX := fun K => (He.Fa.glo "_law_bf_least").ok K
def fa_8 : FaX := fun K => (He.Fa.glo "is_whole").ok K
def fa_9 : FaX := fun K => (He.Fa.glo "is_integer").ok K
def fa_10 : FaX := fun K => (He.Fa.glo "measure_in").ok K
def fa_11 : FaX := fun K => (He.Fa.glo "is_form").ok K
def fa_12 : FaX := fun K => (He.Fa.glo "require_form").ok K
def fa_13 : FaX := fun K => (He.Fa.glo "is_least").ok K
def fa_14 : FaX := fun K => (He.Fa.glo "product_of").ok K
def fa_15 : FaX := fun K => (He.Fa.glo "value_at").ok K
def fa_16 : FaX := fun K => (He.Fa.glo "led_by").ok K
def fa_17 : FaX := fun K => (He.Fa.glo "reducing").ok K
def fa_18 : FaX := fun K => (He.Fa.glo "reduced_form").ok K
def fa_19 : FaX := fun K => (He.Fa.glo "is_reduced").ok K
def fa_20 : FaX := fun K => (He.Fa.glo "_law_bf_matrix").ok K
def fa_21 : FaX := fun K => (He.Fa.glo "reducing_matrix").ok K
def fa_22 : FaX := fun K => (He.Fa.glo "_law_is_right_matrix").ok K
def fa_23 : FaX := fun K => (He.Fa.glo "_law_bf_keepers").ok K
def fa_24 : FaX := fun K => (He.Fa.glo "_law_near").ok K
def fa_25 : FaX := fun K => (He.Fa.glo "is_turn").ok K
def fa_26 : FaX := fun K => (He.Fa.glo "is_reducing").ok K
def fa_27 : FaX := fun K => (He.Fa.glo "_law_right").ok K
def fa_28 : FaX := fun K => (He.Fa.glo "law").ok K
def fa_29 : FaX := fun K => (He.Fa.int "GREAT" (1000000000000000000000000000000000000000000000000000000000000)).ok K
def fa_30 : FaX := fun K => (He.Fa.int "FORM_SIZE" (3)).ok K
def fa_31 : FaX := fun K => (He.Fa.int "MATRIX_SIZE" (4)).ok K
def fa_32 : FaX := fun K => (He.Fa.free "abs").ok K
def fa_33 : FaX := fun K => (He.Fa.free "all").ok K
def fa_34 : FaX := fun K => (He.Fa.free "bool").ok K
def fa_35 : FaX := fun K => (He.Fa.free "int").ok K
def fa_36 : FaX := fun K => (He.Fa.free "isinstance").ok K
def fa_37 : FaX := fun K => (He.Fa.free "len").ok K
def fa_38 : FaX := fun K => (He.Fa.free "list").ok K
def fa_39 : FaX := fun K => (He.Fa.free "max").ok K
def fa_40 : FaX := fun K => (He.Fa.free "min").ok K
def fa_41 : FaX := fun K => (He.Fa.free "range").ok K
def fa_42 : FaX := fun K => (He.Fa.free "str").ok K
def fa_43 : FaX := fun K => (He.Fa.free "tuple").ok K
def fa_44 : FaX := faDat "IDLE" (.tup [(.int (1)), (.int (0)), (.int (0)), (.int (1))])
def fa : List FaX := [fa_0, fa_1, fa_2, fa_3, fa_4, fa_5, fa_6, fa_7, fa_8, fa_9, fa_10, fa_11, fa_12, fa_13, fa_14, fa_15, fa_16, fa_17, fa_18, fa_19, fa_20, fa_21, fa_22, fa_23, fa_24, fa_25, fa_26, fa_27, fa_28, fa_29, fa_30, fa_31, fa_32, fa_33, fa_34, fa_35, fa_36, fa_37, fa_38, fa_39, fa_40, fa_41, fa_42, fa_43, fa_44]
abbrev Rw : PySem.W.OpenRow := PySem.W.OpenLaw.row PySem.Challenge.rw_levelroads_k43_whole_reducing
abbrev hk : PySem.W.Hook := hookX 4 fa fn
def ob (s : PySem.W.SharedT) : He.AlD := obsXG 4 fa fn (HandSHeadRun.getT s)
theorem ob_eq (s : PySem.W.SharedT) : ob s = hk.obs s.abs := obsXG_eq (HandSHeadRun.getT_eq s)
def loose : List PySem.Str := (["RoadError", "InvalidForm", "GREAT", "is_whole", "is_integer", "FORM_SIZE", "MATRIX_SIZE", "IDLE", "measure_in", "is_form", "require_form", "is_turn", "value_at", "led_by", "product_of", "is_least"] : List PySem.Str) ++ (["reducing", "is_reduced", "reduced_form", "reducing_matrix", "is_reducing", "_law_dice", "_law_roll", "_law_pick", "_law_bf_led", "_law_bf_product", "_law_bf_matrix", "_law_bf_is_least", "_law_bf_least", "_law_bf_drawn", "_law_bf_keepers", "_law_is_right_matrix"] : List PySem.Str) ++ (["_law_near", "_law_right"] : List PySem.Str)
set_option maxHeartbeats 0 in
theorem run (w : World) : HandSHeadRun.RunEq Rw (PySem.W.view Rw.prog [38]) hk ob 6000 loose w := by
  intro os
  kernel_rfl
theorem facts {P : Program} {w : World} {K : PySem.W.Frag} {h : Heap} {mg : Str → Option Value} {f : Addr} (X : K.In h) (G : h.Ns mainGlobals mg) (hfa : mg ("law" : Str) = some (.ref f)) (c : SaysX fa fn K) :
    ∃ fd : FuncData, (∀ (s : Shared) (v : Value), BindsTo s fd ⟨[v], []⟩ [("_law_script", v)]) ∧ ∀ base : Heap, K.In base → base.Ns mainGlobals mg → FnOk P w K mg base CX0 7 f fd ["_law_script"] (fun vs H Q _ => spI K mg 1 m_law vs H Q fun _ _ _ => False) := by
  obtain ⟨fd__law_dice, F__law_dice⟩ := c.def_ 0 (d := e__law_dice) rfl
  obtain ⟨fd__law_roll, F__law_roll⟩ := c.def_ 1 (d := e__law_roll) rfl
  obtain ⟨fd__law_bf_drawn, F__law_bf_drawn⟩ := c.def_ 2 (d := e__law_bf_drawn) rfl
  obtain ⟨fd__law_pick, F__law_pick⟩ := c.def_ 3 (d := e__law_pick) rfl
  obtain ⟨fd__law_bf_is_least, F__law_bf_is_least⟩ := c.def_ 4 (d := e__law_bf_is_least) rfl
  obtain ⟨fd__law_bf_product, F__law_bf_product⟩ := c.def_ 5 (d := e__law_bf_product) rfl
  obtain ⟨fd__law_bf_led, F__law_bf_led⟩ := c.def_ 6 (d := e__law_bf_led) rfl
  obtain ⟨fd__law_bf_least, F__law_bf_least⟩ := c.def_ 7 (d := e__law_bf_least) rfl
  obtain ⟨fd_is_whole, F_is_whole⟩ := c.def_ 8 (d := e_is_whole) rfl
  obtain ⟨fd_is_integer, F_is_integer⟩ := c.def_ 9 (d := e_is_integer) rfl
  obtain ⟨fd_measure_in, F_measure_in⟩ := c.def_ 10 (d := e_measure_in) rfl
  obtain ⟨fd_is_form, F_is_form⟩ := c.def_ 11 (d := e_is_form) rfl
  obtain ⟨fd_require_form, F_require_form⟩ := c.def_ 12 (d := e_require_form) rfl
  obtain ⟨fd_is_least, F_is_least⟩ := c.def_ 13 (d := e_is_least) rfl
  obtain ⟨fd_product_of, F_product_of⟩ := c.def_ 14 (d := e_product_of) rfl
  obtain ⟨fd_value_at, F_value_at⟩ := c.def_ 15 (d := e_value_at) rfl
  obtain ⟨fd_led_by, F_led_by⟩ := c.def_ 16 (d := e_led_by) rfl
  obtain ⟨fd_reducing, F_reducing⟩ := c.def_ 17 (d := e_reducing) rfl
  obtain ⟨fd_reduced_form, F_reduced_form⟩ := c.def_ 18 (d := e_reduced_form) rfl
  obtain ⟨fd_is_reduced, F_is_reduced⟩ := c.def_ 19 (d := e_is_reduced) rfl
  obtain ⟨fd__law_bf_matrix, F__law_bf_matrix⟩ := c.def_ 20 (d := e__law_bf_matrix) rfl
  obtain ⟨fd_reducing_matrix, F_reducing_matrix⟩ := c.def_ 21 (d := e_reducing_matrix) rfl
  obtain ⟨fd__law_is_right_matrix, F__law_is_right_matrix⟩ := c.def_ 22 (d := e__law_is_right_matrix) rfl
  obtain ⟨fd__law_bf_keepers, F__law_bf_keepers⟩ := c.def_ 23 (d := e__law_bf_keepers) rfl
  obtain ⟨fd__law_near, F__law_near⟩ := c.def_ 24 (d := e__law_near) rfl
  obtain ⟨fd_is_turn, F_is_turn⟩ := c.def_ 25 (d := e_is_turn) rfl
  obtain ⟨fd_is_reducing, F_is_reducing⟩ := c.def_ 26 (d := e_is_reducing) rfl
  obtain ⟨fd__law_right, F__law_right⟩ := c.def_ 27 (d := e__law_right) rfl
  obtain ⟨fd_law, F_law⟩ := c.def_ 28 (d := e_law) rfl
  have e := hfa.symm.trans (He.glo_ok X G (show (He.Fa.glo "law").ok K = true from c.fact 28 (f := fa_28) rfl))
  cases e
  have b := FunD.bindsA (ps := ["_law_script"]) F_law fun _ _ _ _ _ _ us hl => match us, hl with | [_], _ => rfl
  refine ⟨fd_law, fun s v => b s [v] rfl, fun base _ _ => ?_⟩
  have c_GREAT := He.int_ok X G (show (He.Fa.int "GREAT" (1000000000000000000000000000000000000000000000000000000000000)).ok K = true from c.fact 29 (f := fa_29) rfl)
  have c_FORM_SIZE := He.int_ok X G (show (He.Fa.int "FORM_SIZE" (3)).ok K = true from c.fact 30 (f := fa_30) rfl)
  have c_MATRIX_SIZE := He.int_ok X G (show (He.Fa.int "MATRIX_SIZE" (4)).ok K = true from c.fact 31 (f := fa_31) rfl)
  have z_abs := He.free_ok X G (show (He.Fa.free "abs").ok K = true from c.fact 32 (f := fa_32) rfl)
  have z_all := He.free_ok X G (show (He.Fa.free "all").ok K = true from c.fact 33 (f := fa_33) rfl)
  have z_bool := He.free_ok X G (show (He.Fa.free "bool").ok K = true from c.fact 34 (f := fa_34) rfl)
  have z_int := He.free_ok X G (show (He.Fa.free "int").ok K = true from c.fact 35 (f := fa_35) rfl)
  have z_isinstance := He.free_ok X G (show (He.Fa.free "isinstance").ok K = true from c.fact 36 (f := fa_36) rfl)
  have z_len := He.free_ok X G (show (He.Fa.free "len").ok K = true from c.fact 37 (f := fa_37) rfl)
  have z_list := He.free_ok X G (show (He.Fa.free "list").ok K = true from c.fact 38 (f := fa_38) rfl)
  have z_max := He.free_ok X G (show (He.Fa.free "max").ok K = true from c.fact 39 (f := fa_39) rfl)
  have z_min := He.free_ok X G (show (He.Fa.free "min").ok K = true from c.fact 40 (f := fa_40) rfl)
  have z_range := He.free_ok X G (show (He.Fa.free "range").ok K = true from c.fact 41 (f := fa_41) rfl)
  have z_str := He.free_ok X G (show (He.Fa.free "str").ok K = true from c.fact 42 (f := fa_42) rfl)
  have z_tuple := He.free_ok X G (show (He.Fa.free "tuple").ok K = true from c.fact 43 (f := fa_43) rfl)
  have w_IDLE := dat_ok X G (show faDat "IDLE" (.tup [(.int (1)), (.int (0)), (.int (0)), (.int (1))]) K = true from c.fact 44 (f := fa_44) rfl)
  have D__law_dice : Def ⟨P, w, K, mg, base⟩ 1 "_law_dice" 2 f__law_dice := d__law_dice (B := ⟨P, w, K, mg, base⟩) F__law_dice (He.glo_ok X G (show (He.Fa.glo "_law_dice").ok K = true from c.fact 0 (f := fa_0) rfl)) z_len z_int z_max z_abs
  have D__law_roll : Def ⟨P, w, K, mg, base⟩ 1 "_law_roll" 2 f__law_roll := d__law_roll (B := ⟨P, w, K, mg, base⟩) F__law_roll (He.glo_ok X G (show (He.Fa.glo "_law_roll").ok K = true from c.fact 1 (f := fa_1) rfl)) z_int
  have D__law_bf_drawn : Def ⟨P, w, K, mg, base⟩ 2 "_law_bf_drawn" 2 f__law_bf_drawn := d__law_bf_drawn (B := ⟨P, w, K, mg, base⟩) F__law_bf_drawn (He.glo_ok X G (show (He.Fa.glo "_law_bf_drawn").ok K = true from c.fact 2 (f := fa_2) rfl)) D__law_roll
  have D__law_pick : Def ⟨P, w, K, mg, base⟩ 2 "_law_pick" 2 f__law_pick := d__law_pick (B := ⟨P, w, K, mg, base⟩) F__law_pick (He.glo_ok X G (show (He.Fa.glo "_law_pick").ok K = true from c.fact 3 (f := fa_3) rfl)) D__law_roll z_len
  have D__law_bf_is_least : Def ⟨P, w, K, mg, base⟩ 1 "_law_bf_is_least" 1 f__law_bf_is_least := d__law_bf_is_least (B := ⟨P, w, K, mg, base⟩) F__law_bf_is_least (He.glo_ok X G (show (He.Fa.glo "_law_bf_is_least").ok K = true from c.fact 4 (f := fa_4) rfl)) 
  have D__law_bf_product : Def ⟨P, w, K, mg, base⟩ 1 "_law_bf_product" 2 f__law_bf_product := d__law_bf_product (B := ⟨P, w, K, mg, base⟩) F__law_bf_product (He.glo_ok X G (show (He.Fa.glo "_law_bf_product").ok K = true from c.fact 5 (f := fa_5) rfl)) 
  have D__law_bf_led : Def ⟨P, w, K, mg, base⟩ 1 "_law_bf_led" 2 f__law_bf_led := d__law_bf_led (B := ⟨P, w, K, mg, base⟩) F__law_bf_led (He.glo_ok X G (show (He.Fa.glo "_law_bf_led").ok K = true from c.fact 6 (f := fa_6) rfl)) 
  have D__law_bf_least : Def ⟨P, w, K, mg, base⟩ 2 "_law_bf_least" 1 f__law_bf_least := d__law_bf_least (B := ⟨P, w, K, mg, base⟩) F__law_bf_least (He.glo_ok X G (show (He.Fa.glo "_law_bf_least").ok K = true from c.fact 7 (f := fa_7) rfl)) z_range D__law_bf_is_least D__law_bf_product D__law_bf_led
  have D_is_whole : Def ⟨P, w, K, mg, base⟩ 1 "is_whole" 1 f_is_whole := d_is_whole (B := ⟨P, w, K, mg, base⟩) F_is_whole (He.glo_ok X G (show (He.Fa.glo "is_whole").ok K = true from c.fact 8 (f := fa_8) rfl)) z_isinstance z_bool z_int
  have D_is_integer : Def ⟨P, w, K, mg, base⟩ 2 "is_integer" 1 f_is_integer := d_is_integer (B := ⟨P, w, K, mg, base⟩) F_is_integer (He.glo_ok X G (show (He.Fa.glo "is_integer").ok K = true from c.fact 9 (f := fa_9) rfl)) c_GREAT D_is_whole
  have D_measure_in : Def ⟨P, w, K, mg, base⟩ 1 "measure_in" 1 f_measure_in := d_measure_in (B := ⟨P, w, K, mg, base⟩) F_measure_in (He.glo_ok X G (show (He.Fa.glo "measure_in").ok K = true from c.fact 10 (f := fa_10) rfl)) 
  have D_is_form : Def ⟨P, w, K, mg, base⟩ 3 "is_form" 1 f_is_form := d_is_form (B := ⟨P, w, K, mg, base⟩) F_is_form (He.glo_ok X G (show (He.Fa.glo "is_form").ok K = true from c.fact 11 (f := fa_11) rfl)) z_all D_is_integer z_len c_FORM_SIZE z_isinstance z_tuple D_measure_in
  have D_require_form : Def ⟨P, w, K, mg, base⟩ 4 "require_form" 1 f_require_form := d_require_form (B := ⟨P, w, K, mg, base⟩) F_require_form (He.glo_ok X G (show (He.Fa.glo "require_form").ok K = true from c.fact 12 (f := fa_12) rfl)) D_is_form
  have D_is_least : Def ⟨P, w, K, mg, base⟩ 1 "is_least" 1 f_is_least := d_is_least (B := ⟨P, w, K, mg, base⟩) F_is_least (He.glo_ok X G (show (He.Fa.glo "is_least").ok K = true from c.fact 13 (f := fa_13) rfl)) 
  have D_product_of : Def ⟨P, w, K, mg, base⟩ 1 "product_of" 2 f_product_of := d_product_of (B := ⟨P, w, K, mg, base⟩) F_product_of (He.glo_ok X G (show (He.Fa.glo "product_of").ok K = true from c.fact 14 (f := fa_14) rfl)) 
  have D_value_at : Def ⟨P, w, K, mg, base⟩ 1 "value_at" 3 f_value_at := d_value_at (B := ⟨P, w, K, mg, base⟩) F_value_at (He.glo_ok X G (show (He.Fa.glo "value_at").ok K = true from c.fact 15 (f := fa_15) rfl)) 
  have D_led_by : Def ⟨P, w, K, mg, base⟩ 2 "led_by" 2 f_led_by := d_led_by (B := ⟨P, w, K, mg, base⟩) F_led_by (He.glo_ok X G (show (He.Fa.glo "led_by").ok K = true from c.fact 16 (f := fa_16) rfl)) D_value_at
  have D_reducing : Def ⟨P, w, K, mg, base⟩ 3 "reducing" 1 f_reducing := d_reducing (B := ⟨P, w, K, mg, base⟩) F_reducing (He.glo_ok X G (show (He.Fa.glo "reducing").ok K = true from c.fact 17 (f := fa_17) rfl)) w_IDLE D_is_least D_product_of D_led_by
  have D_reduced_form : Def ⟨P, w, K, mg, base⟩ 5 "reduced_form" 1 f_reduced_form := d_reduced_form (B := ⟨P, w, K, mg, base⟩) F_reduced_form (He.glo_ok X G (show (He.Fa.glo "reduced_form").ok K = true from c.fact 18 (f := fa_18) rfl)) D_require_form D_reducing
  have D_is_reduced : Def ⟨P, w, K, mg, base⟩ 5 "is_reduced" 1 f_is_reduced := d_is_reduced (B := ⟨P, w, K, mg, base⟩) F_is_reduced (He.glo_ok X G (show (He.Fa.glo "is_reduced").ok K = true from c.fact 19 (f := fa_19) rfl)) D_require_form D_is_least
  have D__law_bf_matrix : Def ⟨P, w, K, mg, base⟩ 3 "_law_bf_matrix" 2 f__law_bf_matrix := d__law_bf_matrix (B := ⟨P, w, K, mg, base⟩) F__law_bf_matrix (He.glo_ok X G (show (He.Fa.glo "_law_bf_matrix").ok K = true from c.fact 20 (f := fa_20) rfl)) z_range D__law_roll D__law_pick D__law_bf_product
  have D_reducing_matrix : Def ⟨P, w, K, mg, base⟩ 5 "reducing_matrix" 1 f_reducing_matrix := d_reducing_matrix (B := ⟨P, w, K, mg, base⟩) F_reducing_matrix (He.glo_ok X G (show (He.Fa.glo "reducing_matrix").ok K = true from c.fact 21 (f := fa_21) rfl)) D_require_form D_reducing
  have D__law_is_right_matrix : Def ⟨P, w, K, mg, base⟩ 2 "_law_is_right_matrix" 3 m__law_is_right_matrix := d__law_is_right_matrix (B := ⟨P, w, K, mg, base⟩) F__law_is_right_matrix (He.glo_ok X G (show (He.Fa.glo "_law_is_right_matrix").ok K = true from c.fact 22 (f := fa_22) rfl)) z_len z_isinstance z_tuple z_all z_bool z_int D__law_bf_led
  have D__law_bf_keepers : Def ⟨P, w, K, mg, base⟩ 2 "_law_bf_keepers" 1 f__law_bf_keepers := d__law_bf_keepers (B := ⟨P, w, K, mg, base⟩) F__law_bf_keepers (He.glo_ok X G (show (He.Fa.glo "_law_bf_keepers").ok K = true from c.fact 23 (f := fa_23) rfl)) D__law_bf_led
  have D__law_near : Def ⟨P, w, K, mg, base⟩ 4 "_law_near" 3 m__law_near := d__law_near (B := ⟨P, w, K, mg, base⟩) F__law_near (He.glo_ok X G (show (He.Fa.glo "_law_near").ok K = true from c.fact 24 (f := fa_24) rfl)) z_tuple z_list D__law_bf_keepers D__law_bf_product D__law_bf_matrix D__law_roll z_str
  have D_is_turn : Def ⟨P, w, K, mg, base⟩ 2 "is_turn" 1 f_is_turn := d_is_turn (B := ⟨P, w, K, mg, base⟩) F_is_turn (He.glo_ok X G (show (He.Fa.glo "is_turn").ok K = true from c.fact 25 (f := fa_25) rfl)) z_all D_is_whole z_len c_MATRIX_SIZE z_isinstance z_tuple
  have D_is_reducing : Def ⟨P, w, K, mg, base⟩ 5 "is_reducing" 2 f_is_reducing := d_is_reducing (B := ⟨P, w, K, mg, base⟩) F_is_reducing (He.glo_ok X G (show (He.Fa.glo "is_reducing").ok K = true from c.fact 26 (f := fa_26) rfl)) D_require_form D_led_by D_reducing D_is_turn
  have D__law_right : Def ⟨P, w, K, mg, base⟩ 6 "_law_right" 1 m__law_right := d__law_right (B := ⟨P, w, K, mg, base⟩) F__law_right (He.glo_ok X G (show (He.Fa.glo "_law_right").ok K = true from c.fact 27 (f := fa_27) rfl)) D__law_bf_drawn D__law_pick D__law_bf_least D_reduced_form D_is_reduced z_range D__law_bf_led D__law_bf_matrix D_reducing_matrix D__law_is_right_matrix D__law_near D_is_reducing
  exact fn_cx0 (def_ok (B := ⟨P, w, K, mg, base⟩) (N := n_law) F_law sc_law (fun cdv A outer s H E hr =>
    (bi_cons (si_for (fun _ => cy_passes) (fun _ => rfl) (ii_range1 (fun _ => rfl) z_range (ai_cons (ei_callB (fun _ => (call_max2 rfl)) ci_max2 (fun _ => rfl) z_max (by decide +kernel) (ai_cons ei_int (ai_cons (ei_callB (fun _ => (call_min2 rfl)) ci_min2 (fun _ => rfl) z_min (by decide +kernel) (ai_cons ei_int (ai_cons (ei_callB (fun _ => call_lenA) ci_len (fun _ => rfl) z_len (by decide +kernel) (ai_cons (ei_var 0) ai_nil)) ai_nil))) ai_nil))) ai_nil)) (gi_name 1 sc_law.nd rfl (fun _ => .inl rfl) (fun _ => .inr rfl)) (bi_cons (si_set 3 sc_law.nd rfl (fun _ => .inl rfl) (fun _ => .inr rfl) (ei_call D__law_dice (fun _ => hr.mono (by decide)) (fun _ => cy_takes) (fun _ => rfl) rfl (ai_cons (ei_var 0) (ai_cons (ei_var 1) ai_nil)) (len_cons (len_cons (fun _ _ _ _ => len_nil))))) (bi_one (si_if (WI.ti (wi_or (ti_not (ti_val (ei_call D__law_right (fun _ => hr.mono (by decide)) (fun _ => cy_takes) (fun _ => rfl) rfl (ai_cons (ei_var 3) ai_nil) (len_cons (fun _ _ _ _ => len_nil))))) (wi_or1 (ti_not (ti_val (ei_call D__law_right (fun _ => hr.mono (by decide)) (fun _ => cy_takes) (fun _ => rfl) rfl (ai_cons (ei_var 3) ai_nil) (len_cons (fun _ _ _ _ => len_nil)))))))) (bi_one (si_ret ei_bl)) bi_nil)))) (bi_cons (si_set 2 sc_law.nd rfl (fun _ => .inl rfl) (fun _ => .inr rfl) (ei_lst (ai_cons (ei_call D_reduced_form (fun _ => hr.mono (by decide)) (fun _ => cy_takes) (fun _ => rfl) rfl (ai_cons (ei_tup (ai_cons ei_int (ai_cons ei_int (ai_cons ei_int ai_nil)))) ai_nil) (len_cons (fun _ _ _ _ => len_nil))) (ai_cons (ei_call D_reduced_form (fun _ => hr.mono (by decide)) (fun _ => cy_takes) (fun _ => rfl) rfl (ai_cons (ei_tup (ai_cons ei_int (ai_cons (ei_fold (f := sNeg (sC (.int 5))) (ei_neg ei_int) (by kernel_rfl)) (ai_cons ei_int ai_nil)))) ai_nil) (len_cons (fun _ _ _ _ => len_nil))) (ai_cons (ei_call D_reduced_form (fun _ => hr.mono (by decide)) (fun _ => cy_takes) (fun _ => rfl) rfl (ai_cons (ei_tup (ai_cons ei_int (ai_cons (ei_fold (f := sNeg (sC (.int 2))) (ei_neg ei_int) (by kernel_rfl)) (ai_cons ei_int ai_nil)))) ai_nil) (len_cons (fun _ _ _ _ => len_nil))) (ai_cons (ei_call D_reduced_form (fun _ => hr.mono (by decide)) (fun _ => cy_takes) (fun _ => rfl) rfl (ai_cons (ei_tup (ai_cons ei_int (ai_cons (ei_fold (f := sNeg (sC (.int 1))) (ei_neg ei_int) (by kernel_rfl)) (ai_cons ei_int ai_nil)))) ai_nil) (len_cons (fun _ _ _ _ => len_nil))) ai_nil)))))) (bi_one (si_ret (ei_and (ei_cmp (fun _ => op_eqD hr.units) oi_eq (nomark _) (ei_var 2) (ei_lst (ai_cons (ei_tup (ai_cons ei_int (ai_cons ei_int (ai_cons ei_int ai_nil)))) (ai_cons (ei_tup (ai_cons ei_int (ai_cons (ei_fold (f := sNeg (sC (.int 1))) (ei_neg ei_int) (by kernel_rfl)) (ai_cons ei_int ai_nil)))) (ai_cons (ei_tup (ai_cons ei_int (ai_cons ei_int (ai_cons ei_int ai_nil)))) (ai_cons (ei_tup (ai_cons ei_int (ai_cons ei_int (ai_cons ei_int ai_nil)))) ai_nil)))))) (ei_one (ei_call D_is_reducing (fun _ => hr.mono (by decide)) (fun _ => cy_takes) (fun _ => rfl) rfl (ai_cons (ei_tup (ai_cons ei_int (ai_cons ei_int (ai_cons ei_int ai_nil)))) (ai_cons (ei_tup (ai_cons (ei_fold (f := sNeg (sC (.int 1))) (ei_neg ei_int) (by kernel_rfl)) (ai_cons ei_int (ai_cons ei_int (ai_cons (ei_fold (f := sNeg (sC (.int 1))) (ei_neg ei_int) (by kernel_rfl)) ai_nil))))) ai_nil)) (len_cons (len_cons (fun _ _ _ _ => len_nil))))))))))))
end L43
open PySem PySem.W PySem.Calls PyProof.Rows in
set_option maxHeartbeats 0 in
theorem L43.holds_of (left : L43.Left) : PySem.Challenge.rw_levelroads_k43_whole_reducing.Holds := by
  w_on; o_law
  refine HandSHeadRun.head_any (r := OpenLaw.row PySem.Challenge.rw_levelroads_k43_whole_reducing) (q := view (OpenLaw.row PySem.Challenge.rw_levelroads_k43_whole_reducing).prog [38]) (H := L43.hk) (ob := L43.ob) (M := 6000) (loose := L43.loose) (d := HandSHeadRun.topDef (OpenLaw.row PySem.Challenge.rw_levelroads_k43_whole_reducing).prog 38) (kwd := []) L43.ob_eq
    (by kernel_rfl) (fun s => by kernel_rfl) L43.run (by kernel_rfl) (by kernel_rfl) (by kernel_rfl) (by rfl) (by first | assumption | decide +kernel) (by decide +kernel) ⟨rfl, rfl, rfl, rfl, rfl, by decide +kernel⟩ ?hw ?hc
  case hw => w_witness2
  case hc =>
    refine L2.walk_ofE (l := PySem.Challenge.rw_levelroads_k43_whole_reducing) (n := 63) (k := 7) (x := "_law_script") (CX := L2.CX0) rfl (by decide) (by kernel_rfl) ⟨rfl, by decide, by decide⟩ ?F (fun _ _ _ _ z => z)
    intro w mg fa h Y G hmg0
    obtain ⟨K, KX, c⟩ := Y
    have hmg : mg ("law" : PySem.Str) = some (.ref fa) := by
      have e : (HandSHeadRun.topDef (OpenLaw.row PySem.Challenge.rw_levelroads_k43_whole_reducing).prog 38).name = ("law" : PySem.Str) := by kernel_rfl
      rw [← e]
      exact hmg0
    obtain ⟨fd, hb, hF⟩ := L43.facts (P := (PySem.Challenge.rw_levelroads_k43_whole_reducing).prog) (w := w) KX G hmg c
    exact ⟨K, fd, (fun vs H Q _ => Pd.spI K mg 1 L43.m_law vs H Q fun _ _ _ => False), KX, hb, fun H a ns hl _ hS => Pd.law_sp hS (left ns hl), hF⟩

theorem PySem.Challenge.cw_levelroads_k43_whole_reducing_holds : PySem.Challenge.rw_levelroads_k43_whole_reducing.Holds := by
  exact L43.holds_of L43.left
