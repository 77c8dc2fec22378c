import PyProof.Rows.All
import Wide.All
import OpenK.AllK
import Wide.FinOn
import HandS.ForMost
import HandS.ForExc
import HandS.Evl
import HandS.Wide
import HandS.IsInst
import HandS.Slots
import HandS.Lambda
import HandS.HeadHook4
import HandS.Strs
import HandS.TupAny
import HandS.Deep
import HandS.Defaults
import HandS.Style
import HandS.Zip
import HandS.Codes
import HandS.RaiseMore
import HandS.Iter
import HandS.Head0
import HandS.Head1
import HandS.Head2
import HandS.HeadEnd
import HandS.HeadHook1
import HandS.HeadHook2
import HandS.SortRule
import HandS.SortInts
import HandS.TupSets
import HandS.Star
import HandS.Flow
import HandS.WideMore
import KE.DataMinMax
import HandS.TryMany
import HandS.EndTab
import HandS.ExcOwn
import HandS.NestedK
import PyProof.ExcBaseAll.ValueError
import HandS.TupLen
import HandS.Comp
import HandS.DictComp
import HandS.TupMul
import HandS.SlotsOwn
import PyProof.InstEq
import HandS.FStr
import HandS.SetBool
import KE.KExcSuper
import HandS.ExcInit
import HandS.Nested
import HandS.ExcSuper
import PyProof.ExcBaseAll.IndexError
import PyProof.ExcBaseAll.OverflowError
import HandS.ExcField
import HandS.CallSlots
import HandS.CallLocal
import HandS.ListItems
import KE.KDictList
import KE.KTurnsAny
import HandS.Sort
import KE.GoesMore
import PyProof.EnumMake
import HandS.More
import KE.KEqDict
import KE.KRevSl
import PyProof.Rows.TupMore
import HandS.Steps
import HandS.JoinGen
import PyProof.WalksEnum
import KE.GoesEnum
import HandS.IterVal
import HandS.OwnEq
import KE.KDictPairs
import Flt.Ops
import PySem.Challenge.RW_levelroads_k15_whole_rounds_and_rims
set_option Elab.async false
set_option linter.all false
set_option maxRecDepth 100000
set_option maxHeartbeats 4000000
namespace Pd
open PySem L2 Evl

inductive D where
  | non | bl (b : Bool) | int (i : Int) | str (x : Str)
  | tup (xs : List D) | lst (xs : List D) | seq (xs : List D)
  | ref (n : Nat)
  | glo (x : Str) | ty (n : String)
  | dcK (ks : List Key) (vs : List D) | dcT (ks : List (List Key)) (vs : List D)
  | obj (c : Nat) (vs : List D)
inductive PO where
  | lst (xs : List D)
  | dK (kvs : List (Key × D))
  | dT (kvs : List (List Key × D))
  | ins (c : Str) (fs : List (Str × D))
  | slt (c : Nat) (m : Nat) (vs : List (Option D))
  | dxo (b : Bool)
  | tab (y : Str)
  | sti (ns : List Int)
  | rng (lo hi : Int)
  | dead
abbrev Ph := List PO
def nm : Nat → Str
  | 0 => "Lowest" | 1 => "Ratio" | 2 => "Known" | 3 => "Row" | 4 => "Relations" | 5 => "Space" | 6 => "Sum" | 7 => "Order" | 8 => "Lot" | 9 => "Made" | 10 => "Kind" | 11 => "Bench"
  | _ => ""
abbrev Pe := List (Option D)
inductive R (α : Type) where
  | ok (a : α) (h : Ph)
  | exc (c : Str) (fs : Option (List (Str × D))) (h : Ph)
  | bad
def R.bind {α β : Type} (r : R α) (k : α → Ph → R β) : R β := match r with
  | .ok a h => k a h
  | .exc c fs h => .exc c fs h
  | .bad => .bad
inductive F where
  | nx (e : Pe) (h : Ph) | ret (d : D) (h : Ph) | brk (e : Pe) (h : Ph) | cnt (e : Pe) (h : Ph)
  | exc (c : Str) (fs : Option (List (Str × D))) (e : Pe) (h : Ph)
  | bad
abbrev SE := Pe → Ph → R D
abbrev ST := Pe → Ph → R Bool
abbrev SA := Pe → Ph → R (List D)
abbrev SS := Pe → Ph → F
def R.toF {α : Type} (r : R α) (e : Pe) (k : α → Ph → F) : F := match r with
  | .ok a h => k a h
  | .exc c fs h => .exc c fs e h
  | .bad => .bad

structure Wd where
  ms : List Addr
  G : Hp
def TupR (K : PySem.W.Frag) (G : Hp) (a : Addr) (xs : List V) : Prop := G a = some (.tup xs) ∨ ∃ (o : Obj) (its : Array Value) (n : Nat), K.lookup a = some o ∧ o.cls = .type "tuple" ∧ o.data = .seq its n ∧ its.size ≤ sizeLine ∧ Vals xs its.toList
theorem TupR.sq {K : PySem.W.Frag} {G : Hp} {a : Addr} {xs : List V} (h : TupR K G a xs) : SqT K G a xs := h.elim (fun h => .inl (.inl h)) .inr
theorem TupR.ex {K : PySem.W.Frag} {G H : Hp} {a : Addr} {xs : List V} (e : Ex G H) (h : TupR K G a xs) : TupR K H a xs := h.elim (fun h => .inl (e _ _ h)) .inr
section
variable (K : PySem.W.Frag) (mg : Str → Option Value)
mutual
inductive Rep (w : Wd) : D → V → Prop
  | non : Rep w .non .non
  | bl (b : Bool) : Rep w (.bl b) (.bl b)
  | int (i : Int) : Rep w (.int i) (.int i)
  | str (x : Str) : Rep w (.str x) (.str x)
  | tup {a : Addr} {vs : List V} {xs : List D} : TupR K w.G a vs → Reps w xs vs → Rep w (.tup xs) (.ref a)
  | lst {a : Addr} {vs : List V} {xs : List D} : w.G a = some (.lst vs) → Reps w xs vs → Rep w (.lst xs) (.ref a)
  | seq {a : Addr} {vs : List V} {xs : List D} : SqL K w.G a vs → Reps w xs vs → Rep w (.seq xs) (.ref a)
  | ref {n : Nat} {a : Addr} : w.ms[n]? = some a → Rep w (.ref n) (.ref a)
  | glo {x : Str} {a : Addr} : mg x = some (.ref a) → Rep w (.glo x) (.ref a)
  | ty (n : String) : Rep w (.ty n) (.ty n)
  | dcK {a : Addr} {od : Obj} {ks : List Key} {vs : List V} {xs : List D} : w.G a = some (.frz od (.dK (ks.zip vs))) → ks.length = vs.length → Reps w xs vs → Rep w (.dcK ks xs) (.ref a)
  | dcT {a : Addr} {od : Obj} {ks : List (List Key)} {vs : List V} {xs : List D} : w.G a = some (.frz od (.dT (ks.zip vs))) → ks.length = vs.length → Reps w xs vs → Rep w (.dcT ks xs) (.ref a)
  | obj {c : Nat} {a C dx : Addr} {vs : List V} {xs : List D} : mg (nm c) = some (.ref C) → w.G a = some (SlX.SlO a C dx (vs.map some)) → w.G dx = some (.xd []) → Reps w xs vs → Rep w (.obj c xs) (.ref a)
inductive Reps (w : Wd) : List D → List V → Prop
  | nil : Reps w [] []
  | cons {d : D} {ds : List D} {v : V} {vs : List V} : Rep w d v → Reps w ds vs → Reps w (d :: ds) (v :: vs)
end
end
structure Le (w w' : Wd) : Prop where
  ms : ∃ l, w'.ms = w.ms ++ l
  ex : Ex w.G w'.G
theorem Le.refl (w : Wd) : Le w w := ⟨⟨[], by simp⟩, Ex.refl _⟩
theorem Le.trans {a b c : Wd} (h : Le a b) (k : Le b c) : Le a c := by
  obtain ⟨⟨l, e⟩, x⟩ := h
  obtain ⟨⟨m, f⟩, y⟩ := k
  exact ⟨⟨l ++ m, by rw [f, e, List.append_assoc]⟩, x.trans y⟩
theorem Le.at {w w' : Wd} (l : Le w w') {n : Nat} {a : Addr} (h : w.ms[n]? = some a) : w'.ms[n]? = some a := by
  obtain ⟨⟨m, e⟩, _⟩ := l
  rw [e, List.getElem?_append_left (List.getElem?_eq_some_iff.mp h).1]
  exact h
section
variable {K : PySem.W.Frag} {mg : Str → Option Value} {w w' : Wd}
mutual
theorem Rep.mono (l : Le w w') : ∀ {d : D} {v : V}, Rep K mg w d v → Rep K mg w' d v
  | _, _, .non => .non
  | _, _, .bl b => .bl b
  | _, _, .int i => .int i
  | _, _, .str x => .str x
  | _, _, .tup h r => .tup (TupR.ex l.ex h) (Reps.mono l r)
  | _, _, .lst h r => .lst (l.ex _ _ h) (Reps.mono l r)
  | _, _, .seq h r => .seq (ex_l l.ex h) (Reps.mono l r)
  | _, _, .ref h => .ref (l.at h)
  | _, _, .glo h => .glo h
  | _, _, .ty n => .ty n
  | _, _, .dcK h e r => .dcK (l.ex _ _ h) e (Reps.mono l r)
  | _, _, .dcT h e r => .dcT (l.ex _ _ h) e (Reps.mono l r)
  | _, _, .obj h e f r => .obj h (l.ex _ _ e) (l.ex _ _ f) (Reps.mono l r)
theorem Reps.mono (l : Le w w') : ∀ {d : List D} {v : List V}, Reps K mg w d v → Reps K mg w' d v
  | _, _, .nil => .nil
  | _, _, .cons h r => .cons (Rep.mono l h) (Reps.mono l r)
end
theorem Reps.length : ∀ {d : List D} {v : List V}, Reps K mg w d v → d.length = v.length
  | _, _, .nil => rfl
  | _, _, .cons _ r => by rw [List.length_cons, List.length_cons, Reps.length r]
theorem Reps.append : ∀ {d : List D} {v : List V} {d' : List D} {v' : List V}, Reps K mg w d v → Reps K mg w d' v' → Reps K mg w (d ++ d') (v ++ v')
  | _, _, _, _, .nil, s => s
  | _, _, _, _, .cons h r, s => .cons h (Reps.append r s)
theorem Reps.get : ∀ {d : List D} {v : List V} {i : Nat} {x : D}, Reps K mg w d v → d[i]? = some x → ∃ y, v[i]? = some y ∧ Rep K mg w x y
  | _, _, _, _, .nil, e => by simp at e
  | _, _, 0, _, .cons h _, e => by simp at e; subst e; exact ⟨_, rfl, h⟩
  | _, _, i + 1, x, .cons _ r, e => by
    obtain ⟨y, h1, h2⟩ := Reps.get (i := i) (x := x) r (by simpa using e)
    exact ⟨y, by simpa using h1, h2⟩
theorem Reps.set {x : D} {y : V} (h : Rep K mg w x y) : ∀ {d : List D} {v : List V} (i : Nat), Reps K mg w d v → Reps K mg w (d.set i x) (v.set i y)
  | _, _, _, .nil => .nil
  | _, _, 0, .cons _ r => .cons h r
  | _, _, i + 1, .cons q r => .cons q (Reps.set h i r)
theorem Reps.drop : ∀ {d : List D} {v : List V} (n : Nat), Reps K mg w d v → Reps K mg w (d.drop n) (v.drop n)
  | _, _, 0, h => h
  | _, _, _ + 1, .nil => .nil
  | _, _, n + 1, .cons _ r => Reps.drop n r
theorem Reps.take : ∀ {d : List D} {v : List V} (n : Nat), Reps K mg w d v → Reps K mg w (d.take n) (v.take n)
  | _, _, 0, _ => .nil
  | _, _, _ + 1, .nil => .nil
  | _, _, n + 1, .cons h r => .cons h (Reps.take n r)
theorem Reps.reverse : ∀ {d : List D} {v : List V}, Reps K mg w d v → Reps K mg w d.reverse v.reverse
  | _, _, .nil => .nil
  | _, _, .cons h r => by
    rw [List.reverse_cons, List.reverse_cons]
    exact (Reps.reverse r).append (.cons h .nil)
end

inductive RepF (K : PySem.W.Frag) (mg : Str → Option Value) (w : Wd) : List (Str × D) → List (Str × V) → Prop
  | nil : RepF K mg w [] []
  | cons {x : Str} {d : D} {v : V} {ds : List (Str × D)} {vs : List (Str × V)} : Rep K mg w d v → RepF K mg w ds vs → RepF K mg w ((x, d) :: ds) ((x, v) :: vs)
inductive RepK {κ : Type} (K : PySem.W.Frag) (mg : Str → Option Value) (w : Wd) : List (κ × D) → List (κ × V) → Prop
  | nil : RepK K mg w [] []
  | cons {x : κ} {d : D} {v : V} {ds : List (κ × D)} {vs : List (κ × V)} : Rep K mg w d v → RepK K mg w ds vs → RepK K mg w ((x, d) :: ds) ((x, v) :: vs)
inductive RepS (K : PySem.W.Frag) (mg : Str → Option Value) (w : Wd) : List (Option D) → List (Option V) → Prop
  | nil : RepS K mg w [] []
  | non {ds : List (Option D)} {vs : List (Option V)} : RepS K mg w ds vs → RepS K mg w (none :: ds) (none :: vs)
  | som {d : D} {v : V} {ds : List (Option D)} {vs : List (Option V)} : Rep K mg w d v → RepS K mg w ds vs → RepS K mg w (some d :: ds) (some v :: vs)
def TabP (G : Hp) (q : Str) (ps : Array Value) : Prop := TriplesOk ps.toList ∧ ∀ (pos : Pos) (cv : Value), codeAmong pos ps.toList = some cv → ∃ c, cv = .ref c ∧ G c = some (LamX.CodeO c q)
theorem TabP.ext {G G' : Hp} {q : Str} {ps : Array Value} (h : TabP G q ps) (e : Ex G G') : TabP G' q ps := ⟨h.1, fun pos cv z => by
  obtain ⟨c, e1, e2⟩ := h.2 pos cv z
  exact ⟨c, e1, e _ _ e2⟩⟩
def lamQ (y : Str) : Str := (y ++ ".<locals>.") ++ "<lambda>"
def genT (y : Str) : Bool := match y.cps.toList with
  | 64 :: _ => true
  | _ => false
def tabKey (y : Str) : Str × Option Str := match y.cps.toList with
  | 64 :: r => (match r.dropWhile (fun c => !Nat.beq c 46) with
    | [] => (⟨r.toArray⟩, none)
    | _ :: m => (⟨(r.takeWhile (fun c => !Nat.beq c 46)).toArray⟩, some ⟨m.toArray⟩))
  | _ => (y, none)
def tabAd (K : PySem.W.Frag) (y : Str) : Addr := (He.cT K (tabKey y)).2
inductive RepO (K : PySem.W.Frag) (mg : Str → Option Value) (w : Wd) : Addr → PO → HO → Prop
  | lst {a : Addr} {xs : List D} {vs : List V} : Reps K mg w xs vs → RepO K mg w a (.lst xs) (.lst vs)
  | dK {a : Addr} {xs : List (Key × D)} {vs : List (Key × V)} : RepK K mg w xs vs → RepO K mg w a (.dK xs) (.dK vs)
  | dT {a : Addr} {xs : List (List Key × D)} {vs : List (List Key × V)} : RepK K mg w xs vs → RepO K mg w a (.dT xs) (.dT vs)
  | ins {a : Addr} {c : Str} {C dx : Addr} {xs : List (Str × D)} {vs : List (Str × V)} : mg c = some (.ref C) → RepF K mg w xs vs → RepO K mg w a (.ins c xs) (.ins C dx vs)
  | sl0 {a : Addr} {c : Nat} {C dx : Addr} {m : Nat} : mg (nm c) = some (.ref C) → w.ms[m]? = some dx → RepO K mg w a (.slt c m []) (.ins C dx [])
  | slt {a : Addr} {c : Nat} {C dx : Addr} {m : Nat} {xs : List (Option D)} {vs : List (Option V)} : mg (nm c) = some (.ref C) → w.ms[m]? = some dx → xs ≠ [] → RepS K mg w xs vs → RepO K mg w a (.slt c m xs) (SlX.SlO a C dx vs)
  | dx0 {a : Addr} {u : HO} : (∀ xs, u ≠ .tup xs) → RepO K mg w a (.dxo false) u
  | dx1 {a : Addr} : RepO K mg w a (.dxo true) (.xd [])
  | tab {a : Addr} {y : Str} {ps : Array Value} : a = tabAd K y → TabP w.G (lamQ y) ps → RepO K mg w a (.tab y) (.tbl ps)
  | tbg {a : Addr} {y : Str} {ps : Array Value} : a = tabAd K y → genT y = true → TriplesOk ps.toList → RepO K mg w a (.tab y) (.tbl ps)
  | sti {a : Addr} {w' : World} {ns : List Int} {S : Int → Bool} : (∀ k, S k = true ↔ k ∈ ns) → ns.Nodup → RepO K mg w a (.sti ns) (SetO w' a S ns.length)
  | rng {a : Addr} {lo hi : Int} : RepO K mg w a (.rng lo hi) (.rng lo hi)
  | dead {a : Addr} {u : HO} : RepO K mg w a .dead u
section
variable {K : PySem.W.Frag} {mg : Str → Option Value} {w w' : Wd}
theorem RepF.mono (l : Le w w') : ∀ {d : List (Str × D)} {v : List (Str × V)}, RepF K mg w d v → RepF K mg w' d v
  | _, _, .nil => .nil
  | _, _, .cons h r => .cons (h.mono l) (RepF.mono l r)
theorem RepK.mono {κ : Type} (l : Le w w') : ∀ {d : List (κ × D)} {v : List (κ × V)}, RepK K mg w d v → RepK K mg w' d v
  | _, _, .nil => .nil
  | _, _, .cons h r => .cons (h.mono l) (RepK.mono l r)
theorem RepS.mono (l : Le w w') : ∀ {d : List (Option D)} {v : List (Option V)}, RepS K mg w d v → RepS K mg w' d v
  | _, _, .nil => .nil
  | _, _, .non r => .non (RepS.mono l r)
  | _, _, .som h r => .som (h.mono l) (RepS.mono l r)
theorem RepO.mono (l : Le w w') {a : Addr} {o : PO} {u : HO} (h : RepO K mg w a o u) : RepO K mg w' a o u := by
  cases h with
  | lst h => exact .lst (h.mono l)
  | dK h => exact .dK (h.mono l)
  | dT h => exact .dT (h.mono l)
  | ins h1 h => exact .ins h1 (h.mono l)
  | sl0 h1 h2 => exact .sl0 h1 (l.at h2)
  | slt h1 h2 h3 h => exact .slt h1 (l.at h2) h3 (h.mono l)
  | dx0 z => exact .dx0 z
  | dx1 => exact .dx1
  | tab e h => exact .tab e (h.ext l.ex)
  | tbg e g h => exact .tbg e g h
  | sti h1 h2 => exact .sti h1 h2
  | rng => exact .rng
  | dead => exact .dead
end

structure Lk (K : PySem.W.Frag) (mg : Str → Option Value) (w : Wd) (h : Ph) (H : Hp) : Prop where
  ex : Ex w.G H
  len : w.ms.length = h.length
  obj : ∀ (n : Nat) (a : Addr) (o : PO), w.ms[n]? = some a → h[n]? = some o → ∃ u, H a = some u ∧ RepO K mg w a o u
  inj : ∀ (i j : Nat) (a : Addr), w.ms[i]? = some a → w.ms[j]? = some a → i = j
  out : ∀ (n : Nat) (a : Addr) (o : PO), w.ms[n]? = some a → h[n]? = some o → o ≠ .dead → w.G a = none
theorem RepO.no_tup {K : PySem.W.Frag} {mg : Str → Option Value} {w : Wd} {a : Addr} {o : PO} {u : HO} (r : RepO K mg w a o u) (hd : o ≠ .dead) : ∀ xs, u ≠ .tup xs := by
  intro xs z
  subst z
  cases r with
  | dx0 z => exact z xs rfl
  | dead => exact hd rfl
structure Step (w : Wd) (H : Hp) (w' : Wd) (H' : Hp) : Prop where
  le : Le w w'
  frm : ∀ a o, H a = some o → a ∉ w.ms → H' a = some o
  newM : ∀ a, a ∈ w'.ms → a ∈ w.ms ∨ H a = none
  newG : ∀ a, H a ≠ none → a ∉ w.ms → (∀ xs, H a ≠ some (.tup xs)) → w'.G a = w.G a
theorem Step.refl (w : Wd) (H : Hp) : Step w H w H := ⟨Le.refl w, fun _ _ h _ => h, fun _ h => .inl h, fun _ _ _ _ => rfl⟩
theorem Step.trans {w w1 w2 : Wd} {H H1 H2 : Hp} (a : Step w H w1 H1) (b : Step w1 H1 w2 H2) : Step w H w2 H2 := by
  have nm : ∀ x, H x ≠ none → x ∉ w.ms → x ∉ w1.ms := fun x h1 h2 h3 => (a.newM x h3).elim h2 h1
  refine ⟨a.le.trans b.le, fun x o h1 h2 => b.frm x o (a.frm x o h1 h2) (nm x (by rw [h1]; simp) h2), fun x h1 => ?_, fun x h1 h2 h3 => ?_⟩
  · rcases b.newM x h1 with h | h
    · exact a.newM x h
    · cases e : H x with
      | none => exact .inr rfl
      | some o =>
        by_cases hm : x ∈ w.ms
        · exact .inl hm
        · rw [a.frm x o e hm] at h
          cases h
  · cases e : H x with
    | none => exact absurd e h1
    | some o =>
      rw [b.newG x (by rw [a.frm x o e h2]; simp) (nm x h1 h2) (fun xs => by rw [a.frm x o e h2, ← e]; exact h3 xs), a.newG x h1 h2 h3]

section
variable {K : PySem.W.Frag} {mg : Str → Option Value} {w w' : Wd} {h : Ph} {H : Hp}
theorem Lk.there (L : Lk K mg w h H) {n : Nat} {a : Addr} (e : w.ms[n]? = some a) : ∃ o u, h[n]? = some o ∧ H a = some u ∧ RepO K mg w a o u := by
  have hn : n < h.length := by rw [← L.len]; exact (List.getElem?_eq_some_iff.mp e).1
  obtain ⟨u, hu, r⟩ := L.obj n a h[n] e (by simp [hn])
  exact ⟨_, u, by simp [hn], hu, r⟩
theorem Lk.mem (L : Lk K mg w h H) {a : Addr} (e : a ∈ w.ms) : ∃ u, H a = some u := by
  obtain ⟨n, hn⟩ := List.getElem?_of_mem e
  obtain ⟨_, u, _, hu, _⟩ := L.there hn
  exact ⟨u, hu⟩
theorem Lk.lay (L : Lk K mg w h H) {p : Addr} (hp : H p = none) (o : HO) : Lk K mg ⟨w.ms, upd w.G p o⟩ h (upd H p o) ∧ Step w H ⟨w.ms, upd w.G p o⟩ (upd H p o) ∧ Le w ⟨w.ms, upd w.G p o⟩ := by
  have gp : w.G p = none := fresh_back L.ex hp
  have le : Le w ⟨w.ms, upd w.G p o⟩ := ⟨⟨[], by simp⟩, Ex.new gp⟩
  have nm : ∀ (n : Nat) (a : Addr), w.ms[n]? = some a → a ≠ p := fun n a e z => by
    obtain ⟨_, u, _, hu, _⟩ := L.there e
    rw [z, hp] at hu
    cases hu
  refine ⟨⟨fun a u e => ?_, L.len, fun n a o' e1 e2 => ?_, L.inj, fun n a o' e e2 e3 => ?_⟩, ⟨le, fun a u e _ => ?_, fun a e => .inl e, fun a e _ _ => ?_⟩, le⟩
  · by_cases z : a = p
    · subst z
      rw [show (⟨w.ms, upd w.G a o⟩ : Wd).G a = some o from upd_same] at e
      rw [upd_same]; exact e
    · rw [show (⟨w.ms, upd w.G p o⟩ : Wd).G a = w.G a from upd_ne z] at e
      rw [upd_ne z]; exact L.ex a u e
  · obtain ⟨u, hu, r⟩ := L.obj n a o' e1 e2
    exact ⟨u, by rw [upd_ne (nm n a e1)]; exact hu, r.mono le⟩
  · show upd w.G p o a = none
    rw [upd_ne (nm n a e)]
    exact L.out n a o' e e2 e3
  · rw [upd_ne (ne_of_none e hp)]; exact e
  · show upd w.G p o a = w.G a
    exact upd_ne fun z => e (by rw [z]; exact hp)
theorem Lk.new (L : Lk K mg w h H) {p : Addr} (hp : H p = none) (o : PO) (u : HO) (r : RepO K mg ⟨w.ms ++ [p], w.G⟩ p o u) :
    Lk K mg ⟨w.ms ++ [p], w.G⟩ (h ++ [o]) (upd H p u) ∧ Step w H ⟨w.ms ++ [p], w.G⟩ (upd H p u) ∧ Le w ⟨w.ms ++ [p], w.G⟩ := by
  have gp : w.G p = none := fresh_back L.ex hp
  have le : Le w ⟨w.ms ++ [p], w.G⟩ := ⟨⟨[p], rfl⟩, Ex.refl _⟩
  have nm : ∀ a, a ∈ w.ms → a ≠ p := fun a e z => by
    obtain ⟨u, hu⟩ := L.mem e
    rw [z, hp] at hu
    cases hu
  have split : ∀ (n : Nat) (a : Addr), (w.ms ++ [p])[n]? = some a → (w.ms[n]? = some a ∧ n < h.length) ∨ (n = h.length ∧ a = p) := fun n a e => by
    by_cases hn : n < w.ms.length
    · rw [List.getElem?_append_left hn] at e
      exact .inl ⟨e, by rw [← L.len]; exact hn⟩
    · have q := (List.getElem?_eq_some_iff.mp e).1
      rw [List.length_append, List.length_singleton] at q
      have e1 : n = w.ms.length := by omega
      subst e1
      simp at e
      exact .inr ⟨L.len, e.symm⟩
  refine ⟨⟨fun a v e => ?_, ?_, fun n a o' e1 e2 => ?_, fun i j a e1 e2 => ?_, fun n a o' e e2 e3 => ?_⟩, ⟨le, fun a v e _ => ?_, fun a e => ?_, fun a _ _ _ => rfl⟩, le⟩
  · have e' : w.G a = some v := e
    rw [upd_ne (ne_of_none e' gp)]
    exact L.ex a v e'
  · show (w.ms ++ [p]).length = (h ++ [o]).length
    rw [List.length_append, List.length_append, L.len, List.length_singleton, List.length_singleton]
  · rcases split n a e1 with ⟨q, hn⟩ | ⟨rfl, rfl⟩
    · rw [List.getElem?_append_left hn] at e2
      obtain ⟨v, hv, r'⟩ := L.obj n a o' q e2
      exact ⟨v, by rw [upd_ne (nm a (List.mem_of_getElem? q))]; exact hv, r'.mono le⟩
    · simp at e2
      subst e2
      exact ⟨u, upd_same, r⟩
  · rcases split i a e1 with ⟨q, hi⟩ | ⟨rfl, rfl⟩
    · rcases split j a e2 with ⟨q', hj⟩ | ⟨rfl, rfl⟩
      · exact L.inj i j a q q'
      · exact absurd rfl (nm _ (List.mem_of_getElem? q))
    · rcases split j a e2 with ⟨q', hj⟩ | ⟨rfl, _⟩
      · exact absurd rfl (nm _ (List.mem_of_getElem? q'))
      · rfl
  · rcases split n a e with ⟨q, hn⟩ | ⟨_, rfl⟩
    · rw [List.getElem?_append_left hn] at e2
      exact L.out n a o' q e2 e3
    · exact gp
  · rw [upd_ne (ne_of_none e hp)]; exact e
  · rcases List.mem_append.mp e with q | q
    · exact .inl q
    · have : a = p := by simpa using q
      rw [this]; exact .inr hp
theorem Lk.put (L : Lk K mg w h H) {n : Nat} {a : Addr} {o0 : PO} (e : w.ms[n]? = some a) (e0 : h[n]? = some o0) (hd : o0 ≠ .dead) (o : PO) (u : HO) (r : RepO K mg w a o u) : Lk K mg w (h.set n o) (upd H a u) ∧ Step w H w (upd H a u) := by
  have ga := L.out n a o0 e e0 hd
  refine ⟨⟨fun b v q => ?_, by rw [List.length_set]; exact L.len, fun m b o' e1 e2 => ?_, L.inj, fun m b o' e1 e2 e3 => ?_⟩, ⟨Le.refl w, fun b v q nb => ?_, fun _ q => .inl q, fun _ _ _ _ => rfl⟩⟩
  · rw [upd_ne (ne_of_none q ga)]
    exact L.ex b v q
  · by_cases z : m = n
    · subst z
      rw [e] at e1
      cases e1
      rw [List.getElem?_set_self' ] at e2
      cases hm : h[m]? with
      | none => rw [hm] at e2; cases e2
      | some x =>
        rw [hm] at e2
        cases e2
        exact ⟨u, upd_same, r⟩
    · rw [List.getElem?_set_ne (Ne.symm z)] at e2
      obtain ⟨v, hv, r'⟩ := L.obj m b o' e1 e2
      refine ⟨v, ?_, r'⟩
      rw [upd_ne fun y => z (L.inj m n a (by rw [← y]; exact e1) e)]
      exact hv
  · by_cases z : m = n
    · subst z
      rw [e] at e1
      cases e1
      exact ga
    · rw [List.getElem?_set_ne (Ne.symm z)] at e2
      exact L.out m b o' e1 e2 e3
  · rw [upd_ne fun y => nb (by rw [y]; exact List.mem_of_getElem? e)]
    exact q
theorem Lk.frz (L : Lk K mg w h H) {n : Nat} {a : Addr} {o0 : PO} {u : HO} (e : w.ms[n]? = some a) (e0 : h[n]? = some o0) (hd : o0 ≠ .dead) (hu : H a = some u) :
    Lk K mg ⟨w.ms, upd w.G a u⟩ (h.set n .dead) H ∧ Step w H ⟨w.ms, upd w.G a u⟩ H ∧ Le w ⟨w.ms, upd w.G a u⟩ := by
  have ga := L.out n a o0 e e0 hd
  have le : Le w ⟨w.ms, upd w.G a u⟩ := ⟨⟨[], by simp⟩, Ex.new ga⟩
  refine ⟨⟨fun b v q => ?_, by rw [List.length_set]; exact L.len, fun m b o' e1 e2 => ?_, L.inj, fun m b o' e1 e2 e3 => ?_⟩, ⟨le, fun b v q _ => q, fun _ q => .inl q, fun b q nb _ => ?_⟩, le⟩
  · by_cases z : b = a
    · subst z
      rw [show (⟨w.ms, upd w.G b u⟩ : Wd).G b = some u from upd_same] at q
      rw [hu]; exact q
    · rw [show (⟨w.ms, upd w.G a u⟩ : Wd).G b = w.G b from upd_ne z] at q
      exact L.ex b v q
  · by_cases z : m = n
    · subst z
      rw [e] at e1
      cases e1
      rw [List.getElem?_set_self', e0] at e2
      cases e2
      exact ⟨u, hu, .dead⟩
    · rw [List.getElem?_set_ne (Ne.symm z)] at e2
      obtain ⟨v, hv, r'⟩ := L.obj m b o' e1 e2
      exact ⟨v, hv, r'.mono le⟩
  · by_cases z : m = n
    · subst z
      rw [List.getElem?_set_self', e0] at e2
      cases e2
      exact absurd rfl e3
    · rw [List.getElem?_set_ne (Ne.symm z)] at e2
      show upd w.G a u b = none
      rw [upd_ne fun y => z (L.inj m n a (by rw [← y]; exact e1) e)]
      exact L.out m b o' e1 e2 e3
  · show upd w.G a u b = w.G b
    exact upd_ne fun y => nb (by rw [y]; exact List.mem_of_getElem? e)
end
structure En (K : PySem.W.Frag) (mg : Str → Option Value) (w : Wd) (e : Pe) (σ : St) : Prop where
  len : e.length = σ.length
  get : ∀ (i : Nat) (d : D), e[i]? = some (some d) → ∃ v, σ[i]? = some (some v) ∧ Rep K mg w d v
theorem En.mono {K : PySem.W.Frag} {mg : Str → Option Value} {w w' : Wd} {e : Pe} {σ : St} (E : En K mg w e σ) (l : Le w w') : En K mg w' e σ := ⟨E.len, fun i d h => by
  obtain ⟨v, h1, h2⟩ := E.get i d h
  exact ⟨v, h1, h2.mono l⟩⟩
theorem En.set {K : PySem.W.Frag} {mg : Str → Option Value} {w : Wd} {e : Pe} {σ : St} (E : En K mg w e σ) {d : D} {v : V} (r : Rep K mg w d v) (i : Nat) : En K mg w (e.set i (some d)) (σ.set i (some v)) := by
  refine ⟨by rw [List.length_set, List.length_set]; exact E.len, fun j x h => ?_⟩
  by_cases hj : j = i
  · subst hj
    have hl : j < e.length := by
      have q := (List.getElem?_eq_some_iff.mp h).1
      rw [List.length_set] at q
      exact q
    rw [List.getElem?_set_self hl] at h
    cases h
    exact ⟨v, List.getElem?_set_self (by rw [← E.len]; exact hl), r⟩
  · rw [List.getElem?_set_ne (Ne.symm hj)] at h ⊢
    exact E.get j x h
theorem En.unset {K : PySem.W.Frag} {mg : Str → Option Value} {w : Wd} {e : Pe} {σ : St} (E : En K mg w e σ) (i : Nat) (o : Option V) : En K mg w (e.set i none) (σ.set i o) := by
  refine ⟨by rw [List.length_set, List.length_set]; exact E.len, fun j x h => ?_⟩
  by_cases hj : j = i
  · subst hj
    have hl : j < e.length := by
      have q := (List.getElem?_eq_some_iff.mp h).1
      rw [List.length_set] at q
      exact q
    rw [List.getElem?_set_self hl] at h
    cases h
  · rw [List.getElem?_set_ne (Ne.symm hj)] at h ⊢
    exact E.get j x h
inductive RepX (K : PySem.W.Frag) (mg : Str → Option Value) (w : Wd) : Str → Option (List (Str × D)) → Value → Option Addr → Prop
  | plain {c : Str} {C : Addr} {dd : Option Addr} : mg c = some (.ref C) → RepX K mg w c none (.ref C) dd
  | kept {c : Str} {C d : Addr} {fs : List (Str × D)} {vs : List (Str × V)} : mg c = some (.ref C) → w.G d = some (.xd vs) → RepF K mg w fs vs → RepX K mg w c (some fs) (.ref C) (some d)
theorem RepX.mono {K : PySem.W.Frag} {mg : Str → Option Value} {w w' : Wd} (l : Le w w') {c : Str} {fs : Option (List (Str × D))} {C : Value} {d : Option Addr} (h : RepX K mg w c fs C d) : RepX K mg w' c fs C d := by
  cases h with
  | plain h => exact .plain h
  | kept h1 h2 h3 => exact .kept h1 (l.ex _ _ h2) (h3.mono l)

section
variable (K : PySem.W.Frag) (mg : Str → Option Value)
def Po {α β : Type} (Rp : Wd → α → β → Prop) (W : WX) (σ : St) (w : Wd) (H : Hp) (r : R α) (Q : β → Hp → Prop) : Prop := match r with
  | .ok a h' => ∀ w' H' v, Step w H w' H' → Lk K mg w' h' H' → Rp w' a v → Q v H'
  | .exc c fs h' => ∀ w' H' C d, Step w H w' H' → Lk K mg w' h' H' → RepX K mg w' c fs C d → W C d σ H'
  | .bad => False
def PoF (W : WX) (w : Wd) (H : Hp) (r : F) (D : Ends) : Prop := match r with
  | .nx e' h' => ∀ w' H' σ', Step w H w' H' → Lk K mg w' h' H' → En K mg w' e' σ' → D.nx σ' H'
  | .ret d h' => ∀ w' H' v, Step w H w' H' → Lk K mg w' h' H' → Rep K mg w' d v → D.rt v H'
  | .brk e' h' => ∀ w' H' σ', Step w H w' H' → Lk K mg w' h' H' → En K mg w' e' σ' → D.bk σ' H'
  | .cnt e' h' => ∀ w' H' σ', Step w H w' H' → Lk K mg w' h' H' → En K mg w' e' σ' → D.ct σ' H'
  | .exc c fs e' h' => ∀ w' H' σ' C d, Step w H w' H' → Lk K mg w' h' H' → En K mg w' e' σ' → RepX K mg w' c fs C d → W C d σ' H'
  | .bad => False
def RpB (_ : Wd) (a : Bool) (b : Bool) : Prop := a = b
abbrev PoE := Po (α := D) (β := V) K mg (Rep K mg)
abbrev PoT := Po (α := Bool) (β := Bool) K mg RpB
abbrev PoA := Po (α := List D) (β := List V) K mg (Reps K mg)
def SnE (W : WX) (t : TE) (f : SE) : Prop := ∀ (σ : St) (e : Pe) (w : Wd) (h : Ph) (H : Hp) (Q : VK), En K mg w e σ → Lk K mg w h H → PoE K mg W σ w H (f e h) Q → t σ H Q
def SnT (W : WX) (t : TT) (f : ST) : Prop := ∀ (σ : St) (e : Pe) (w : Wd) (h : Ph) (H : Hp) (Q : Bool → Hp → Prop), En K mg w e σ → Lk K mg w h H → PoT K mg W σ w H (f e h) Q → t σ H Q
def SnA (W : WX) (t : TA) (f : SA) : Prop := ∀ (σ : St) (e : Pe) (w : Wd) (h : Ph) (H : Hp) (Q : List V → Hp → Prop), En K mg w e σ → Lk K mg w h H → PoA K mg W σ w H (f e h) Q → t σ H Q
def SnS (W : WX) (t : TS) (f : SS) : Prop := ∀ (σ : St) (e : Pe) (w : Wd) (h : Ph) (H : Hp) (D : Ends), En K mg w e σ → Lk K mg w h H → PoF K mg W w H (f e h) D → t D σ H
end
section
variable {K : PySem.W.Frag} {mg : Str → Option Value} {W : WX} {σ : St} {w w1 : Wd} {H H1 : Hp}
theorem Po.step {α β : Type} {Rp : Wd → α → β → Prop} {r : R α} {Q : β → Hp → Prop} (st : Step w H w1 H1) (h : Po K mg Rp W σ w H r Q) : Po K mg Rp W σ w1 H1 r Q := by
  cases r with
  | ok a h' => exact fun w' H' v s => h w' H' v (st.trans s)
  | exc c fs h' => exact fun w' H' C d s => h w' H' C d (st.trans s)
  | bad => exact h
theorem PoF.step {r : F} {D : Ends} (st : Step w H w1 H1) (h : PoF K mg W w H r D) : PoF K mg W w1 H1 r D := by
  cases r with
  | nx e' h' => exact fun w' H' v s => h w' H' v (st.trans s)
  | ret e' h' => exact fun w' H' v s => h w' H' v (st.trans s)
  | brk e' h' => exact fun w' H' v s => h w' H' v (st.trans s)
  | cnt e' h' => exact fun w' H' v s => h w' H' v (st.trans s)
  | exc c fs e' h' => exact fun w' H' σ' C d s => h w' H' σ' C d (st.trans s)
  | bad => exact h
theorem Po.bind {α β γ δ : Type} {Rp : Wd → α → β → Prop} {Rq : Wd → γ → δ → Prop} {r : R α} {k : α → Ph → R γ} {Q : δ → Hp → Prop} {Q1 : β → Hp → Prop} (hp : Po K mg Rq W σ w H (r.bind k) Q)
    (hk : ∀ a h1 w1 H1 v, r = .ok a h1 → Step w H w1 H1 → Lk K mg w1 h1 H1 → Rp w1 a v → Po K mg Rq W σ w1 H1 (k a h1) Q → Q1 v H1) : Po K mg Rp W σ w H r Q1 := by
  cases r with
  | ok a h1 => exact fun w1 H1 v st L rp => hk a h1 w1 H1 v rfl st L rp (Po.step st hp)
  | exc c fs h1 => exact hp
  | bad => exact hp
theorem Po.toF {α β : Type} {Rp : Wd → α → β → Prop} {r : R α} {k : α → Ph → F} {e : Pe} {D : Ends} {Q1 : β → Hp → Prop} (E : En K mg w e σ) (hp : PoF K mg W w H (r.toF e k) D)
    (hk : ∀ a h1 w1 H1 v, r = .ok a h1 → Step w H w1 H1 → Lk K mg w1 h1 H1 → Rp w1 a v → PoF K mg W w1 H1 (k a h1) D → Q1 v H1) : Po K mg Rp W σ w H r Q1 := by
  cases r with
  | ok a h1 => exact fun w1 H1 v st L rp => hk a h1 w1 H1 v rfl st L rp (PoF.step st hp)
  | exc c fs h1 => exact fun w1 H1 C d st L rx => hp w1 H1 σ C d st L (E.mono st.le) rx
  | bad => exact hp
end

structure Cz where
  P : Program
  w : World
  K : PySem.W.Frag
  mg : Str → Option Value
  base : Heap
  N : List Str
structure Cy where
  A : Around
  s_0 : Shared
  H_0 : Hp
  env : Env
  outer : List Env
  stack : List Env
  ex : List Addr
  fn : Str → Bool
  calm : Bool
  pn : List (Addr × Obj)
  xe : Value → Shared → Prop
abbrev cx (Z : Cz) (y : Cy) : Cx := { prog := Z.P, w := Z.w, K := Z.K, mg := Z.mg, base := Z.base, A := y.A, N := Z.N, s_0 := y.s_0, H_0 := y.H_0, env := y.env, outer := y.outer, stack := y.stack, ex := y.ex, fn := y.fn, calm := y.calm, pn := y.pn, xe := y.xe }
section
variable {ι : Type}
def EI (Z : Cz) (Y : ι → Cy) (W : WX) (e : Expr) (f : SE) : Prop := ∃ t, (∀ i, PE (cx Z (Y i)) e t) ∧ SnE Z.K Z.mg W t f
def TI (Z : Cz) (Y : ι → Cy) (W : WX) (e : Expr) (f : ST) : Prop := ∃ t, (∀ i, PT (cx Z (Y i)) e t) ∧ SnT Z.K Z.mg W t f
def AI (Z : Cz) (Y : ι → Cy) (W : WX) (es : List Expr) (f : SA) : Prop := ∃ t, (∀ i, PA (cx Z (Y i)) es t) ∧ SnA Z.K Z.mg W t f
def SI (Z : Cz) (Y : ι → Cy) (W : WX) (st : Stmt) (f : SS) : Prop := ∃ t, (∀ i, PS (cx Z (Y i)) st t) ∧ SnS Z.K Z.mg W t f
def BI (Z : Cz) (Y : ι → Cy) (W : WX) (st : List Stmt) (f : SS) : Prop := ∃ t, (∀ i, PSs (cx Z (Y i)) st t) ∧ SnS Z.K Z.mg W t f
variable {Z : Cz} {Y : ι → Cy} {W : WX}

def sVar (i : Nat) : SE := fun e h => match e[i]? with
  | some (some d) => .ok d h
  | _ => .bad
theorem ei_var (i : Nat) {x : Str} {pos : Pos} (hN : Z.N[i]? = some x := by rfl) (hv : ∀ i, Vis (Y i).env.scope x := by first | exact fun _ => Or.inl rfl | exact fun _ => Or.inr (Or.inl rfl) | exact fun _ => Or.inr (Or.inr rfl)) (hd : (x == ("__debug__" : Str)) = false := by decide)
    (hcd : (x == ("__classdict__" : Str)) = false := by decide) : EI Z Y W (.Name x pos) (sVar i) := by
  refine ⟨_, fun j => pe_var hN (hv j) hd hcd, fun σ e w h H Q E L hp => ?_⟩
  unfold sVar at hp
  cases he : e[i]? with
  | none => rw [he] at hp; exact hp.elim
  | some o =>
    cases o with
    | none => rw [he] at hp; exact hp.elim
    | some d =>
      rw [he] at hp
      obtain ⟨v, h1, h2⟩ := E.get i d he
      exact ⟨v, h1, hp w H v (Step.refl w H) L h2⟩
def sC (d : D) : SE := fun _ h => .ok d h
theorem sn_c {K : PySem.W.Frag} {mg : Str → Option Value} {d : D} {v : V} (r : ∀ w, Rep K mg w d v) : SnE K mg W (tC v) (sC d) := fun σ e w h H Q E L hp => hp w H v (Step.refl w H) L (r w)
theorem ei_int {i j pos} : EI Z Y W (.Constant (.int i) j pos) (sC (.int i)) := ⟨_, fun _ => pe_int, sn_c fun _ => .int i⟩
theorem ei_bl {b j pos} : EI Z Y W (.Constant (.bool b) j pos) (sC (.bl b)) := ⟨_, fun _ => pe_bl, sn_c fun _ => .bl b⟩
def GlF (Y : ι → Cy) (x : Str) : Prop := ∀ i, (Y i).env.kindOf x = some .globalImplicit
theorem ei_gint {x : Str} {i : Int} {pos : Pos} (hg : GlF Y x) (hm : ∃ t, Z.mg x = some (.int i t)) (hd : (x == ("__debug__" : Str)) = false := by decide) : EI Z Y W (.Name x pos) (sC (.int i)) := by
  obtain ⟨t, hm⟩ := hm
  exact ⟨_, fun j => pe_glob (v := .int i) (hg j) hm ⟨t, rfl⟩ hd, sn_c fun _ => .int i⟩
theorem ei_ty {x : Str} {n : String} {pos : Pos} (hg : GlF Y x) (hm : Z.mg x = none) (hv : bootBuiltins x = some (.type n)) (hn : x ≠ "__name__" := by decide) (hd : (x == ("__debug__" : Str)) = false := by decide) : EI Z Y W (.Name x pos) (sC (.ty n)) :=
  ⟨_, fun j => pe_bltn (v := .ty n) (hg j) hm hv rfl hn hd, sn_c fun _ => .ty n⟩

def sBin (g : D → D → Ph → R D) (fa fb : SE) : SE := fun e h => (fa e h).bind fun a h1 => (fb e h1).bind fun b h2 => g a b h2
def OpI (K : PySem.W.Frag) (mg : Str → Option Value) (r : R2) (g : D → D → Ph → R D) : Prop := ∀ (W : WX) (σ : St) (w : Wd) (h : Ph) (H : Hp) (a b : D) (x y : V) (Q : VK), Lk K mg w h H → Rep K mg w a x → Rep K mg w b y → PoE K mg W σ w H (g a b h) Q → r x y H Q
theorem sn_bin {K : PySem.W.Frag} {mg : Str → Option Value} {ta tb : TE} {r : R2} {g : D → D → Ph → R D} {fa fb : SE} (ho : OpI K mg r g) (ha : SnE K mg W ta fa) (hb : SnE K mg W tb fb) : SnE K mg W (tOp r ta tb) (sBin g fa fb) := fun σ e w h H Q E L hp =>
  ha σ e w h H _ E L (Po.bind (Rp := Rep K mg) hp fun a h1 w1 H1 x _ st1 L1 r1 hp1 => hb σ e w1 h1 H1 _ (E.mono st1.le) L1 (Po.bind (Rp := Rep K mg) hp1 fun b h2 w2 H2 y _ st2 L2 r2 hp2 =>
    ho W σ w2 h2 H2 a b x y Q L2 (r1.mono st2.le) r2 hp2))
abbrev OpF (Z : Cz) (Y : ι → Cy) (f : Value → Value → Sem Value) (r : R2) : Prop := ∀ i, OpR (cx Z (Y i)) f r
theorem ei_bin {a b : Expr} {op : Operator} {r : R2} {g : D → D → Ph → R D} {fa fb : SE} {pos : Pos} (o : OpF Z Y (binaryOp op) r) (ho : OpI Z.K Z.mg r g) (ha : EI Z Y W a fa) (hb : EI Z Y W b fb) : EI Z Y W (.BinOp a op b pos) (sBin g fa fb) := by
  obtain ⟨ta, pa, sa⟩ := ha
  obtain ⟨tb, pb, sb⟩ := hb
  exact ⟨_, fun i => pe_op (o i) (pa i) (pb i), sn_bin ho sa sb⟩
theorem ei_cmp {a b : Expr} {op : CmpOp} {r : R2} {g : D → D → Ph → R D} {fa fb : SE} {pos : Pos} (o : OpF Z Y (compareOp op) r) (ho : OpI Z.K Z.mg r g) (hm : behindInMarks op b = false) (ha : EI Z Y W a fa) (hb : EI Z Y W b fb) : EI Z Y W (.Compare a [op] [b] pos) (sBin g fa fb) := by
  obtain ⟨ta, pa, sa⟩ := ha
  obtain ⟨tb, pb, sb⟩ := hb
  exact ⟨_, fun i => pe_cmpR (o i) (pa i) (pb i) hm, sn_bin ho sa sb⟩
def D.tst (a : D) (h : Ph) : R Bool := match a with
  | .bl b => .ok b h
  | _ => .bad
def sTst (f : SE) : ST := fun e h => (f e h).bind fun a h1 => a.tst h1
def br {α : Type} (b : Bool) (x y : α) : α := match b with
  | true => x
  | false => y
def D.br {α : Type} (a : D) (x y : R α) : R α := match a with
  | .bl b => Pd.br b x y
  | _ => .bad
theorem sn_tst {K : PySem.W.Frag} {mg : Str → Option Value} {t : TE} {f : SE} (h : SnE K mg W t f) : SnT K mg W (tTest t) (sTst f) := fun σ e w hh H Q E L hp =>
  h σ e w hh H _ E L (Po.bind (Rp := Rep K mg) hp fun a h1 w1 H1 x _ st1 L1 r1 hp1 => by
    cases r1 with
    | bl b => exact ⟨b, rfl, hp1 w1 H1 b (Step.refl _ _) L1 rfl⟩
    | _ => exact hp1.elim)
theorem ti_cmp {a b : Expr} {op : CmpOp} {r : R2} {g : D → D → Ph → R D} {fa fb : SE} {pos : Pos} (o : OpF Z Y (compareOp op) r) (ho : OpI Z.K Z.mg r g) (hm : behindInMarks op b = false) (ha : EI Z Y W a fa) (hb : EI Z Y W b fb) : TI Z Y W (.Compare a [op] [b] pos) (sTst (sBin g fa fb)) := by
  obtain ⟨ta, pa, sa⟩ := ha
  obtain ⟨tb, pb, sb⟩ := hb
  exact ⟨_, fun i => pt_cmpR (o i) (pa i) (pb i) hm, sn_tst (sn_bin ho sa sb)⟩
theorem ti_val {e : Expr} {f : SE} (h : EI Z Y W e f) (he : ∀ i whole, isTrue e (Y i).env whole = (do let v ← whole; standAt e.pos; holding [v] (truthy v)) := by intro _ _; rfl) : TI Z Y W e (sTst f) := by
  obtain ⟨t, p, s⟩ := h
  exact ⟨_, fun i => pt_val (p i) (he i), sn_tst s⟩
end
end Pd

namespace Pd
open PySem L2 Evl
section
variable {K : PySem.W.Frag} {mg : Str → Option Value} {X : Cx} {W : WX}
theorem Po.here {α β : Type} {K : PySem.W.Frag} {mg : Str → Option Value} {Rp : Wd → α → β → Prop} {σ : St} {w : Wd} {H : Hp} {a : α} {h : Ph} {Q : β → Hp → Prop} {v : β} (L : Lk K mg w h H) (r : Rp w a v) (hp : Po K mg Rp W σ w H (.ok a h) Q) : Q v H := hp w H v (Step.refl w H) L r
theorem Reps.lay {K : PySem.W.Frag} {mg : Str → Option Value} {w : Wd} {H : Hp} {h : Ph} {p : Addr} (L : Lk K mg w h H) (hp : H p = none) {xs : List D} {vs : List V} (r : Reps K mg w xs vs) :
    Rep K mg ⟨w.ms, upd w.G p (.lst vs)⟩ (.lst xs) (.ref p) := .lst upd_same (r.mono (L.lay hp _).2.2)
theorem Po.lst {K : PySem.W.Frag} {mg : Str → Option Value} {σ : St} {w : Wd} {H : Hp} {h : Ph} {xs : List D} {vs : List V} {Q : VK} {p : Addr} (L : Lk K mg w h H) (r : Reps K mg w xs vs) (hp : PoE K mg W σ w H (.ok (.lst xs) h) Q) (np : H p = none) : Q (.ref p) (upd H p (.lst vs)) := by
  obtain ⟨l1, l2, l3⟩ := L.lay np (.lst vs)
  exact hp _ _ _ l2 l1 (.lst upd_same (r.mono l3))
theorem Po.tup {K : PySem.W.Frag} {mg : Str → Option Value} {σ : St} {w : Wd} {H : Hp} {h : Ph} {xs : List D} {vs : List V} {Q : VK} {p : Addr} (L : Lk K mg w h H) (r : Reps K mg w xs vs) (hp : PoE K mg W σ w H (.ok (.tup xs) h) Q) (np : H p = none) : Q (.ref p) (upd H p (.tup vs)) := by
  obtain ⟨l1, l2, l3⟩ := L.lay np (.tup vs)
  exact hp _ _ _ l2 l1 (.tup (.inl upd_same) (r.mono l3))
theorem SqT.ex {K : PySem.W.Frag} {mg : Str → Option Value} {w : Wd} {H : Hp} {h : Ph} (L : Lk K mg w h H) {a : Addr} {vs : List V} (q : SqT K w.G a vs) : SqT K H a vs := ex_t L.ex q
theorem SqL.ex {K : PySem.W.Frag} {mg : Str → Option Value} {w : Wd} {H : Hp} {h : Ph} (L : Lk K mg w h H) {a : Addr} {vs : List V} (q : SqL K w.G a vs) : SqL K H a vs := ex_l L.ex q

def lstOf (d : D) (h : Ph) : Option (List D) := match d with
  | .lst xs => some xs
  | .seq xs => some xs
  | .ref n => match h[n]? with
    | some (.lst xs) => some xs
    | _ => none
  | _ => none
theorem lstOf_ok {K : PySem.W.Frag} {mg : Str → Option Value} {w : Wd} {H : Hp} {h : Ph} (L : Lk K mg w h H) {d : D} {xs : List D} {v : V} (e : lstOf d h = some xs) (r : Rep K mg w d v) : ∃ a vs, v = .ref a ∧ SqL K H a vs ∧ Reps K mg w xs vs := by
  cases r with
  | lst q r => cases e; exact ⟨_, _, rfl, .inl (.inl (L.ex _ _ q)), r⟩
  | seq q r => cases e; exact ⟨_, _, rfl, ex_l L.ex q, r⟩
  | ref q =>
    obtain ⟨o, u, h1, h2, r'⟩ := L.there q
    unfold lstOf at e
    simp only [h1] at e
    cases r' with
    | lst r' => cases e; exact ⟨_, _, rfl, .inl (.inl h2), r'⟩
    | _ => cases e
  | _ => cases e
def lsOf (d : D) (h : Ph) : Option (List D) := match d with
  | .lst xs => some xs
  | .ref n => match h[n]? with
    | some (.lst xs) => some xs
    | _ => none
  | _ => none
theorem lsOf_ok {K : PySem.W.Frag} {mg : Str → Option Value} {w : Wd} {H : Hp} {h : Ph} (L : Lk K mg w h H) {d : D} {xs : List D} {v : V} (e : lsOf d h = some xs) (r : Rep K mg w d v) : ∃ a vs, v = .ref a ∧ H a = some (.lst vs) ∧ Reps K mg w xs vs := by
  cases r with
  | lst q r => cases e; exact ⟨_, _, rfl, L.ex _ _ q, r⟩
  | ref q =>
    obtain ⟨o, u, h1, h2, r'⟩ := L.there q
    unfold lsOf at e
    simp only [h1] at e
    cases r' with
    | lst r' => cases e; exact ⟨_, _, rfl, h2, r'⟩
    | _ => cases e
  | _ => cases e
def R.opt {α γ : Type} (o : Option γ) (f : γ → R α) : R α := match o with
  | some x => f x
  | none => .bad
theorem R.opt_some {α γ : Type} (x : γ) (f : γ → R α) : R.opt (some x) f = f x := rfl
theorem Po.some {α β γ : Type} {K : PySem.W.Frag} {mg : Str → Option Value} {Rp : Wd → α → β → Prop} {σ : St} {w : Wd} {H : Hp} {Q : β → Hp → Prop} {o : Option γ} {f : γ → R α} (hp : Po K mg Rp W σ w H (R.opt o f) Q) :
    ∃ x, o = some x ∧ Po K mg Rp W σ w H (f x) Q := by
  cases o with
  | none => exact hp.elim
  | some x => exact ⟨x, rfl, hp⟩
theorem Po.ite {α β : Type} {K : PySem.W.Frag} {mg : Str → Option Value} {Rp : Wd → α → β → Prop} {σ : St} {w : Wd} {H : Hp} {Q : β → Hp → Prop} {c : Prop} [Decidable c] {f : R α} (hp : Po K mg Rp W σ w H (if c then f else .bad) Q) :
    c ∧ Po K mg Rp W σ w H f Q := by
  by_cases hc : c
  · rw [if_pos hc] at hp; exact ⟨hc, hp⟩
  · rw [if_neg hc] at hp; exact hp.elim

def mostL : Nat := 16777216
theorem mostL_eq : mostL = sizeLine := by rw [sizeLine_eq]; rfl
theorem mostL_le {n : Nat} (h : n ≤ mostL) : n ≤ sizeLine := by rw [← mostL_eq]; exact h
def dCat (a b : D) (h : Ph) : R D := R.opt (lsOf a h) fun xs => R.opt (lsOf b h) fun ys => if xs.length + ys.length ≤ mostL then .ok (.lst (xs ++ ys)) h else .bad
def dAdd (a b : D) (h : Ph) : R D := match a, b with
  | .int i, .int j => .ok (.int (i + j)) h
  | .str x, .str y => if x.length + y.length ≤ mostL then .ok (.str (x ++ y)) h else .bad
  | .tup xs, .tup ys => if xs.length + ys.length ≤ mostL then .ok (.tup (xs ++ ys)) h else .bad
  | a, b => dCat a b h
def rAddAll (K : PySem.W.Frag) : R2 := fun x y H Q => (rI0 (fun i j => .int (i + j)) x y H Q) ∨ ((∃ i j, x = .str i ∧ y = .str j ∧ i.length + j.length ≤ sizeLine ∧ Q (.str (i ++ j)) H) ∨ (rCat x y H Q ∨ rCatA K x y H Q))
theorem oi_add : OpI K mg (rAddAll K) dAdd := by
  intro W σ w h H a b x y Q L ra rb hp
  have fall : PoE K mg W σ w H (dCat a b h) Q → rAddAll K x y H Q := fun hq => by
    obtain ⟨xs, e1, hq⟩ := Po.some hq
    obtain ⟨ys, e2, hq⟩ := Po.some hq
    obtain ⟨hl, hq⟩ := Po.ite hq
    obtain ⟨a1, vs, rfl, ha, r1⟩ := lsOf_ok L e1 ra
    obtain ⟨b1, us, rfl, hb, r2⟩ := lsOf_ok L e2 rb
    exact .inr (.inr (.inl ⟨a1, b1, vs, us, rfl, rfl, ha, hb, by rw [← r1.length, ← r2.length]; exact mostL_le hl, fun p np => Po.lst L (r1.append r2) hq np⟩))
  unfold dAdd at hp
  split at hp
  · cases ra; cases rb
    exact .inl ⟨_, _, rfl, rfl, Po.here L (.int _) hp⟩
  · cases ra; cases rb
    obtain ⟨hl, hp⟩ := Po.ite hp
    exact .inr (.inl ⟨_, _, rfl, rfl, mostL_le hl, Po.here L (.str _) hp⟩)
  · rename_i xs ys
    cases ra with
    | tup q1 r1 =>
      cases rb with
      | tup q2 r2 =>
        obtain ⟨hl, hp⟩ := Po.ite hp
        refine .inr (.inr (.inr ⟨_, _, _, _, rfl, rfl, SqT.ex L q1.sq, SqT.ex L q2.sq, by rw [← r1.length, ← r2.length]; exact mostL_le hl, fun z => ?_, fun _ z => ?_, fun _ _ p np => Po.tup L (r1.append r2) hp np⟩))
        · subst z
          cases r1
          exact Po.here L (.tup q2 r2) hp
        · subst z
          cases r2
          rw [List.append_nil] at hp
          exact Po.here L (.tup q1 r1) hp
  · exact fall hp
theorem op_addAll : OpR X (binaryOp .Add) (rAddAll X.K) := op_add.or (op_add_str.or (op_cat.or op_catA))
def dSub (a b : D) (h : Ph) : R D := match a, b with
  | .int i, .int j => .ok (.int (i - j)) h
  | _, _ => .bad
theorem oi_int {C : Int → Int → Prop} {g : Int → Int → Int} {d : D → D → Ph → R D} (hd : ∀ (K : PySem.W.Frag) (mg : Str → Option Value) (W : WX) (σ : St) (w : Wd) (h : Ph) (H : Hp) (a b : D) (Q : VK), PoE K mg W σ w H (d a b h) Q → ∃ i j, a = .int i ∧ b = .int j ∧ C i j ∧ PoE K mg W σ w H (.ok (.int (g i j)) h) Q) :
    OpI K mg (rI C fun i j => .int (g i j)) d := by
  intro W σ w h H a b x y Q L ra rb hp
  obtain ⟨i, j, rfl, rfl, hc, hq⟩ := hd _ _ _ _ _ _ _ _ _ _ hp
  cases ra; cases rb
  exact ⟨i, j, rfl, rfl, hc, Po.here L (.int _) hq⟩
theorem oi_sub : OpI K mg (rI0 fun i j => .int (i - j)) dSub := by
  intro W σ w h H a b x y Q L ra rb hp
  unfold dSub at hp
  split at hp
  · cases ra; cases rb
    exact ⟨_, _, rfl, rfl, Po.here L (.int _) hp⟩
  · exact hp.elim
def repL (k : Int) (xs : List D) : List D := (List.replicate k.toNat xs).flatten
theorem Reps.rep {K : PySem.W.Frag} {mg : Str → Option Value} {w : Wd} {xs : List D} {vs : List V} (r : Reps K mg w xs vs) : ∀ k : Nat, Reps K mg w (List.replicate k xs).flatten (List.replicate k vs).flatten
  | 0 => .nil
  | k + 1 => by
    rw [List.replicate_succ, List.replicate_succ, List.flatten_cons, List.flatten_cons]
    exact r.append (Reps.rep r k)
def dMul (a b : D) (h : Ph) : R D := match a, b with
  | .int i, .int j => if i.natAbs < 18446744073709551616 ∨ j.natAbs < 18446744073709551616 ∨ i.natAbs.log2 + j.natAbs.log2 < 1000000 then .ok (.int (i * j)) h else .bad
  | a, .int k => R.opt (lsOf a h) fun xs => if -(2 ^ 63) ≤ k ∧ k < 2 ^ 63 ∧ xs.length * k.toNat ≤ mostL then .ok (.lst (repL k xs)) h else .bad
  | _, _ => .bad
def rMulAll : R2 := fun x y H Q => (rI CMul (fun i j => .int (i * j)) x y H Q) ∨ ((rI CMulW (fun i j => .int (i * j)) x y H Q) ∨ rRep x y H Q)
theorem op_mulAll : OpR X (binaryOp .Mult) rMulAll := op_mul.or (op_mulW.or op_rep)
theorem oi_mul : OpI K mg rMulAll dMul := by
  intro W σ w h H a b x y Q L ra rb hp
  unfold dMul at hp
  split at hp
  · obtain ⟨hc, hp⟩ := Po.ite hp
    cases ra; cases rb
    rcases hc with hc | hc | hc
    · exact .inl ⟨_, _, rfl, rfl, .inl (by omega), Po.here L (.int _) hp⟩
    · exact .inl ⟨_, _, rfl, rfl, .inr (by omega), Po.here L (.int _) hp⟩
    · exact .inr (.inl ⟨_, _, rfl, rfl, hc, Po.here L (.int _) hp⟩)
  · obtain ⟨xs, e1, hp⟩ := Po.some hp
    obtain ⟨hc, hp⟩ := Po.ite hp
    obtain ⟨a1, vs, rfl, ha, r1⟩ := lsOf_ok L e1 ra
    cases rb
    exact .inr (.inr ⟨a1, _, vs, rfl, rfl, ha, hc.1, hc.2.1, by rw [← r1.length]; exact mostL_le hc.2.2, fun p np => Po.lst L (r1.rep _) hp np⟩)
  · exact hp.elim
def dDiv (a b : D) (h : Ph) : R D := match a, b with
  | .int i, .int j => if 0 < j then (if j.natAbs.log2 < 9000 then .ok (.int (i / j)) h else .bad) else (if j ≠ 0 ∧ j.natAbs < 1073741824 then .ok (.int (i.fdiv j)) h else .bad)
  | _, _ => .bad
def rDivAll : R2 := fun x y H Q => (rI CDivW (fun i j => .int (i / j)) x y H Q) ∨ (rI CDivN (fun i j => .int (i.fdiv j)) x y H Q)
theorem op_divAll : OpR X (binaryOp .FloorDiv) rDivAll := op_fdivW.or op_fdivN
theorem oi_div : OpI K mg rDivAll dDiv := by
  intro W σ w h H a b x y Q L ra rb hp
  unfold dDiv at hp
  split at hp
  · cases ra; cases rb
    rename_i i j
    by_cases hj : 0 < j
    · rw [if_pos hj] at hp
      obtain ⟨hc, hp⟩ := Po.ite hp
      exact .inl ⟨_, _, rfl, rfl, ⟨hj, hc⟩, Po.here L (.int _) hp⟩
    · rw [if_neg hj] at hp
      obtain ⟨hc, hp⟩ := Po.ite hp
      exact .inr ⟨_, _, rfl, rfl, hc, Po.here L (.int _) hp⟩
  · exact hp.elim
def dMod (a b : D) (h : Ph) : R D := match a, b with
  | .int i, .int j => if 0 < j then .ok (.int (i % j)) h else (if j ≠ 0 then .ok (.int (i.fmod j)) h else .bad)
  | _, _ => .bad
theorem oi_mod : OpI K mg (rI (fun _ j => j ≠ 0) fun i j => .int (i.fmod j)) dMod := by
  refine oi_int fun K mg W σ w h H a b Q hp => ?_
  unfold dMod at hp
  split at hp
  · rename_i i j
    by_cases hj : 0 < j
    · rw [if_pos hj] at hp
      exact ⟨i, j, rfl, rfl, by omega, by rw [Int.fmod_eq_emod_of_nonneg i (by omega)]; exact hp⟩
    · rw [if_neg hj] at hp
      obtain ⟨hc, hp⟩ := Po.ite hp
      exact ⟨i, j, rfl, rfl, hc, hp⟩
  · exact hp.elim
def dPow (a b : D) (h : Ph) : R D := match a, b with
  | .int i, .int j => if 0 ≤ j ∧ j ≤ 1000000 ∧ i.natAbs < 2 ^ 64 then .ok (.int (i ^ j.toNat)) h else .bad
  | _, _ => .bad
theorem oi_pow : OpI K mg (rI CPow fun i j => .int (i ^ j.toNat)) dPow := by
  refine oi_int fun K mg W σ w h H a b Q hp => ?_
  unfold dPow at hp
  split at hp
  · obtain ⟨hc, hp⟩ := Po.ite hp
    exact ⟨_, _, rfl, rfl, hc, hp⟩
  · exact hp.elim

def intsOf : List D → Option (List Int)
  | [] => some []
  | .int i :: r => (intsOf r).map (i :: ·)
  | _ => none
theorem intsOf_ok {K : PySem.W.Frag} {mg : Str → Option Value} {w : Wd} : ∀ {xs : List D} {ns : List Int} {vs : List V}, intsOf xs = some ns → Reps K mg w xs vs → vs = ns.map V.int
  | [], _, _, e, .nil => by cases e; rfl
  | .int i :: r, ns, _, e, .cons h t => by
    unfold intsOf at e
    cases q : intsOf r with
    | none => rw [q] at e; cases e
    | some ms =>
      rw [q] at e
      cases e
      cases h
      rw [intsOf_ok q t]
      rfl
  | .non :: _, _, _, e, _ => by cases e
  | .bl _ :: _, _, _, e, _ => by cases e
  | .str _ :: _, _, _, e, _ => by cases e
  | .tup _ :: _, _, _, e, _ => by cases e
  | .lst _ :: _, _, _, e, _ => by cases e
  | .seq _ :: _, _, _, e, _ => by cases e
  | .ref _ :: _, _, _, e, _ => by cases e
  | .glo _ :: _, _, _, e, _ => by cases e
  | .ty _ :: _, _, _, e, _ => by cases e
  | .dcK _ _ :: _, _, _, e, _ => by cases e
  | .dcT _ _ :: _, _, _, e, _ => by cases e
  | .obj _ _ :: _, _, _, e, _ => by cases e
def dLt (a b : D) (h : Ph) : R D := match a, b with
  | .int i, .int j => .ok (.bl (decide (i < j))) h
  | .tup xs, .tup ys => R.opt (intsOf xs) fun ns => R.opt (intsOf ys) fun ms => .ok (.bl (HT.lexLt ns ms)) h
  | _, _ => .bad
def rLtAll (K : PySem.W.Frag) : R2 := fun x y H Q => (rI0 (fun i j => .bl (decide (i < j))) x y H Q) ∨ rLtT K x y H Q
theorem op_ltAll (hu : X.A.units < cLine) : OpR X (compareOp .Lt) (rLtAll X.K) := op_lt.or (op_ltT hu)
theorem oi_lt : OpI K mg (rLtAll K) dLt := by
  intro W σ w h H a b x y Q L ra rb hp
  unfold dLt at hp
  split at hp
  · cases ra; cases rb
    exact .inl ⟨_, _, rfl, rfl, Po.here L (.bl _) hp⟩
  · obtain ⟨ns, e1, hp⟩ := Po.some hp
    obtain ⟨ms, e2, hp⟩ := Po.some hp
    cases ra with
    | tup q1 r1 =>
      cases rb with
      | tup q2 r2 =>
        have z1 := intsOf_ok e1 r1
        have z2 := intsOf_ok e2 r2
        subst z1 z2
        exact .inr ⟨_, _, ns, ms, rfl, rfl, SqT.ex L q1.sq, SqT.ex L q2.sq, Po.here L (.bl _) hp⟩
  · exact hp.elim
theorem oi_i2 {g : Int → Int → Bool} {d : D → D → Ph → R D} (hd : ∀ a b h, d a b h = match a, b with
    | .int i, .int j => .ok (.bl (g i j)) h
    | _, _ => .bad) : OpI K mg (rI0 fun i j => .bl (g i j)) d := by
  intro W σ w h H a b x y Q L ra rb hp
  rw [hd] at hp
  split at hp
  · cases ra; cases rb
    exact ⟨_, _, rfl, rfl, Po.here L (.bl _) hp⟩
  · exact hp.elim
def dLe (a b : D) (h : Ph) : R D := match a, b with
  | .int i, .int j => .ok (.bl (decide (i ≤ j))) h
  | _, _ => .bad
def dGt (a b : D) (h : Ph) : R D := match a, b with
  | .int i, .int j => .ok (.bl (decide (j < i))) h
  | _, _ => .bad
def dGe (a b : D) (h : Ph) : R D := match a, b with
  | .int i, .int j => .ok (.bl (decide (j ≤ i))) h
  | _, _ => .bad
theorem oi_le : OpI K mg (rI0 fun i j => .bl (decide (i ≤ j))) dLe := oi_i2 fun _ _ _ => rfl
theorem oi_gt : OpI K mg (rI0 fun i j => .bl (decide (j < i))) dGt := oi_i2 fun _ _ _ => rfl
def D.py : D → Option PyData
  | .non => some .none
  | .bl b => some (.bool b)
  | .int i => some (.int i)
  | .str x => some (.str x)
  | .tup xs => (pys xs).map .tuple
  | .lst xs => (pys xs).map .list
  | .seq xs => (pys xs).map .list
  | _ => none
where pys : List D → Option (List PyData)
  | [] => some []
  | x :: r => match x.py with
    | none => none
    | some d => (pys r).map (d :: ·)
def pyOf (d : D) (h : Ph) : Option PyData := match d with
  | .ref n => match h[n]? with
    | some (.lst xs) => (D.py.pys xs).map .list
    | _ => none
  | d => d.py
section
variable {K : PySem.W.Frag} {mg : Str → Option Value} {w : Wd} {H : Hp}
mutual
theorem py_ok (ex : Ex w.G H) : ∀ {d : D} {p : PyData} {v : V}, d.py = some p → Rep K mg w d v → Dp K H v p
  | .non, _, _, e, .non => by cases e; exact .non
  | .bl _, _, _, e, .bl _ => by cases e; exact .bl _
  | .int _, _, _, e, .int _ => by cases e; exact .int _
  | .str _, _, _, e, .str _ => by cases e; exact .str _
  | .tup xs, _, _, e, .tup q r => by
    simp only [D.py] at e
    cases z : D.py.pys xs with
    | none => rw [z] at e; cases e
    | some ps =>
      rw [z] at e
      cases e
      exact .tup (ex_t ex q.sq) (pys_ok ex z r)
  | .lst xs, _, _, e, .lst q r => by
    simp only [D.py] at e
    cases z : D.py.pys xs with
    | none => rw [z] at e; cases e
    | some ps =>
      rw [z] at e
      cases e
      exact .lst (.inl (.inl (ex _ _ q))) (pys_ok ex z r)
  | .seq xs, _, _, e, .seq q r => by
    simp only [D.py] at e
    cases z : D.py.pys xs with
    | none => rw [z] at e; cases e
    | some ps =>
      rw [z] at e
      cases e
      exact .lst (ex_l ex q) (pys_ok ex z r)
  | .ref _, _, _, e, _ => by simp only [D.py] at e; cases e
  | .glo _, _, _, e, _ => by simp only [D.py] at e; cases e
  | .ty _, _, _, e, _ => by simp only [D.py] at e; cases e
  | .dcK _ _, _, _, e, _ => by simp only [D.py] at e; cases e
  | .dcT _ _, _, _, e, _ => by simp only [D.py] at e; cases e
  | .obj _ _, _, _, e, _ => by simp only [D.py] at e; cases e
theorem pys_ok (ex : Ex w.G H) : ∀ {d : List D} {p : List PyData} {v : List V}, D.py.pys d = some p → Reps K mg w d v → DpAll K H v p
  | [], _, _, e, .nil => by cases e; exact .nil
  | x :: r, _, _, e, .cons h t => by
    simp only [D.py.pys] at e
    cases z : x.py with
    | none => rw [z] at e; cases e
    | some d =>
      rw [z] at e
      cases z2 : D.py.pys r with
      | none => rw [z2] at e; cases e
      | some ds =>
        rw [z2] at e
        cases e
        exact .cons (py_ok ex z h) (pys_ok ex z2 t)
end
theorem pyOf_ok {h : Ph} (L : Lk K mg w h H) {d : D} {p : PyData} {v : V} (e : pyOf d h = some p) (r : Rep K mg w d v) : Dp K H v p := by
  unfold pyOf at e
  split at e
  · cases r with
    | ref q =>
      obtain ⟨o, u, h1, h2, r'⟩ := L.there q
      simp only [h1] at e
      cases r' with
      | lst r' =>
        rename_i xs vs
        cases z : D.py.pys xs with
        | none => simp only [z] at e; cases e
        | some ps =>
          simp only [z] at e
          cases e
          exact .lst (.inl (.inl h2)) (pys_ok L.ex z r')
      | _ => cases e
  · exact py_ok L.ex e r
end
def dEq (a b : D) (h : Ph) : R D := R.opt (pyOf a h) fun p => R.opt (pyOf b h) fun q => if SeqAt.shaped p = true ∧ SeqAt.shaped q = true then .ok (.bl (PyData.eqv p q)) h else .bad
def dNe (a b : D) (h : Ph) : R D := R.opt (pyOf a h) fun p => R.opt (pyOf b h) fun q => if SeqAt.shaped p = true ∧ SeqAt.shaped q = true then .ok (.bl (!PyData.eqv p q)) h else .bad
theorem oi_eq : OpI K mg (rEqD K) dEq := by
  intro W σ w h H a b x y Q L ra rb hp
  obtain ⟨p, e1, hp⟩ := Po.some hp
  obtain ⟨q, e2, hp⟩ := Po.some hp
  obtain ⟨⟨s1, s2⟩, hp⟩ := Po.ite hp
  exact ⟨p, q, pyOf_ok L e1 ra, pyOf_ok L e2 rb, s1, s2, Po.here L (.bl _) hp⟩
theorem oi_ne : OpI K mg (rNeD K) dNe := by
  intro W σ w h H a b x y Q L ra rb hp
  obtain ⟨p, e1, hp⟩ := Po.some hp
  obtain ⟨q, e2, hp⟩ := Po.some hp
  obtain ⟨⟨s1, s2⟩, hp⟩ := Po.ite hp
  exact ⟨p, q, pyOf_ok L e1 ra, pyOf_ok L e2 rb, s1, s2, Po.here L (.bl _) hp⟩
def sNeg (f : SE) : SE := fun e h => (f e h).bind fun a h1 => match a with
  | .int i => .ok (.int (-i)) h1
  | _ => .bad
theorem ei_neg {ι : Type} {Z : Cz} {Y : ι → Cy} {a : Expr} {f : SE} {pos : Pos} (ha : EI Z Y W a f) : EI Z Y W (.UnaryOp .USub a pos) (sNeg f) := by
  obtain ⟨t, p, s⟩ := ha
  refine ⟨_, fun i => pe_un un_neg (p i), fun σ e w h H Q E L hp => s σ e w h H _ E L (Po.bind (Rp := Rep Z.K Z.mg) hp fun a h1 w1 H1 x _ st1 L1 r1 hp1 => ?_)⟩
  cases r1 with
  | int i => exact ⟨i, rfl, Po.here L1 (.int _) hp1⟩
  | _ => exact hp1.elim
end
end Pd

namespace Pd
open PySem L2 Evl
section
variable {ι : Type} {Z : Cz} {Y : ι → Cy} {W : WX}
def sAnd (fa fb : SE) : SE := fun e h => (fa e h).bind fun a h1 => a.br (fb e h1) (.ok (.bl false) h1)
def sOr (fa fb : SE) : SE := fun e h => (fa e h).bind fun a h1 => a.br (.ok (.bl true) h1) (fb e h1)
def D.neg (a : D) (h : Ph) : R D := match a with
  | .bl b => .ok (.bl (!b)) h
  | _ => .bad
def sNot (fa : SE) : SE := fun e h => (fa e h).bind fun a h1 => a.neg h1
theorem ei_one {a : Expr} {op : BoolOp} {f : SE} {pos : Pos} (h : EI Z Y W a f) : EI Z Y W (.BoolOp op [a] pos) f := by
  obtain ⟨t, p, s⟩ := h
  exact ⟨_, fun i => pe_one (p i), s⟩
theorem ei_and {a b : Expr} {rest : List Expr} {fa fb : SE} {pos : Pos} (ha : EI Z Y W a fa) (hb : EI Z Y W (.BoolOp .And (b :: rest) pos) fb) : EI Z Y W (.BoolOp .And (a :: b :: rest) pos) (sAnd fa fb) := by
  obtain ⟨ta, pa, sa⟩ := ha
  obtain ⟨tb, pb, sb⟩ := hb
  refine ⟨_, fun i => pe_and (pa i) (pb i), fun σ e w h H Q E L hp => sa σ e w h H _ E L (Po.bind (Rp := Rep Z.K Z.mg) hp fun a h1 w1 H1 x _ st1 L1 r1 hp1 => ?_)⟩
  cases r1 with
  | bl c =>
    refine ⟨c, rfl, ?_⟩
    cases c with
    | true => exact sb σ e w1 h1 H1 _ (E.mono st1.le) L1 hp1
    | false => exact Po.here L1 (.bl _) hp1
  | _ => exact hp1.elim
theorem ei_not {a : Expr} {fa : SE} {pos : Pos} (ha : EI Z Y W a fa) : EI Z Y W (.UnaryOp .Not a pos) (sNot fa) := by
  obtain ⟨ta, pa, sa⟩ := ha
  refine ⟨_, fun i => pe_not (pa i), fun σ e w h H Q E L hp => sa σ e w h H _ E L (Po.bind (Rp := Rep Z.K Z.mg) hp fun a h1 w1 H1 x _ st1 L1 r1 hp1 => ?_)⟩
  cases r1 with
  | bl c => exact ⟨c, rfl, Po.here L1 (.bl _) hp1⟩
  | _ => exact hp1.elim
def sIf (c : ST) (fa fb : SE) : SE := fun e h => (c e h).bind fun b h1 => br b (fa e h1) (fb e h1)
theorem ei_ifExp {c a b : Expr} {fc : ST} {fa fb : SE} {pos : Pos} (hc : TI Z Y W c fc) (ha : EI Z Y W a fa) (hb : EI Z Y W b fb) : EI Z Y W (.IfExp c a b pos) (sIf fc fa fb) := by
  obtain ⟨tc, pc, sc⟩ := hc
  obtain ⟨ta, pa, sa⟩ := ha
  obtain ⟨tb, pb, sb⟩ := hb
  refine ⟨_, fun i => pe_ifExp (pc i) (pa i) (pb i), fun σ e w h H Q E L hp => sc σ e w h H _ E L (Po.bind (Rp := RpB) hp fun a h1 w1 H1 x _ st1 L1 r1 hp1 => ?_)⟩
  cases r1
  cases a with
  | true => exact sa σ e w1 h1 H1 _ (E.mono st1.le) L1 hp1
  | false => exact sb σ e w1 h1 H1 _ (E.mono st1.le) L1 hp1
def qAnd (fa fb : ST) : ST := fun e h => (fa e h).bind fun a h1 => br a (fb e h1) (.ok false h1)
def qOr (fa fb : ST) : ST := fun e h => (fa e h).bind fun a h1 => br a (.ok true h1) (fb e h1)
def qNot (fa : ST) : ST := fun e h => (fa e h).bind fun a h1 => .ok (!a) h1
def WI (Z : Cz) (Y : ι → Cy) (W : WX) (e : Expr) (f : ST) : Prop := ∃ t, (∀ i, PW (cx Z (Y i)) e t) ∧ SnT Z.K Z.mg W t f
theorem WI.ti {e : Expr} {f : ST} (h : WI Z Y W e f) : TI Z Y W e f := by
  obtain ⟨t, p, s⟩ := h
  exact ⟨t, fun i => (p i).pt, s⟩
theorem wi_and1 {a : Expr} {f : ST} {pos : Pos} (h : TI Z Y W a f) : WI Z Y W (.BoolOp .And [a] pos) f := by
  obtain ⟨t, p, s⟩ := h
  exact ⟨t, fun i => pw_and1 (p i), s⟩
theorem wi_or1 {a : Expr} {f : ST} {pos : Pos} (h : TI Z Y W a f) : WI Z Y W (.BoolOp .Or [a] pos) f := by
  obtain ⟨t, p, s⟩ := h
  exact ⟨t, fun i => pw_or1 (p i), s⟩
theorem wi_and {a b : Expr} {rest : List Expr} {fa fb : ST} {pos : Pos} (ha : TI Z Y W a fa) (hb : WI Z Y W (.BoolOp .And (b :: rest) pos) fb) : WI Z Y W (.BoolOp .And (a :: b :: rest) pos) (qAnd fa fb) := by
  obtain ⟨ta, pa, sa⟩ := ha
  obtain ⟨tb, pb, sb⟩ := hb
  refine ⟨_, fun i => pw_and (pa i) (pb i), fun σ e w h H Q E L hp => sa σ e w h H _ E L (Po.bind (Rp := RpB) hp fun a h1 w1 H1 x _ st1 L1 r1 hp1 => ?_)⟩
  cases r1
  cases a with
  | true => exact sb σ e w1 h1 H1 _ (E.mono st1.le) L1 hp1
  | false => exact Po.here L1 rfl hp1
theorem wi_or {a b : Expr} {rest : List Expr} {fa fb : ST} {pos : Pos} (ha : TI Z Y W a fa) (hb : WI Z Y W (.BoolOp .Or (b :: rest) pos) fb) : WI Z Y W (.BoolOp .Or (a :: b :: rest) pos) (qOr fa fb) := by
  obtain ⟨ta, pa, sa⟩ := ha
  obtain ⟨tb, pb, sb⟩ := hb
  refine ⟨_, fun i => pw_or (pa i) (pb i), fun σ e w h H Q E L hp => sa σ e w h H _ E L (Po.bind (Rp := RpB) hp fun a h1 w1 H1 x _ st1 L1 r1 hp1 => ?_)⟩
  cases r1
  cases a with
  | false => exact sb σ e w1 h1 H1 _ (E.mono st1.le) L1 hp1
  | true => exact Po.here L1 rfl hp1
theorem ti_not {a : Expr} {fa : ST} {pos : Pos} (ha : TI Z Y W a fa) : TI Z Y W (.UnaryOp .Not a pos) (qNot fa) := by
  obtain ⟨ta, pa, sa⟩ := ha
  refine ⟨_, fun i => pt_not (pa i), fun σ e w h H Q E L hp => sa σ e w h H _ E L (Po.bind (Rp := RpB) hp fun a h1 w1 H1 x _ st1 L1 r1 hp1 => ?_)⟩
  cases r1
  exact Po.here L1 rfl hp1
def sChain (g g' : D → D → Ph → R D) (fa fb fc : SE) : SE := fun e h => (fa e h).bind fun a h1 => (fb e h1).bind fun b h2 => (g a b h2).bind fun z h3 => z.br ((fc e h3).bind fun c h4 => g' b c h4) (.ok (.bl false) h3)
theorem sn_chain {K : PySem.W.Frag} {mg : Str → Option Value} {ta tb tc : TE} {r r' : R2} {g g' : D → D → Ph → R D} {fa fb fc : SE} (ho : OpI K mg r g) (ho' : OpI K mg r' g') (ha : SnE K mg W ta fa) (hb : SnE K mg W tb fb) (hc : SnE K mg W tc fc) :
    SnE K mg W (tChain r r' ta tb tc) (sChain g g' fa fb fc) := fun σ e w h H Q E L hp =>
  ha σ e w h H _ E L (Po.bind (Rp := Rep K mg) hp fun a h1 w1 H1 x _ st1 L1 r1 hp1 => hb σ e w1 h1 H1 _ (E.mono st1.le) L1 (Po.bind (Rp := Rep K mg) hp1 fun b h2 w2 H2 y _ st2 L2 r2 hp2 =>
    ho W σ w2 h2 H2 a b x y _ L2 (r1.mono st2.le) r2 (Po.bind (Rp := Rep K mg) hp2 fun z h3 w3 H3 z' _ st3 L3 r3 hp3 => by
      cases r3 with
      | bl k =>
        refine ⟨k, rfl, ?_⟩
        cases k with
        | true => exact hc σ e w3 h3 H3 _ (E.mono ((st1.le.trans st2.le).trans st3.le)) L3 (Po.bind (Rp := Rep K mg) hp3 fun c h4 w4 H4 u _ st4 L4 r4 hp4 => ho' W σ w4 h4 H4 b c y u _ L4 (r2.mono (st3.le.trans st4.le)) r4 hp4)
        | false => exact Po.here L3 (.bl _) hp3
      | _ => exact hp3.elim)))
theorem ei_chain {a b c : Expr} {op op' : CmpOp} {r r' : R2} {g g' : D → D → Ph → R D} {fa fb fc : SE} {pos : Pos} (o : OpF Z Y (compareOp op) r) (ho : OpI Z.K Z.mg r g) (o' : OpF Z Y (compareOp op') r') (ho' : OpI Z.K Z.mg r' g')
    (ha : EI Z Y W a fa) (hb : EI Z Y W b fb) (hc : EI Z Y W c fc) (hm : lastMarks [op, op'] [b, c] = false := by with_unfolding_all rfl) : EI Z Y W (.Compare a [op, op'] [b, c] pos) (sChain g g' fa fb fc) := by
  obtain ⟨ta, pa, sa⟩ := ha
  obtain ⟨tb, pb, sb⟩ := hb
  obtain ⟨tc, pc, sc⟩ := hc
  exact ⟨_, fun i => pe_chain (o i) (o' i) (pa i) (pb i) (pc i) hm, sn_chain ho ho' sa sb sc⟩
theorem ti_chain {a b c : Expr} {op op' : CmpOp} {r r' : R2} {g g' : D → D → Ph → R D} {fa fb fc : SE} {pos : Pos} (o : OpF Z Y (compareOp op) r) (ho : OpI Z.K Z.mg r g) (o' : OpF Z Y (compareOp op') r') (ho' : OpI Z.K Z.mg r' g')
    (ha : EI Z Y W a fa) (hb : EI Z Y W b fb) (hc : EI Z Y W c fc) (hm : lastMarks [op, op'] [b, c] = false := by with_unfolding_all rfl) : TI Z Y W (.Compare a [op, op'] [b, c] pos) (sTst (sChain g g' fa fb fc)) := by
  obtain ⟨ta, pa, sa⟩ := ha
  obtain ⟨tb, pb, sb⟩ := hb
  obtain ⟨tc, pc, sc⟩ := hc
  exact ⟨_, fun i => pt_chain (o i) (o' i) (pa i) (pb i) (pc i) hm, sn_tst (sn_chain ho ho' sa sb sc)⟩
def sNil : SA := fun _ h => .ok [] h
def sCons (f : SE) (g : SA) : SA := fun e h => (f e h).bind fun a h1 => (g e h1).bind fun r h2 => .ok (a :: r) h2
theorem ai_nil : AI Z Y W [] sNil := ⟨_, fun _ => pa_nil, fun σ e w h H Q E L hp => hp w H _ (Step.refl w H) L .nil⟩
theorem ai_cons {a : Expr} {es : List Expr} {f : SE} {g : SA} (ha : EI Z Y W a f) (hr : AI Z Y W es g) (hs : ∀ i, starEach (a :: es) (Y i).env = (false, eval a (Y i).env) :: starEach es (Y i).env := by intro _; rfl) : AI Z Y W (a :: es) (sCons f g) := by
  obtain ⟨ta, pa, sa⟩ := ha
  obtain ⟨tr, pr, sr⟩ := hr
  exact ⟨_, fun i => pa_cons (pa i) (pr i) (hs i), fun σ e w h H Q E L hp => sa σ e w h H _ E L (Po.bind (Rp := Rep Z.K Z.mg) hp fun a h1 w1 H1 x _ st1 L1 r1 hp1 => sr σ e w1 h1 H1 _ (E.mono st1.le) L1 (Po.bind (Rp := Reps Z.K Z.mg) hp1 fun b h2 w2 H2 y _ st2 L2 r2 hp2 =>
    Po.here L2 (.cons (r1.mono st2.le) r2) hp2))⟩
def sTup (f : SA) : SE := fun e h => (f e h).bind fun xs h1 => if xs.length ≤ mostL then .ok (.tup xs) h1 else .bad
def sLst (f : SA) : SE := fun e h => (f e h).bind fun xs h1 => if xs.length ≤ mostL then .ok (.lst xs) h1 else .bad
def sLstM (f : SA) : SE := fun e h => (f e h).bind fun xs h1 => if xs.length ≤ mostL then .ok (.ref h1.length) (h1 ++ [.lst xs]) else .bad
theorem ei_tup {es : List Expr} {f : SA} {x1} {pos : Pos} (ha : AI Z Y W es f) : EI Z Y W (.Tuple es x1 pos) (sTup f) := by
  obtain ⟨t, p, s⟩ := ha
  refine ⟨_, fun i => pe_tup (p i), fun σ e w h H Q E L hp => s σ e w h H _ E L (Po.bind (Rp := Reps Z.K Z.mg) hp fun xs h1 w1 H1 vs _ st1 L1 r1 hp1 => ?_)⟩
  obtain ⟨hl, hp1⟩ := Po.ite hp1
  exact ⟨by rw [← r1.length]; exact mostL_le hl, fun q nq => Po.tup L1 r1 hp1 nq⟩
theorem ei_lst {es : List Expr} {f : SA} {pos : Pos} (ha : AI Z Y W es f) : EI Z Y W (.List es pos) (sLst f) := by
  obtain ⟨t, p, s⟩ := ha
  refine ⟨_, fun i => pe_lst (p i), fun σ e w h H Q E L hp => s σ e w h H _ E L (Po.bind (Rp := Reps Z.K Z.mg) hp fun xs h1 w1 H1 vs _ st1 L1 r1 hp1 => ?_)⟩
  obtain ⟨hl, hp1⟩ := Po.ite hp1
  exact ⟨by rw [← r1.length]; exact mostL_le hl, fun q nq => Po.lst L1 r1 hp1 nq⟩
theorem po_newO {K : PySem.W.Frag} {mg : Str → Option Value} {σ : St} {w : Wd} {H : Hp} {h : Ph} {o : PO} {u : HO} {Q : VK} {p : Addr} (L : Lk K mg w h H) (np : H p = none) (r : RepO K mg w p o u) (hp : PoE K mg W σ w H (.ok (.ref h.length) (h ++ [o])) Q) : Q (.ref p) (upd H p u) := by
  obtain ⟨l1, l2, l3⟩ := L.new np o u (r.mono (w' := ⟨w.ms ++ [p], w.G⟩) ⟨⟨[p], rfl⟩, Ex.refl _⟩)
  refine hp _ _ _ l2 l1 (.ref ?_)
  show (w.ms ++ [p])[h.length]? = some p
  rw [← L.len, List.getElem?_append_right (Nat.le_refl _), Nat.sub_self]
  rfl
theorem ei_lstM {es : List Expr} {f : SA} {pos : Pos} (ha : AI Z Y W es f) : EI Z Y W (.List es pos) (sLstM f) := by
  obtain ⟨t, p, s⟩ := ha
  refine ⟨_, fun i => pe_lst (p i), fun σ e w h H Q E L hp => s σ e w h H _ E L (Po.bind (Rp := Reps Z.K Z.mg) hp fun xs h1 w1 H1 vs _ st1 L1 r1 hp1 => ?_)⟩
  obtain ⟨hl, hp1⟩ := Po.ite hp1
  exact ⟨by rw [← r1.length]; exact mostL_le hl, fun q nq => po_newO L1 nq (.lst r1) hp1⟩
def dIx (a b : D) (h : Ph) : R D := match a, b with
  | .tup xs, .int i => R.opt (atI xs i) fun v => .ok v h
  | .str x, .int i => if x.length ≤ mostL then R.opt (atI x.cps.toList i) fun c => .ok (.str ⟨#[c]⟩) h else .bad
  | a, .int i => R.opt (lstOf a h) fun xs => R.opt (atI xs i) fun v => .ok v h
  | _, _ => .bad
theorem Reps.atI {K : PySem.W.Frag} {mg : Str → Option Value} {w : Wd} {xs : List D} {vs : List V} (r : Reps K mg w xs vs) {i : Int} {d : D} (e : L2.atI xs i = some d) : ∃ v, L2.atI vs i = some v ∧ Rep K mg w d v := by
  unfold L2.atI at e ⊢
  rw [← r.length]
  cases q : ixN xs.length i with
  | none => rw [q] at e; cases e
  | some j =>
    rw [q] at e
    exact r.get e
theorem oi_ix {K : PySem.W.Frag} {mg : Str → Option Value} : OpI K mg (rIx K) dIx := by
  intro W σ w h H a b x y Q L ra rb hp
  unfold dIx at hp
  split at hp
  · obtain ⟨v, e, hp⟩ := Po.some hp
    cases rb
    cases ra with
    | tup q r =>
      obtain ⟨u, e1, r1⟩ := r.atI e
      exact .inr (.inl ⟨_, _, _, u, rfl, rfl, SqT.ex L q.sq, e1, Po.here L r1 hp⟩)
  · obtain ⟨hl, hp⟩ := Po.ite hp
    obtain ⟨c, e, hp⟩ := Po.some hp
    cases rb
    cases ra
    exact .inr (.inr ⟨_, _, c, rfl, rfl, mostL_le hl, e, Po.here L (.str _) hp⟩)
  · obtain ⟨xs, e1, hp⟩ := Po.some hp
    obtain ⟨v, e, hp⟩ := Po.some hp
    cases rb
    obtain ⟨a1, vs, rfl, hs, r⟩ := lstOf_ok L e1 ra
    obtain ⟨u, e2, r1⟩ := r.atI e
    exact .inl ⟨_, _, _, u, rfl, rfl, hs, e2, Po.here L r1 hp⟩
  · exact hp.elim
theorem ei_ix {a b : Expr} {fa fb : SE} {pos : Pos} (ha : EI Z Y W a fa) (hb : EI Z Y W b fb) (hs : PlainIx b) : EI Z Y W (.Subscript a b pos) (sBin dIx fa fb) := by
  obtain ⟨ta, pa, sa⟩ := ha
  obtain ⟨tb, pb, sb⟩ := hb
  exact ⟨_, fun i => pe_ix (X := cx Z (Y i)) (r := rIx Z.K) ix_seq (pa i) (pb i) hs, sn_bin oi_ix sa sb⟩
def CallI (K : PySem.W.Frag) (mg : Str → Option Value) (r : List V → Hp → VK → Prop) (g : List D → Ph → R D) : Prop := ∀ (W : WX) (σ : St) (w : Wd) (h : Ph) (H : Hp) (as : List D) (vs : List V) (Q : VK), Lk K mg w h H → Reps K mg w as vs → PoE K mg W σ w H (g as h) Q → r vs H Q
def sCall (g : List D → Ph → R D) (f : SA) : SE := fun e h => (f e h).bind fun as h1 => g as h1
abbrev CallF (Z : Cz) (Y : ι → Cy) (f : Value) (r : List V → Hp → VK → Prop) : Prop := ∀ i, CallR (cx Z (Y i)) f r
theorem sn_call {K : PySem.W.Frag} {mg : Str → Option Value} {r : List V → Hp → VK → Prop} {g : List D → Ph → R D} {t : TA} {f : SA} (hc : CallI K mg r g) (s : SnA K mg W t f) : SnE K mg W (tCB r t) (sCall g f) := fun σ e w h H Q E L hp =>
  s σ e w h H _ E L (Po.bind (Rp := Reps K mg) hp fun as h1 w1 H1 vs _ st1 L1 r1 hp1 => hc W σ w1 h1 H1 as vs Q L1 r1 hp1)
theorem ei_callB {id : String} {x : Str} {r : List V → Hp → VK → Prop} {g : List D → Ph → R D} {a : Expr} {es : List Expr} {f : SA} {p pos : Pos} (hr : CallF Z Y (.builtin id) r) (hc : CallI Z.K Z.mg r g) (hg : GlF Y x) (hm : Z.mg x = none) (hv : bootBuiltins x = some (.builtin id)) (ha : AI Z Y W (a :: es) f)
    (hn : x ≠ "__name__" := by decide) (hdb : (x == ("__debug__" : Str)) = false := by decide) (he : ∀ i, starEach (a :: es) (Y i).env = (false, eval a (Y i).env) :: starEach es (Y i).env := by intro _; rfl) (hpl : ∀ i, (backTo pos (starEach es (Y i).env)).any (·.1) = false := by intro _; rfl) :
    EI Z Y W (.Call (.Name x p) (a :: es) [] pos) (sCall g f) := by
  obtain ⟨t, pa, s⟩ := ha
  exact ⟨_, fun i => pe_callB (hr i) (hg i) hm hv (pa i) hn hdb (he i) (hpl i), sn_call hc s⟩
theorem ei_callTy {T : String} {x : Str} {r : List V → Hp → VK → Prop} {g : List D → Ph → R D} {a : Expr} {es : List Expr} {f : SA} {p pos : Pos} (hr : CallF Z Y (.type T) r) (hc : CallI Z.K Z.mg r g) (hg : GlF Y x) (hm : Z.mg x = none) (hv : bootBuiltins x = some (.type T)) (ha : AI Z Y W (a :: es) f)
    (hn : x ≠ "__name__" := by decide) (hdb : (x == ("__debug__" : Str)) = false := by decide) (he : ∀ i, starEach (a :: es) (Y i).env = (false, eval a (Y i).env) :: starEach es (Y i).env := by intro _; rfl) (hpl : ∀ i, (backTo pos (starEach es (Y i).env)).any (·.1) = false := by intro _; rfl) :
    EI Z Y W (.Call (.Name x p) (a :: es) [] pos) (sCall g f) := by
  obtain ⟨t, pa, s⟩ := ha
  exact ⟨_, fun i => pe_callTy (hr i) (hg i) hm hv (pa i) hn hdb (he i) (hpl i), sn_call hc s⟩
end
section
variable {K : PySem.W.Frag} {mg : Str → Option Value}
theorem Reps.one {w : Wd} {a : D} {vs : List V} (r : Reps K mg w [a] vs) : ∃ x, vs = [x] ∧ Rep K mg w a x := by
  cases r with
  | cons h t => cases t; exact ⟨_, rfl, h⟩
theorem Reps.two {w : Wd} {a b : D} {vs : List V} (r : Reps K mg w [a, b] vs) : ∃ x y, vs = [x, y] ∧ Rep K mg w a x ∧ Rep K mg w b y := by
  cases r with
  | cons h t =>
    obtain ⟨y, rfl, h2⟩ := t.one
    exact ⟨_, y, rfl, h, h2⟩
def g1 (g : D → Ph → R D) : List D → Ph → R D := fun as h => match as with
  | [a] => g a h
  | _ => .bad
def g2 (g : D → D → Ph → R D) : List D → Ph → R D := fun as h => match as with
  | [a, b] => g a b h
  | _ => .bad
theorem ci_1 {r : List V → Hp → VK → Prop} {g : D → Ph → R D} (hg : ∀ (W : WX) (σ : St) (w : Wd) (h : Ph) (H : Hp) (a : D) (x : V) (Q : VK), Lk K mg w h H → Rep K mg w a x → PoE K mg W σ w H (g a h) Q → r [x] H Q) : CallI K mg r (g1 g) := by
  intro W σ w h H as vs Q L ra hp
  unfold g1 at hp
  split at hp
  · obtain ⟨x, rfl, r1⟩ := ra.one
    exact hg W σ w h H _ x Q L r1 hp
  · exact hp.elim
theorem ci_2 {r : List V → Hp → VK → Prop} {g : D → D → Ph → R D} (hg : ∀ (W : WX) (σ : St) (w : Wd) (h : Ph) (H : Hp) (a b : D) (x y : V) (Q : VK), Lk K mg w h H → Rep K mg w a x → Rep K mg w b y → PoE K mg W σ w H (g a b h) Q → r [x, y] H Q) : CallI K mg r (g2 g) := by
  intro W σ w h H as vs Q L ra hp
  unfold g2 at hp
  split at hp
  · obtain ⟨x, y, rfl, r1, r2⟩ := ra.two
    exact hg W σ w h H _ _ x y Q L r1 r2 hp
  · exact hp.elim
def dAbs (a : D) (h : Ph) : R D := match a with
  | .int i => .ok (.int (if i < 0 then -i else i)) h
  | _ => .bad
theorem ci_abs : CallI K mg (fun xs H Q => ∃ i, xs = [.int i] ∧ Q (.int (if i < 0 then -i else i)) H) (g1 dAbs) := ci_1 fun W σ w h H a x Q L ra hp => by
  unfold dAbs at hp
  split at hp
  · cases ra; exact ⟨_, rfl, Po.here L (.int _) hp⟩
  · exact hp.elim
def dMax2 (a b : D) (h : Ph) : R D := match a, b with
  | .int i, .int j => .ok (.int (if j > i then j else i)) h
  | _, _ => .bad
def dMin2 (a b : D) (h : Ph) : R D := match a, b with
  | .int i, .int j => .ok (.int (if j < i then j else i)) h
  | _, _ => .bad
theorem ci_max2 : CallI K mg (fun xs H Q => ∃ i j, xs = [.int i, .int j] ∧ Q (.int (if j > i then j else i)) H) (g2 dMax2) := ci_2 fun W σ w h H a b x y Q L ra rb hp => by
  unfold dMax2 at hp
  split at hp
  · cases ra; cases rb; exact ⟨_, _, rfl, Po.here L (.int _) hp⟩
  · exact hp.elim
theorem ci_min2 : CallI K mg (fun xs H Q => ∃ i j, xs = [.int i, .int j] ∧ Q (.int (if j < i then j else i)) H) (g2 dMin2) := ci_2 fun W σ w h H a b x y Q L ra rb hp => by
  unfold dMin2 at hp
  split at hp
  · cases ra; cases rb; exact ⟨_, _, rfl, Po.here L (.int _) hp⟩
  · exact hp.elim
def dInt (a : D) (h : Ph) : R D := match a with
  | .int i => .ok (.int i) h
  | .bl k => .ok (.int (if k then 1 else 0)) h
  | _ => .bad
theorem ci_int : CallI K mg (fun xs H Q => (∃ i, xs = [.int i] ∧ Q (.int i) H) ∨ ∃ k, xs = [.bl k] ∧ Q (.int (if k then 1 else 0)) H) (g1 dInt) := ci_1 fun W σ w h H a x Q L ra hp => by
  unfold dInt at hp
  split at hp
  · cases ra; exact .inl ⟨_, rfl, Po.here L (.int _) hp⟩
  · cases ra; exact .inr ⟨_, rfl, Po.here L (.int _) hp⟩
  · exact hp.elim
def dLen (a : D) (h : Ph) : R D := match a with
  | .tup xs => .ok (.int xs.length) h
  | .str x => if x.length ≤ mostL then .ok (.int x.length) h else .bad
  | a => R.opt (lstOf a h) fun xs => .ok (.int xs.length) h
def rLenA (K : PySem.W.Frag) : List V → Hp → VK → Prop := fun xs H Q => (∃ p ys, xs = [.ref p] ∧ (SqL K H p ys ∨ SqT K H p ys) ∧ Q (.int ys.length) H) ∨ ∃ z, xs = [.str z] ∧ z.length ≤ sizeLine ∧ Q (.int z.length) H
theorem call_lenA {X : Cx} : CallR X (.builtin "len") (rLenA X.K) := call_len_seq.or call_len_str
theorem ci_len : CallI K mg (rLenA K) (g1 dLen) := ci_1 fun W σ w h H a x Q L ra hp => by
  unfold dLen at hp
  split at hp
  · cases ra with
    | tup q r =>
      refine .inl ⟨_, _, rfl, .inr (SqT.ex L q.sq), ?_⟩
      rw [← r.length]
      exact Po.here L (.int _) hp
  · obtain ⟨hl, hp⟩ := Po.ite hp
    cases ra
    exact .inr ⟨_, rfl, mostL_le hl, Po.here L (.int _) hp⟩
  · obtain ⟨xs, e, hp⟩ := Po.some hp
    obtain ⟨a1, vs, rfl, hs, r⟩ := lstOf_ok L e ra
    refine .inl ⟨_, _, rfl, .inl hs, ?_⟩
    rw [← r.length]
    exact Po.here L (.int _) hp
def seqOf (d : D) (h : Ph) : Option (List D) := match d with
  | .tup xs => some xs
  | d => lstOf d h
theorem seqOf_ok {w : Wd} {H : Hp} {h : Ph} (L : Lk K mg w h H) {d : D} {xs : List D} {v : V} (e : seqOf d h = some xs) (r : Rep K mg w d v) : ∃ a vs, v = .ref a ∧ (SqL K H a vs ∨ SqT K H a vs) ∧ Reps K mg w xs vs := by
  unfold seqOf at e
  split at e
  · cases e
    cases r with
    | tup q r => exact ⟨_, _, rfl, .inr (SqT.ex L q.sq), r⟩
  · obtain ⟨a, vs, e1, h1, h2⟩ := lstOf_ok L e r
    exact ⟨a, vs, e1, .inl h1, h2⟩
def dTuple (a : D) (h : Ph) : R D := R.opt (seqOf a h) fun xs => .ok (.tup xs) h
theorem ci_tuple : CallI K mg (fun xs H Q => ∃ p ys, xs = [.ref p] ∧ ((SqL K H p ys ∧ ∀ l, H l = none → Q (.ref l) (upd H l (.tup ys))) ∨ (SqT K H p ys ∧ Q (.ref p) H))) (g1 dTuple) := ci_1 fun W σ w h H a x Q L ra hp => by
  obtain ⟨xs, e, hp⟩ := Po.some hp
  unfold seqOf at e
  split at e
  · cases e
    cases ra with
    | tup q r => exact ⟨_, _, rfl, .inr ⟨SqT.ex L q.sq, Po.here L (.tup q r) hp⟩⟩
  · obtain ⟨a, vs, e1, h1, h2⟩ := lstOf_ok L e ra
    exact ⟨a, vs, by rw [e1], .inl ⟨h1, fun l hl => Po.tup L h2 hp hl⟩⟩
def dListM (a : D) (h : Ph) : R D := R.opt (seqOf a h) fun xs => .ok (.ref h.length) (h ++ [.lst xs])
def rList (K : PySem.W.Frag) : List V → Hp → VK → Prop := fun xs H Q => ∃ p ys, xs = [.ref p] ∧ (SqL K H p ys ∨ SqT K H p ys) ∧ ∀ l, H l = none → Q (.ref l) (upd H l (.lst ys))
theorem ci_listM : CallI K mg (rList K) (g1 dListM) := ci_1 fun W σ w h H a x Q L ra hp => by
  obtain ⟨xs, e, hp⟩ := Po.some hp
  obtain ⟨a, vs, e1, h1, h2⟩ := seqOf_ok L e ra
  exact ⟨a, vs, by rw [e1], h1, fun l hl => po_newO L hl (.lst h2) hp⟩
def blsOf : List D → Option (List Bool)
  | [] => some []
  | .bl i :: r => (blsOf r).map (i :: ·)
  | _ => none
theorem blsOf_ok {w : Wd} : ∀ {xs : List D} {ns : List Bool} {vs : List V}, blsOf xs = some ns → Reps K mg w xs vs → vs = ns.map V.bl
  | [], _, _, e, .nil => by cases e; rfl
  | .bl i :: r, ns, _, e, .cons h t => by
    unfold blsOf at e
    cases q : blsOf r with
    | none => rw [q] at e; cases e
    | some ms =>
      rw [q] at e
      cases e
      cases h
      rw [blsOf_ok q t]
      rfl
  | .non :: _, _, _, e, _ => by cases e
  | .int _ :: _, _, _, e, _ => by cases e
  | .str _ :: _, _, _, e, _ => by cases e
  | .tup _ :: _, _, _, e, _ => by cases e
  | .lst _ :: _, _, _, e, _ => by cases e
  | .seq _ :: _, _, _, e, _ => by cases e
  | .ref _ :: _, _, _, e, _ => by cases e
  | .glo _ :: _, _, _, e, _ => by cases e
  | .ty _ :: _, _, _, e, _ => by cases e
  | .dcK _ _ :: _, _, _, e, _ => by cases e
  | .dcT _ _ :: _, _, _, e, _ => by cases e
  | .obj _ _ :: _, _, _, e, _ => by cases e
def dAll (a : D) (h : Ph) : R D := R.opt (lstOf a h) fun xs => R.opt (blsOf xs) fun bs => .ok (.bl (bs.all id)) h
theorem ci_all : CallI K mg (rAll K) (g1 dAll) := ci_1 fun W σ w h H a x Q L ra hp => by
  obtain ⟨xs, e, hp⟩ := Po.some hp
  obtain ⟨bs, e2, hp⟩ := Po.some hp
  obtain ⟨a, vs, e1, h1, h2⟩ := lstOf_ok L e ra
  have z := blsOf_ok e2 h2
  subst z
  exact ⟨a, bs, by rw [e1], h1, Po.here L (.bl _) hp⟩
def dSum (a : D) (h : Ph) : R D := R.opt (lstOf a h) fun xs => R.opt (intsOf xs) fun bs => .ok (.int bs.sum) h
theorem ci_sum : CallI K mg (rSum K) (g1 dSum) := ci_1 fun W σ w h H a x Q L ra hp => by
  obtain ⟨xs, e, hp⟩ := Po.some hp
  obtain ⟨bs, e2, hp⟩ := Po.some hp
  obtain ⟨a, vs, e1, h1, h2⟩ := lstOf_ok L e ra
  have z := intsOf_ok e2 h2
  subst z
  exact ⟨a, bs, by rw [e1], h1, Po.here L (.int _) hp⟩
def minZ : Int → List Int → Int
  | m, [] => m
  | m, x :: r => minZ (if x < m then x else m) r
theorem minZ_le : ∀ (r : List Int) (m : Int), minZ m r ≤ m ∧ ∀ y ∈ r, minZ m r ≤ y
  | [], m => ⟨Int.le_refl m, fun _ h => nomatch h⟩
  | x :: r, m => by
    obtain ⟨h1, h2⟩ := minZ_le r (if x < m then x else m)
    unfold minZ
    have h3 : (if x < m then x else m) ≤ m ∧ (if x < m then x else m) ≤ x := by split <;> omega
    refine ⟨Int.le_trans h1 h3.1, fun y hy => ?_⟩
    rcases List.mem_cons.mp hy with q | hy
    · rw [q]; exact Int.le_trans h1 h3.2
    · exact h2 y hy
theorem minZ_mem : ∀ (r : List Int) (m : Int), minZ m r = m ∨ minZ m r ∈ r
  | [], m => .inl rfl
  | x :: r, m => by
    unfold minZ
    rcases minZ_mem r (if x < m then x else m) with h | h
    · rw [h]
      by_cases c : x < m
      · rw [if_pos c]; exact .inr List.mem_cons_self
      · rw [if_neg c]; exact .inl rfl
    · exact .inr (List.mem_cons_of_mem _ h)
def dMinL (a : D) (h : Ph) : R D := R.opt (lstOf a h) fun xs => R.opt (intsOf xs) fun bs => match bs with
  | [] => .bad
  | m :: r => .ok (.int (minZ m r)) h
theorem ci_minL : CallI K mg (rMin K) (g1 dMinL) := ci_1 fun W σ w h H a x Q L ra hp => by
  obtain ⟨xs, e, hp⟩ := Po.some hp
  obtain ⟨bs, e2, hp⟩ := Po.some hp
  obtain ⟨a, vs, e1, h1, h2⟩ := lstOf_ok L e ra
  have z := intsOf_ok e2 h2
  subst z
  cases bs with
  | nil => exact hp.elim
  | cons m r =>
    refine ⟨a, m :: r, by rw [e1], h1, Nat.succ_pos _, fun z hz hm => ?_⟩
    have : z = minZ m r := by
      obtain ⟨k1, k2⟩ := minZ_le r m
      have a1 : minZ m r ≤ z := by
        rcases List.mem_cons.mp hz with rfl | q
        · exact k1
        · exact k2 z q
      have a2 : z ≤ minZ m r := hm _ (by
        rcases minZ_mem r m with q | q
        · rw [q]; exact List.mem_cons_self
        · exact List.mem_cons_of_mem _ q)
      omega
    rw [this]
    exact Po.here L (.int _) hp
def tyOf (d : D) (h : Ph) : Option String := match d with
  | .non => some "NoneType"
  | .bl _ => some "bool"
  | .int _ => some "int"
  | .str _ => some "str"
  | .tup _ => some "tuple"
  | .lst _ => some "list"
  | .ref n => match h[n]? with
    | some (.lst _) => some "list"
    | some (.dK _) => some "dict"
    | some (.dT _) => some "dict"
    | _ => none
  | _ => none
theorem tyOf_ok {w : Wd} {H : Hp} {h : Ph} (L : Lk K mg w h H) {d : D} {v : V} {t : String} (e : tyOf d h = some t) (r : Rep K mg w d v) : TyX K H v (.type t) := by
  cases r with
  | non => cases e; exact .base .non
  | bl b => cases e; exact .base (.bl b)
  | int i => cases e; exact .base (.int i)
  | str x => cases e; exact .base (.str x)
  | tup q r =>
    cases e
    rcases SqT.ex L q.sq with (q | ⟨o, q⟩) | ⟨o, _, _, hk, hc, _⟩
    · exact .base (.tup q)
    · exact .fTuple q
    · exact .kTuple hk hc
  | lst q r => cases e; exact .base (.lst (L.ex _ _ q))
  | ref q =>
    obtain ⟨o, u, h1, h2, r'⟩ := L.there q
    unfold tyOf at e
    simp only [h1] at e
    cases r' with
    | lst _ => cases e; exact .base (.lst h2)
    | dK _ => cases e; exact .base (.dK h2)
    | dT _ => cases e; exact .base (.dT h2)
    | _ => cases e
  | _ => cases e
def dIsi (a b : D) (h : Ph) : R D := match b with
  | .ty n => R.opt (tyOf a h) fun t => R.opt (kitB t n) fun k => .ok (.bl k) h
  | _ => .bad
theorem ci_isi : CallI K mg (rIsi K) (g2 dIsi) := ci_2 fun W σ w h H a b x y Q L ra rb hp => by
  unfold dIsi at hp
  split at hp
  · obtain ⟨t, e1, hp⟩ := Po.some hp
    obtain ⟨k, e2, hp⟩ := Po.some hp
    cases rb
    exact ⟨x, _, _, _, k, rfl, .ty _, tyOf_ok L e1 ra, kit_ty e2, Po.here L (.bl _) hp⟩
  · exact hp.elim
end
end Pd

namespace Pd
open PySem L2 Evl
abbrev SG := D → Pe → Ph → R Pe
abbrev SGs := List D → Pe → Ph → R Pe
def Only (S : List Nat) (σ σ' : St) : Prop := σ'.length = σ.length ∧ ∀ i, i ∉ S → σ'[i]? = σ[i]?
theorem Only.refl (S : List Nat) (σ : St) : Only S σ σ := ⟨rfl, fun _ _ => rfl⟩
theorem Only.trans {S S' : List Nat} {a b c : St} (h : Only S a b) (k : Only S' b c) : Only (S ++ S') a c := ⟨k.1.trans h.1, fun i hi => (k.2 i fun z => hi (List.mem_append_right _ z)).trans (h.2 i fun z => hi (List.mem_append_left _ z))⟩
theorem Only.set (i : Nat) (σ : St) (o : Option V) : Only [i] σ (σ.set i o) := ⟨by simp, fun j hj => by
  have : i ≠ j := fun z => hj (by simp [z])
  rw [List.getElem?_set_ne this]⟩
section
variable (K : PySem.W.Frag) (mg : Str → Option Value)
def PoG (S : List Nat) (σ : St) (w : Wd) (H : Hp) (r : R Pe) (Q : St → Hp → Prop) : Prop := match r with
  | .ok e' h' => ∀ w' H' σ', Step w H w' H' → Lk K mg w' h' H' → En K mg w' e' σ' → Only S σ σ' → Q σ' H'
  | _ => False
def SnG (S : List Nat) (t : TG) (g : SG) : Prop := ∀ (σ : St) (e : Pe) (w : Wd) (h : Ph) (H : Hp) (x : D) (v : V) (Q : St → Hp → Prop), En K mg w e σ → Lk K mg w h H → Rep K mg w x v → PoG K mg S σ w H (g x e h) Q → t v σ H Q
def SnGs (S : List Nat) (t : TGs) (g : SGs) : Prop := ∀ (σ : St) (e : Pe) (w : Wd) (h : Ph) (H : Hp) (x : List D) (v : List V) (Q : St → Hp → Prop), En K mg w e σ → Lk K mg w h H → Reps K mg w x v → PoG K mg S σ w H (g x e h) Q → t v σ H Q
end
theorem PoG.step {K : PySem.W.Frag} {mg : Str → Option Value} {S : List Nat} {σ : St} {w w1 : Wd} {H H1 : Hp} {r : R Pe} {Q : St → Hp → Prop} (st : Step w H w1 H1) (h : PoG K mg S σ w H r Q) : PoG K mg S σ w1 H1 r Q := by
  cases r with
  | ok a h' => exact fun w' H' v s => h w' H' v (st.trans s)
  | exc c fs h' => exact h
  | bad => exact h
section
variable {ι : Type} {Z : Cz} {Y : ι → Cy} {W : WX}
def GI (Z : Cz) (Y : ι → Cy) (S : List Nat) (tg : Expr) (g : SG) : Prop := ∃ t, (∀ i, PG (cx Z (Y i)) tg t) ∧ SnG Z.K Z.mg S t g
def GIs (Z : Cz) (Y : ι → Cy) (S : List Nat) (tg : List Expr) (g : SGs) : Prop := ∃ t, (∀ i, PGs (cx Z (Y i)) tg t) ∧ SnGs Z.K Z.mg S t g
def gNm (i : Nat) : SG := fun x e h => .ok (e.set i (some x)) h
theorem gi_name (i : Nat) {x : Str} {pos : Pos} (hN : Z.N.Nodup) (hi : Z.N[i]? = some x) (hx : ∀ i, Loc (Y i).env.scope x) (hf : ∀ i, (Y i).fn x = true ∨ (Y i).env.scope.names.lookup x = some .local) : GI Z Y [i] (.Name x pos) (gNm i) :=
  ⟨gName i, fun j => pg_name (X := cx Z (Y j)) hN hi (hx j) (hf j), fun σ e w h H x v Q E L r hp => hp w H _ (Step.refl w H) L (E.set r i) (Only.set i σ _)⟩
def gNilS : SGs := fun xs e h => match xs with
  | [] => .ok e h
  | _ => .bad
def gConsS (g : SG) (gs : SGs) : SGs := fun xs e h => match xs with
  | x :: r => (g x e h).bind fun e1 h1 => gs r e1 h1
  | [] => .bad
theorem gis_nil : GIs Z Y [] [] gNilS := ⟨gNil, fun _ => pgs_nil, fun σ e w h H x v Q E L r hp => by
  cases r with
  | nil => exact ⟨rfl, hp w H σ (Step.refl w H) L E (Only.refl _ _)⟩
  | cons _ _ => exact hp.elim⟩
theorem gis_cons {S S' : List Nat} {a : Expr} {es : List Expr} {g : SG} {gs : SGs} (h1 : GI Z Y S a g) (h2 : GIs Z Y S' es gs) (hs : ∀ i, (assignEach (a :: es) (Y i).env).map (·.2) = assign a (Y i).env :: (assignEach es (Y i).env).map (·.2) := by intro _; rfl) : GIs Z Y (S ++ S') (a :: es) (gConsS g gs) := by
  obtain ⟨t, p, s⟩ := h1
  obtain ⟨t', p', s'⟩ := h2
  refine ⟨_, fun i => pgs_cons (p i) (p' i) (hs i), fun σ e w h H x v Q E L r hp => ?_⟩
  cases r with
  | nil => exact hp.elim
  | cons r1 rr =>
    rename_i d ds u us
    refine ⟨_, _, rfl, s σ e w h H _ _ _ E L r1 ?_⟩
    have hp' : PoG Z.K Z.mg (S ++ S') σ w H ((g d e h).bind fun e1 h1 => gs ds e1 h1) Q := hp
    cases q : g d e h with
    | ok e1 h1 =>
      rw [q] at hp'
      intro w1 H1 σ1 st1 L1 E1 o1
      refine s' σ1 e1 w1 h1 H1 _ _ _ E1 L1 (rr.mono st1.le) ?_
      have hp1 : PoG Z.K Z.mg (S ++ S') σ w1 H1 (gs ds e1 h1) Q := PoG.step st1 hp'
      cases q2 : gs ds e1 h1 with
      | ok e2 h2 =>
        rw [q2] at hp1
        exact fun w2 H2 σ2 st2 L2 E2 o2 => hp1 w2 H2 σ2 st2 L2 E2 (o1.trans o2)
      | exc _ _ _ => rw [q2] at hp1; exact hp1.elim
      | bad => rw [q2] at hp1; exact hp1.elim
    | exc _ _ _ => rw [q] at hp'; exact hp'.elim
    | bad => rw [q] at hp'; exact hp'.elim
def gTp (n : Nat) (gs : SGs) : SG := fun x e h => match x with
  | .tup xs => if xs.length = n then gs xs e h else .bad
  | _ => .bad
theorem PoG.ite {K : PySem.W.Frag} {mg : Str → Option Value} {S : List Nat} {σ : St} {w : Wd} {H : Hp} {Q : St → Hp → Prop} {c : Prop} [Decidable c] {f : R Pe} (hp : PoG K mg S σ w H (if c then f else .bad) Q) : c ∧ PoG K mg S σ w H f Q := by
  by_cases hc : c
  · rw [if_pos hc] at hp; exact ⟨hc, hp⟩
  · rw [if_neg hc] at hp; exact hp.elim
theorem gi_tup {S : List Nat} {es : List Expr} {k : Nat} {pos : Pos} {n : Nat} {gs : SGs} (hc : ∀ i, (Y i).calm = true) (h : GIs Z Y S es gs) (hn : ∀ i, (assignEach es (Y i).env).length = n := by intro _; rfl) (hst : ∀ i, (assignEach es (Y i).env).findIdx? (·.1) = none := by intro _; rfl) : GI Z Y S (.Tuple es k pos) (gTp n gs) := by
  obtain ⟨t, p, s⟩ := h
  refine ⟨gTup Z.K n t, fun i => pg_tup (X := cx Z (Y i)) (hc i) (p i) (hn i) (hst i), fun σ e w h H x v Q E L r hp => ?_⟩
  unfold gTp at hp
  split at hp
  · obtain ⟨hl, hp⟩ := PoG.ite hp
    cases r with
    | tup q r => exact ⟨_, _, rfl, SqT.ex L q.sq, by rw [← r.length]; exact hl, s σ e w h H _ _ _ E L r hp⟩
  · exact hp.elim
def setIx (o i x : D) (h : Ph) : R Unit := match o, i with
  | .ref n, .int k => match h[n]? with
    | some (.lst xs) => match ixN xs.length k with
      | some j => .ok () (h.set n (.lst (xs.set j x)))
      | none => .bad
    | _ => .bad
  | _, _ => .bad
def R.toG (r : R Pe) : F := match r with
  | .ok e h => .nx e h
  | _ => .bad
def sAsg (f : SE) (g : SG) : SS := fun e h => (f e h).toF e fun x h1 => (g x e h1).toG
theorem PoG.of {K : PySem.W.Frag} {mg : Str → Option Value} {S : List Nat} {σ : St} {w : Wd} {H : Hp} {r : R Pe} {D : Ends} (hp : PoF K mg W w H r.toG D) : PoG K mg S σ w H r D.nx := by
  cases r with
  | ok e h => exact fun w' H' σ' st L E _ => hp w' H' σ' st L E
  | exc _ _ _ => exact hp
  | bad => exact hp
theorem sn_asg {K : PySem.W.Frag} {mg : Str → Option Value} {S : List Nat} {te : TE} {t : TG} {f : SE} {g : SG} (sf : SnE K mg W te f) (sg : SnG K mg S t g) : SnS K mg W (tAsg te t) (sAsg f g) := fun σ e w h H D E L hp =>
  sf σ e w h H _ E L (Po.toF (Rp := Rep K mg) E hp fun a h1 w1 H1 v _ st1 L1 r1 hp1 => sg σ e w1 h1 H1 a v D.nx (E.mono st1.le) L1 r1 (PoG.of hp1))
theorem si_asg {S : List Nat} {tg e : Expr} {f : SE} {g : SG} {pos : Pos} (hf : EI Z Y W e f) (hg : GI Z Y S tg g) (hs : ∀ i, swapsWithSole [tg] e pos.line (Y i).env = pure false := by intro _; rfl) (hw : ∀ i, swappedStores [tg] e (Y i).env = pure none := by intro _; rfl)
    (h1 : ∀ i, (assignEach [tg] (Y i).env).map (·.2) = [assign tg (Y i).env] := by intro _; rfl) : SI Z Y W (.Assign [tg] e pos) (sAsg f g) := by
  obtain ⟨te, pe, se⟩ := hf
  obtain ⟨tg', pg, sg⟩ := hg
  exact ⟨_, fun i => ps_asg (pe i) (pg i) (hs i) (hw i) (h1 i), sn_asg se sg⟩
theorem sn_name {K : PySem.W.Frag} {mg : Str → Option Value} (i : Nat) : SnG K mg [i] (gName i) (gNm i) := fun σ e w h H x v Q E L r hp => hp w H _ (Step.refl w H) L (E.set r i) (Only.set i σ _)
theorem si_set (i : Nat) {x : Str} {e : Expr} {f : SE} {pos pos' : Pos} (hN : Z.N.Nodup) (hi : Z.N[i]? = some x) (hx : ∀ i, Loc (Y i).env.scope x) (hfn : ∀ i, (Y i).fn x = true ∨ (Y i).env.scope.names.lookup x = some .local) (hf : EI Z Y W e f) (hs : ∀ i, swapsWith e (some (.Name x pos')) pos.line (Y i).env = pure false := by intro _; rfl) :
    SI Z Y W (.Assign [.Name x pos'] e pos) (sAsg f (gNm i)) := by
  obtain ⟨te, pe, se⟩ := hf
  exact ⟨_, fun j => ps_set (X := cx Z (Y j)) hN hi (hx j) (pe j) (hs j) (hfn j), sn_asg se (sn_name i)⟩
def sPar (i j : Nat) (f : SA) : SS := fun e h => (f e h).toF e fun xs h1 => match xs with
  | [x, y] => .nx ((e.set i (some x)).set j (some y)) h1
  | _ => .bad
theorem si_par {i j : Nat} {x y : Str} {a b : Expr} {f : SA} {px py pt pt2 pos : Pos} {kt k2} (hc : ∀ i, (Y i).calm = true) (hN : Z.N.Nodup) (hi : Z.N[i]? = some x) (hj : Z.N[j]? = some y) (hij : i ≠ j)
    (hx : ∀ i, (Y i).env.scope.names.lookup x = some .local) (hy : ∀ i, (Y i).env.scope.names.lookup y = some .local) (ha : AI Z Y W [a, b] f)
    (hw : ∀ i, swappedStores [.Tuple [.Name x px, .Name y py] kt pt] (.Tuple [a, b] k2 pt2) (Y i).env = pure (some [x, y]))
    (hs : ∀ i, swapsWithSole [.Tuple [.Name x px, .Name y py] kt pt] (.Tuple [a, b] k2 pt2) pos.line (Y i).env = pure false := by intro _; rfl) :
    SI Z Y W (.Assign [.Tuple [.Name x px, .Name y py] kt pt] (.Tuple [a, b] k2 pt2) pos) (sPar i j f) := by
  obtain ⟨ta, pa, sa⟩ := ha
  refine ⟨_, fun q => ps_par (X := cx Z (Y q)) (hc q) hN hi hj hij (hx q) (hy q) (pa q) (hw q) (hs q), fun σ e w h H D E L hp => sa σ e w h H _ E L (Po.toF (Rp := Reps Z.K Z.mg) E hp fun xs h1 w1 H1 v _ st1 L1 r1 hp1 => ?_)⟩
  split at hp1
  · obtain ⟨u1, u2, rfl, q1, q2⟩ := r1.two
    exact ⟨u1, u2, rfl, hp1 w1 H1 _ (Step.refl _ _) L1 (((E.mono st1.le).set q1 i).set q2 j)⟩
  · exact hp1.elim
def sAug (i : Nat) (g : D → D → Ph → R D) (f : SE) : SS := fun e h => match e[i]? with
  | some (some a) => (f e h).toF e fun b h1 => (g a b h1).toF e fun c h2 => .nx (e.set i (some c)) h2
  | _ => .bad
theorem si_aug (i : Nat) {x : Str} {e : Expr} {f : SE} {g : D → D → Ph → R D} {op : Operator} {r : R2} {pos pos' : Pos} (hN : Z.N.Nodup) (hi : Z.N[i]? = some x) (hx : ∀ i, Loc (Y i).env.scope x) (hfn : ∀ i, (Y i).fn x = true ∨ (Y i).env.scope.names.lookup x = some .local)
    (o : OpF Z Y (inplaceOp op) r) (ho : OpI Z.K Z.mg r g) (hf : EI Z Y W e f) : SI Z Y W (.AugAssign (.Name x pos') op e pos) (sAug i g f) := by
  obtain ⟨te, pe, se⟩ := hf
  refine ⟨_, fun j => ps_aug (X := cx Z (Y j)) hN hi (hx j) (pe j) (o j) (hfn j), fun σ e w h H D E L hp => ?_⟩
  unfold sAug at hp
  split at hp
  · rename_i a he
    obtain ⟨v, h1, r1⟩ := E.get i a he
    refine ⟨v, h1, se σ e w h H _ E L (Po.toF (Rp := Rep Z.K Z.mg) E hp fun b h1 w1 H1 y _ st1 L1 r2 hp1 => ho W σ w1 h1 H1 a b v y _ L1 (r1.mono st1.le) r2 (Po.toF (Rp := Rep Z.K Z.mg) (E.mono st1.le) hp1 fun c h2 w2 H2 z _ st2 L2 r3 hp2 => ?_))⟩
    exact hp2 w2 H2 _ (Step.refl _ _) L2 ((E.mono (st1.le.trans st2.le)).set r3 i)
  · exact hp.elim
def sDrop (f : SE) : SS := fun e h => (f e h).toF e fun _ h1 => .nx e h1
theorem si_expr {e : Expr} {f : SE} {pos : Pos} (hf : EI Z Y W e f) (hs : ∀ i, swapsWith e none pos.line (Y i).env = pure false := by intro _; rfl) : SI Z Y W (.Expr e pos) (sDrop f) := by
  obtain ⟨te, pe, se⟩ := hf
  exact ⟨_, fun i => ps_expr (pe i) (hs i), fun σ e w h H D E L hp => se σ e w h H _ E L (Po.toF (Rp := Rep Z.K Z.mg) E hp fun a h1 w1 H1 v _ st1 L1 r1 hp1 => hp1 w1 H1 σ (Step.refl _ _) L1 (E.mono st1.le))⟩
def sRet (f : SE) : SS := fun e h => (f e h).toF e fun x h1 => .ret x h1
theorem si_ret {e : Expr} {f : SE} {pos : Pos} (hf : EI Z Y W e f) : SI Z Y W (.Return (some e) pos) (sRet f) := by
  obtain ⟨te, pe, se⟩ := hf
  exact ⟨_, fun i => ps_ret (pe i), fun σ e w h H D E L hp => se σ e w h H _ E L (Po.toF (Rp := Rep Z.K Z.mg) E hp fun a h1 w1 H1 v _ st1 L1 r1 hp1 => hp1 w1 H1 v (Step.refl _ _) L1 r1)⟩
def sRetN : SS := fun _ h => .ret .non h
def sNx : SS := fun e h => .nx e h
def sBrk : SS := fun e h => .brk e h
def sCnt : SS := fun e h => .cnt e h
def sBad : SS := fun _ _ => .bad
theorem si_break {pos : Pos} : SI Z Y W (.Break pos) sBrk := ⟨_, fun _ => ps_break, fun σ e w h H D E L hp => hp w H _ (Step.refl _ _) L E⟩
theorem si_never {st : Stmt} : SI Z Y W st sBad := ⟨_, fun _ => ps_never, fun σ e w h H D E L hp => hp.elim⟩
theorem bi_nil : BI Z Y W [] sNx := ⟨_, fun _ => pss_nil, fun σ e w h H D E L hp => hp w H _ (Step.refl _ _) L E⟩
def F.seq (r : F) (k : Pe → Ph → F) : F := match r with
  | .nx e h => k e h
  | .ret d h => .ret d h
  | .brk e h => .brk e h
  | .cnt e h => .cnt e h
  | .exc c fs e h => .exc c fs e h
  | .bad => .bad
def sSeq (f g : SS) : SS := fun e h => (f e h).seq g
theorem PoF.seq {K : PySem.W.Frag} {mg : Str → Option Value} {w : Wd} {H : Hp} {r : F} {k : Pe → Ph → F} {D : Ends} {N : St → Hp → Prop} (hp : PoF K mg W w H (r.seq k) D)
    (hk : ∀ e h1 w1 H1 σ', r = .nx e h1 → Step w H w1 H1 → Lk K mg w1 h1 H1 → En K mg w1 e σ' → PoF K mg W w1 H1 (k e h1) D → N σ' H1) : PoF K mg W w H r { D with nx := N } := by
  cases r with
  | nx e h => exact fun w1 H1 σ' st L E => hk e h w1 H1 σ' rfl st L E (PoF.step st hp)
  | ret d h => exact hp
  | brk e h => exact hp
  | cnt e h => exact hp
  | exc c fs e h => exact hp
  | bad => exact hp
theorem bi_cons {st : Stmt} {rest : List Stmt} {f g : SS} (h1 : SI Z Y W st f) (h2 : BI Z Y W rest g) : BI Z Y W (st :: rest) (sSeq f g) := by
  obtain ⟨t, p, s⟩ := h1
  obtain ⟨t', p', s'⟩ := h2
  exact ⟨_, fun i => pss_cons (p i) (p' i), fun σ e w h H D E L hp => s σ e w h H _ E L (PoF.seq hp fun e1 h1 w1 H1 σ' _ st1 L1 E1 hp1 => s' σ' e1 w1 h1 H1 D E1 L1 hp1)⟩
theorem bi_one {st : Stmt} {f : SS} (h1 : SI Z Y W st f) : BI Z Y W [st] f := by
  obtain ⟨t, p, s⟩ := h1
  exact ⟨_, fun i => pss_one (p i), s⟩
def sIte (c : ST) (f g : SS) : SS := fun e h => (c e h).toF e fun b h1 => br b (f e h1) (g e h1)
theorem si_if {c : Expr} {a b : List Stmt} {fc : ST} {f g : SS} {pos : Pos} (hc : TI Z Y W c fc) (ha : BI Z Y W a f) (hb : BI Z Y W b g) : SI Z Y W (.If c a b pos) (sIte fc f g) := by
  obtain ⟨tc, pc, sc⟩ := hc
  obtain ⟨ta, pa, sa⟩ := ha
  obtain ⟨tb, pb, sb⟩ := hb
  refine ⟨_, fun i => ps_if (pc i) (pa i) (pb i), fun σ e w h H D E L hp => sc σ e w h H _ E L (Po.toF (Rp := RpB) E hp fun a h1 w1 H1 v _ st1 L1 r1 hp1 => ?_)⟩
  cases r1
  cases a with
  | true => exact sa σ e w1 h1 H1 D (E.mono st1.le) L1 hp1
  | false => exact sb σ e w1 h1 H1 D (E.mono st1.le) L1 hp1
def F.turn (r : F) (again : Pe → Ph → F) : F := match r with
  | .nx e h => again e h
  | .cnt e h => again e h
  | .brk e h => .nx e h
  | .ret d h => .ret d h
  | .exc c fs e h => .exc c fs e h
  | .bad => .bad
def sWhile : Nat → ST → SS → SS
  | 0, _, _ => fun _ _ => .bad
  | n + 1, c, f => fun e h => (c e h).toF e fun b h1 => br b ((f e h1).turn fun e2 h2 => sWhile n c f e2 h2) (.nx e h1)
theorem PoF.turn {K : PySem.W.Frag} {mg : Str → Option Value} {w : Wd} {H : Hp} {r : F} {k : Pe → Ph → F} {D : Ends} {N : St → Hp → Prop} (hp : PoF K mg W w H (r.turn k) D)
    (hk : ∀ e h1 w1 H1 σ', Step w H w1 H1 → Lk K mg w1 h1 H1 → En K mg w1 e σ' → PoF K mg W w1 H1 (k e h1) D → N σ' H1) : PoF K mg W w H r { D with nx := N, ct := N, bk := D.nx } := by
  cases r with
  | nx e h => exact fun w1 H1 σ' st L E => hk e h w1 H1 σ' st L E (PoF.step st hp)
  | ret d h => exact hp
  | brk e h => exact hp
  | cnt e h => exact fun w1 H1 σ' st L E => hk e h w1 H1 σ' st L E (PoF.step st hp)
  | exc c fs e h => exact hp
  | bad => exact hp
theorem sn_while {K : PySem.W.Frag} {mg : Str → Option Value} {tc : TT} {tb : TS} {c : ST} {f : SS} (sc : SnT K mg W tc c) (sf : SnS K mg W tb f) (n : Nat) : SnS K mg W (tWhile tc tb) (sWhile n c f) := fun σ e w h H D E L hp => by
  refine ⟨fun m σ H => ∃ e w h, En K mg w e σ ∧ Lk K mg w h H ∧ PoF K mg W w H (sWhile m c f e h) D, ⟨n, e, w, h, E, L, hp⟩, ?_⟩
  rintro m σ H ⟨e, w, h, E, L, hp⟩
  cases m with
  | zero => exact hp.elim
  | succ m =>
    refine sc σ e w h H _ E L (Po.toF (Rp := RpB) E hp fun b h1 w1 H1 v _ st1 L1 r1 hp1 => ?_)
    cases r1
    cases b with
    | true =>
      rw [if_pos rfl]
      exact ⟨fun σ' H' => ∃ e w h, En K mg w e σ' ∧ Lk K mg w h H' ∧ PoF K mg W w H' (sWhile m c f e h) D, fun σ' H' ⟨e, w, h, q⟩ => ⟨m, Nat.lt_succ_self m, e, w, h, q⟩,
        sf σ e w1 h1 H1 _ (E.mono st1.le) L1 (PoF.turn hp1 fun e2 h2 w2 H2 σ' st2 L2 E2 hp2 => ⟨e2, w2, h2, E2, L2, hp2⟩)⟩
    | false =>
      rw [if_neg Bool.false_ne_true]
      exact hp1 w1 H1 σ (Step.refl _ _) L1 (E.mono st1.le)
theorem si_while (n : Nat) {c : Expr} {body : List Stmt} {fc : ST} {f : SS} {pos : Pos} (hp : ∀ i, PassesOwn (model Z.P Z.w) (Y i).A (Y i).env (Y i).xe) (hc : TI Z Y W c fc) (hb : BI Z Y W body f) : SI Z Y W (.While c body [] pos) (sWhile n fc f) := by
  obtain ⟨tc, pc, sc⟩ := hc
  obtain ⟨tb, pb, sb⟩ := hb
  exact ⟨_, fun i => ps_while (X := cx Z (Y i)) (hp i) (pc i) (pb i), sn_while sc sb n⟩
end
structure ItOk (K : PySem.W.Frag) (mg : Str → Option Value) (w : Wd) (J : It) (xs : List D) : Prop where
  go : ∀ (w' : Wd) (h' : Ph) (H' : Hp) (i : Nat) (d : D), Le w w' → Lk K mg w' h' H' → xs[i]? = some d → J.go i H' ∧ ∀ x H'', J.yld i H' x H'' → ∃ w'', Step w' H' w'' H'' ∧ Lk K mg w'' h' H'' ∧ Rep K mg w'' d x
  stop : ∀ (w' : Wd) (h' : Ph) (H' : Hp) (i : Nat), Le w w' → Lk K mg w' h' H' → xs.length ≤ i → J.stop i H'
abbrev SIt := Pe → Ph → R (List D)
section
variable (K : PySem.W.Frag) (mg : Str → Option Value)
abbrev PoI := Po (α := List D) (β := It) K mg (fun w xs J => ItOk K mg w J xs)
def SnI (W : WX) (t : L2.TI) (f : SIt) : Prop := ∀ (σ : St) (e : Pe) (w : Wd) (h : Ph) (H : Hp) (Q : It → Hp → Prop), En K mg w e σ → Lk K mg w h H → PoI K mg W σ w H (f e h) Q → t σ H Q
end
section
variable {ι : Type} {Z : Cz} {Y : ι → Cy} {W : WX}
def II (Z : Cz) (Y : ι → Cy) (W : WX) (tg iter : Expr) (f : SIt) : Prop := ∃ t, (∀ i, PI (cx Z (Y i)) tg iter t) ∧ SnI Z.K Z.mg W t f
theorem itOk_list {K : PySem.W.Frag} {mg : Str → Option Value} {w : Wd} {a : Addr} {xs : List D} {vs : List V} (q : SqL K w.G a vs) (r : Reps K mg w xs vs) (inj : ∀ (H : Hp) (ys : List V), SqL K H a vs → SqL K H a ys → ys = vs) : ItOk K mg w (Itl K a) xs where
  go := fun w' h' H' i d le L e => by
    obtain ⟨v, hv, rv⟩ := r.get e
    have s := ex_l L.ex (ex_l le.ex q)
    refine ⟨⟨vs, v, s, hv⟩, fun x H'' y => ?_⟩
    obtain ⟨rfl, y⟩ := y
    have z := y vs s
    rw [hv] at z
    cases z
    exact ⟨w', Step.refl _ _, L, rv.mono le⟩
  stop := fun w' h' H' i le L hl => ⟨vs, ex_l L.ex (ex_l le.ex q), by rw [← r.length]; exact hl⟩
def rangeD (lo : Int) (n : Nat) : List D := (List.range n).map fun (k : Nat) => D.int (lo + (k : Int))
theorem itOk_range {K : PySem.W.Frag} {mg : Str → Option Value} {w : Wd} (lo : Int) (n : Nat) : ItOk K mg w (Itr lo n) (rangeD lo n) where
  go := fun w' h' H' i d le L e => by
    unfold rangeD at e
    rw [List.getElem?_map] at e
    cases q : (List.range n)[i]? with
    | none => rw [q] at e; cases e
    | some j =>
      rw [q] at e
      cases e
      have hj := List.getElem?_eq_some_iff.mp q
      obtain ⟨h1, h2⟩ := hj
      rw [List.length_range] at h1
      have hij : i = j := by rw [← h2]; simp
      refine ⟨h1, fun x H'' y => ?_⟩
      obtain ⟨rfl, rfl⟩ := y
      subst hij
      exact ⟨w', Step.refl _ _, L, .int _⟩
  stop := fun w' h' H' i le L hl => by
    unfold rangeD at hl
    rw [List.length_map, List.length_range] at hl
    exact hl
def iRange1 (f : SA) : SIt := fun e h => (f e h).bind fun as h1 => match as with
  | [.int n] => if -(2 ^ 62) ≤ n ∧ n < 2 ^ 62 then .ok (rangeD 0 n.toNat) h1 else .bad
  | _ => .bad
def iRange2 (f : SA) : SIt := fun e h => (f e h).bind fun as h1 => match as with
  | [.int m, .int n] => if -(2 ^ 62) ≤ m ∧ m < 2 ^ 62 ∧ -(2 ^ 62) ≤ n ∧ n < 2 ^ 62 then .ok (rangeD m (n - m).toNat) h1 else .bad
  | _ => .bad
theorem ii_range1 {tg a : Expr} {f : SA} {p pos : Pos} (hg : GlF Y "range") (hm : Z.mg "range" = none) (ha : AI Z Y W [a] f) (hs : ∀ i, starEach [a] (Y i).env = [(false, eval a (Y i).env)] := by intro _; rfl) : II Z Y W tg (.Call (.Name "range" p) [a] [] pos) (iRange1 f) := by
  obtain ⟨t, pa, s⟩ := ha
  refine ⟨_, fun i => pi_range1 (X := cx Z (Y i)) (hg i) hm (pa i) (hs i), fun σ e w h H Q E L hp => s σ e w h H _ E L (Po.bind (Rp := Reps Z.K Z.mg) hp fun a h1 w1 H1 x _ st1 L1 r1 hp1 => ?_)⟩
  split at hp1
  · obtain ⟨hc, hp1⟩ := Po.ite hp1
    obtain ⟨y, rfl, r⟩ := r1.one
    cases r
    exact ⟨_, rfl, hc.1, hc.2, hp1 w1 H1 _ (Step.refl _ _) L1 (itOk_range 0 _)⟩
  · exact hp1.elim
theorem ii_range2 {tg a b : Expr} {f : SA} {p pos : Pos} (hg : GlF Y "range") (hm : Z.mg "range" = none) (ha : AI Z Y W [a, b] f) (hs : ∀ i, starEach [a, b] (Y i).env = [(false, eval a (Y i).env), (false, eval b (Y i).env)] := by intro _; rfl) (hs2 : ∀ i, starEach [b] (Y i).env = [(false, eval b (Y i).env)] := by intro _; rfl) :
    II Z Y W tg (.Call (.Name "range" p) [a, b] [] pos) (iRange2 f) := by
  obtain ⟨t, pa, s⟩ := ha
  refine ⟨_, fun i => pi_range2 (X := cx Z (Y i)) (hg i) hm (pa i) (hs i) (hs2 i), fun σ e w h H Q E L hp => s σ e w h H _ E L (Po.bind (Rp := Reps Z.K Z.mg) hp fun a h1 w1 H1 x _ st1 L1 r1 hp1 => ?_)⟩
  split at hp1
  · obtain ⟨hc, hp1⟩ := Po.ite hp1
    obtain ⟨y, z, rfl, r, r'⟩ := r1.two
    cases r; cases r'
    exact ⟨_, _, rfl, hc, hp1 w1 H1 _ (Step.refl _ _) L1 (itOk_range _ _)⟩
  · exact hp1.elim
def forGo (g : SG) (f : SS) : List D → Pe → Ph → F
  | [], e, h => .nx e h
  | x :: r, e, h => match g x e h with
    | .ok e1 h1 => (f e1 h1).turn fun e2 h2 => forGo g f r e2 h2
    | _ => .bad
def sFor (it : SIt) (g : SG) (f : SS) : SS := fun e h => (it e h).toF e fun xs h1 => forGo g f xs e h1
theorem sn_for {K : PySem.W.Frag} {mg : Str → Option Value} {S : List Nat} {ti : L2.TI} {tg : TG} {tb : TS} {it : SIt} {g : SG} {f : SS} (si : SnI K mg W ti it) (sg : SnG K mg S tg g) (sf : SnS K mg W tb f) : SnS K mg W (tFor ti tg tb) (sFor it g f) := fun σ e w h H D E L hp => by
  refine si σ e w h H _ E L (Po.toF (Rp := fun w xs J => ItOk K mg w J xs) E hp fun xs h1 w1 H1 J _ st1 L1 ok hp1 => ?_)
  refine ⟨fun i m σ H => m = xs.length - i ∧ i ≤ xs.length ∧ ∃ e w h, Le w1 w ∧ En K mg w e σ ∧ Lk K mg w h H ∧ PoF K mg W w H (forGo g f (xs.drop i) e h) D, ⟨xs.length, rfl, Nat.zero_le _, e, w1, h1, Le.refl _, E.mono st1.le, L1, hp1⟩, ?_⟩
  rintro i m σ H ⟨rfl, hi, e, w, h, le, E, L, hp⟩
  by_cases hlt : i < xs.length
  · have hx : xs[i]? = some xs[i] := by simp [hlt]
    obtain ⟨go, yl⟩ := ok.go w h H i xs[i] le L hx
    refine .inr ⟨go, fun σ' H' => ∃ e w h, Le w1 w ∧ En K mg w e σ' ∧ Lk K mg w h H' ∧ PoF K mg W w H' (forGo g f (xs.drop (i + 1)) e h) D, fun σ' H' q => ⟨xs.length - (i + 1), by omega, rfl, hlt, q⟩, fun x H' y => ?_⟩
    obtain ⟨w2, st2, L2, r2⟩ := yl x H' y
    have ed : xs.drop i = xs[i] :: xs.drop (i + 1) := (List.drop_eq_getElem_cons hlt)
    rw [ed] at hp
    unfold forGo at hp
    refine sg σ e w2 h H' xs[i] x _ (E.mono st2.le) L2 r2 ?_
    cases q : g xs[i] e h with
    | ok e1 h3 =>
      rw [q] at hp
      intro w3 H3 σ3 st3 L3 E3 _
      exact sf σ3 e1 w3 h3 H3 _ E3 L3 (PoF.turn (PoF.step (st2.trans st3) hp) fun e4 h4 w4 H4 σ4 st4 L4 E4 hp4 => ⟨e4, w4, h4, ((le.trans st2.le).trans st3.le).trans st4.le, E4, L4, hp4⟩)
    | exc _ _ _ => rw [q] at hp; exact hp.elim
    | bad => rw [q] at hp; exact hp.elim
  · have e0 : xs.drop i = [] := List.drop_eq_nil_of_le (by omega)
    rw [e0] at hp
    exact .inl ⟨ok.stop w h H i le L (by omega), hp w H σ (Step.refl _ _) L E⟩
theorem si_for {S : List Nat} {tg iter : Expr} {body : List Stmt} {it : SIt} {g : SG} {f : SS} {pos : Pos} (hp : ∀ i, PassesOwn (model Z.P Z.w) (Y i).A (Y i).env (Y i).xe) (hc : ∀ i, (Y i).calm = true) (hi : II Z Y W tg iter it) (hg : GI Z Y S tg g) (hb : BI Z Y W body f)
    (hs : ∀ i x, foldedSetIterable iter (Y i).env x = pure x := by intro _ _; rfl) : SI Z Y W (.For tg iter body [] pos) (sFor it g f) := by
  obtain ⟨ti, pi, si⟩ := hi
  obtain ⟨tg', pg, sg⟩ := hg
  obtain ⟨tb, pb, sb⟩ := hb
  exact ⟨_, fun i => ps_for (X := cx Z (Y i)) (hp i) (hc i) (pi i) (pg i) (pb i) (hs i), sn_for si sg sb⟩
end
end Pd

namespace Pd
open PySem L2 Evl
open PyProof.Rows (envOfC)
def R.bd {α β : Type} (r : R α) (k : α → Ph → R β) : R β := match r with
  | .ok a h => k a h
  | _ => .bad
def compGo (g : SG) (tt : ST) (te : SE) : List D → Pe → Ph → R (List D)
  | [], _, h => .ok [] h
  | x :: r, e0, h => (g x e0 h).bd fun e1 h1 => (tt e1 h1).bd fun b h2 => br b ((te e1 h2).bd fun y h3 => (compGo g tt te r e0 h3).bd fun ys h4 => .ok (y :: ys) h4) (compGo g tt te r e0 h2)
def wipeD (e : Pe) : List Nat → Pe
  | [] => e
  | v :: vs => (wipeD e vs).set v none
def sLc (it : SIt) (g : SG) (tt : ST) (te : SE) (vs : List Nat) : SE := fun e h => (it e h).bind fun xs h1 => if xs.length ≤ mostL then (compGo g tt te xs (wipeD e vs) h1).bd fun ys h2 => .ok (.lst ys) h2 else .bad
abbrev WF : WX := fun _ _ _ _ => False
theorem En.wipe {K : PySem.W.Frag} {mg : Str → Option Value} {w : Wd} {e : Pe} {σ : St} (E : En K mg w e σ) : ∀ vs : List Nat, En K mg w (wipeD e vs) (L2.wipe σ vs)
  | [] => E
  | v :: vs => by
    unfold wipeD L2.wipe
    exact (En.wipe E vs).unset v none
theorem wipe_get {σ : St} {i : Nat} : ∀ {vs : List Nat}, (L2.wipe σ vs)[i]? = if i ∈ vs then (if i < σ.length then some none else none) else σ[i]?
  | [] => by simp [L2.wipe]
  | v :: vs => by
    unfold L2.wipe
    by_cases hi : v = i
    · subst hi
      rw [if_pos List.mem_cons_self]
      by_cases hv : v < σ.length
      · rw [if_pos hv, List.getElem?_set_self (by rw [wipe_length]; exact hv)]
      · rw [if_neg hv, List.getElem?_eq_none (by rw [List.length_set, wipe_length]; omega)]
    · rw [List.getElem?_set_ne hi, wipe_get]
      by_cases hm : i ∈ vs
      · rw [if_pos hm, if_pos (List.mem_cons_of_mem _ hm)]
      · rw [if_neg hm, if_neg (by simp only [List.mem_cons, not_or]; exact ⟨fun z => hi z.symm, hm⟩)]
theorem wipe_only {σ σ' : St} {S vs : List Nat} (o : Only S (L2.wipe σ vs) σ') (hS : ∀ i ∈ S, i ∈ vs) : L2.wipe σ' vs = L2.wipe σ vs := by
  apply List.ext_getElem?
  intro i
  rw [wipe_get, wipe_get, o.1, wipe_length]
  by_cases hm : i ∈ vs
  · rw [if_pos hm, if_pos hm]
  · rw [if_neg hm, if_neg hm, o.2 i (fun z => hm (hS i z)), wipe_get, if_neg hm]
section
variable {K : PySem.W.Frag} {mg : Str → Option Value} {w : Wd} {h : Ph} {H : Hp}
theorem Lk.aside (L : Lk K mg w h H) {p : Addr} (nm : p ∉ w.ms) (ng : w.G p = none) (o : HO) : Lk K mg w h (upd H p o) :=
  ⟨fun a u e => by rw [upd_ne (ne_of_none e ng)]; exact L.ex a u e, L.len, fun n a o' e1 e2 => by
    obtain ⟨u, hu, r⟩ := L.obj n a o' e1 e2
    exact ⟨u, by rw [upd_ne (fun z => nm (by rw [← z]; exact List.mem_of_getElem? e1))]; exact hu, r⟩, L.inj, L.out⟩
end
theorem Step.aside {w1 w : Wd} {H1 H : Hp} (st : Step w1 H1 w H) {p : Addr} (np : H1 p = none) (o : HO) : Step w1 H1 w (upd H p o) :=
  ⟨st.le, fun a u e m => by rw [upd_ne (ne_of_none e np)]; exact st.frm a u e m, st.newM, st.newG⟩
section
variable {K : PySem.W.Frag} {mg : Str → Option Value} {W : WX}
theorem sn_lc {S : List Nat} {ti : L2.TI} {tg : TG} {tt : TT} {te : TE} {vs : List Nat} {it : SIt} {g : SG} {ft : ST} {fe : SE} (si : SnI K mg W ti it) (sg : SnG K mg S tg g) (st : SnT K mg WF tt ft) (se : SnE K mg WF te fe) (hS : ∀ i ∈ S, i ∈ vs) :
    SnE K mg W (tLc ti tg tt te vs) (sLc it g ft fe vs) := fun σ e w h H Q E L hp => by
  refine si σ e w h H _ E L (Po.bind (Rp := fun w xs J => ItOk K mg w J xs) hp fun xs h1 w1 H1 J _ st1 L1 ok hp1 => ?_)
  obtain ⟨hlen, hp1⟩ := Po.ite hp1
  intro Dl hD
  have E0 : En K mg w1 (wipeD e vs) (L2.wipe σ vs) := (E.mono st1.le).wipe vs
  generalize hfull : ((compGo g ft fe xs (wipeD e vs) h1).bd fun ys h2 => R.ok (D.lst ys) h2) = full at hp1
  refine ⟨fun i m H => m = xs.length - i ∧ i ≤ xs.length ∧ ∃ acc us w h, Step w1 H1 w H ∧ Lk K mg w h H ∧ Dl ∉ w.ms ∧ w.G Dl = none ∧ H Dl = some (.lst us) ∧ Reps K mg w acc us ∧ acc.length ≤ i ∧
      ((compGo g ft fe (xs.drop i) (wipeD e vs) h).bd fun ys h2 => R.ok (D.lst (acc ++ ys)) h2) = full,
    ⟨xs.length, rfl, Nat.zero_le _, [], [], w1, h1, (Step.refl w1 H1).aside hD _, ?_⟩, ?_⟩
  · have nm : Dl ∉ w1.ms := fun z => by
      obtain ⟨u, hu⟩ := L1.mem z
      rw [hD] at hu; cases hu
    exact ⟨L1.aside nm (fresh_back L1.ex hD) _, nm, fresh_back L1.ex hD, upd_same, .nil, Nat.le_refl _, hfull⟩
  rintro i m H ⟨rfl, hi, acc, us, w, h, stp, L, nm, ng, hus, racc, hacc, hf⟩
  by_cases hlt : i < xs.length
  · have hx : xs[i]? = some xs[i] := by simp [hlt]
    obtain ⟨go, yl⟩ := ok.go w h H i xs[i] stp.le L hx
    refine .inr ⟨go, fun H' => ∃ acc us w h, Step w1 H1 w H' ∧ Lk K mg w h H' ∧ Dl ∉ w.ms ∧ w.G Dl = none ∧ H' Dl = some (.lst us) ∧ Reps K mg w acc us ∧ acc.length ≤ i + 1 ∧
      ((compGo g ft fe (xs.drop (i + 1)) (wipeD e vs) h).bd fun ys h2 => R.ok (D.lst (acc ++ ys)) h2) = full, fun H' q => ⟨xs.length - (i + 1), by omega, rfl, hlt, q⟩, fun x H' y => ?_⟩
    -- what stays of the new list through a step
    have keep : ∀ {wa wb : Wd} {Ha Hb : Hp} {us : List V}, Step wa Ha wb Hb → Dl ∉ wa.ms → wa.G Dl = none → Ha Dl = some (.lst us) → Dl ∉ wb.ms ∧ wb.G Dl = none ∧ Hb Dl = some (.lst us) := fun {wa wb Ha Hb us} s k1 k2 k3 =>
      ⟨fun z => (s.newM Dl z).elim k1 fun q => (by rw [k3] at q; cases q), by rw [s.newG Dl (by rw [k3]; simp) k1 (fun xs z => by rw [k3] at z; cases z)]; exact k2, s.frm Dl _ k3 k1⟩
    obtain ⟨w2, st2, L2', r2⟩ := yl x H' y
    obtain ⟨a1, a2, a3⟩ := keep st2 nm ng hus
    have ed : xs.drop i = xs[i] :: xs.drop (i + 1) := List.drop_eq_getElem_cons hlt
    rw [ed] at hf
    unfold compGo at hf
    refine sg (L2.wipe σ vs) (wipeD e vs) w2 h H' xs[i] x _ (E0.mono (stp.le.trans st2.le)) L2' r2 ?_
    have nofull : full ≠ .bad := fun z => by rw [z] at hp1; exact hp1
    cases q : g xs[i] (wipeD e vs) h with
    | ok e1 h3 =>
      rw [q] at hf
      intro w3 H3 σ3 st3 L3 E3 o3
      obtain ⟨b1, b2, b3⟩ := keep st3 a1 a2 a3
      refine ⟨wipe_only o3 hS, st σ3 e1 w3 h3 H3 _ E3 L3 ?_⟩
      have hf : (((ft e1 h3).bd fun b h2 => br b ((fe e1 h2).bd fun y h3 => (compGo g ft fe (xs.drop (i + 1)) (wipeD e vs) h3).bd fun ys h4 => .ok (y :: ys) h4) (compGo g ft fe (xs.drop (i + 1)) (wipeD e vs) h2)).bd fun ys h2 => R.ok (D.lst (acc ++ ys)) h2) = full := hf
      cases q2 : ft e1 h3 with
      | ok b h4 =>
        rw [q2] at hf
        intro w4 H4 b' st4 L4 rb
        cases rb
        obtain ⟨c1, c2, c3⟩ := keep st4 b1 b2 b3
        cases b with
        | false =>
          rw [if_neg Bool.false_ne_true]
          exact ⟨acc, us, w4, h4, ((stp.trans st2).trans st3).trans st4, L4, c1, c2, c3, racc.mono ((st2.le.trans st3.le).trans st4.le), by omega, hf⟩
        | true =>
          rw [if_pos rfl]
          have hf : (((fe e1 h4).bd fun y h3 => (compGo g ft fe (xs.drop (i + 1)) (wipeD e vs) h3).bd fun ys h4 => .ok (y :: ys) h4).bd fun ys h2 => R.ok (D.lst (acc ++ ys)) h2) = full := hf
          refine se σ3 e1 w4 h4 H4 _ (E3.mono st4.le) L4 ?_
          cases q3 : fe e1 h4 with
          | ok y h5 =>
            rw [q3] at hf
            intro w5 H5 yv st5 L5 ry
            obtain ⟨d1, d2, d3⟩ := keep st5 c1 c2 c3
            have racc5 := racc.mono (((st2.le.trans st3.le).trans st4.le).trans st5.le)
            refine ⟨us, d3, ?_, acc ++ [y], us ++ [yv], w5, h5, ((((stp.trans st2).trans st3).trans st4).trans st5).aside hD _, L5.aside d1 d2 _, d1, d2, upd_same, racc5.append (.cons ry .nil), by rw [List.length_append, List.length_singleton]; omega, ?_⟩
            · rw [← racc.length]
              have := mostL_eq
              omega
            · rw [← hf]
              show _ = (((compGo g ft fe (xs.drop (i + 1)) (wipeD e vs) h5).bd fun ys h4 => R.ok (y :: ys) h4).bd fun ys h2 => R.ok (D.lst (acc ++ ys)) h2)
              cases compGo g ft fe (xs.drop (i + 1)) (wipeD e vs) h5 with
              | ok ys h6 =>
                show R.ok (D.lst (acc ++ [y] ++ ys)) h6 = R.ok (D.lst (acc ++ y :: ys)) h6
                rw [List.append_assoc]
                rfl
              | exc _ _ _ => rfl
              | bad => rfl
          | exc _ _ _ => rw [q3] at hf; exact absurd hf.symm nofull
          | bad => rw [q3] at hf; exact absurd hf.symm nofull
      | exc _ _ _ => rw [q2] at hf; exact absurd hf.symm nofull
      | bad => rw [q2] at hf; exact absurd hf.symm nofull
    | exc _ _ _ => rw [q] at hf; exact absurd hf.symm nofull
    | bad => rw [q] at hf; exact absurd hf.symm nofull
  · have e0 : xs.drop i = [] := List.drop_eq_nil_of_le (by omega)
    rw [e0] at hf
    have hf : R.ok (D.lst (acc ++ [])) h = full := hf
    rw [List.append_nil] at hf
    rw [← hf] at hp1
    refine .inl ⟨ok.stop w h H i stp.le L (by omega), ?_⟩
    have lew : Le w ⟨w.ms, upd w.G Dl (.lst us)⟩ := ⟨⟨[], by simp⟩, Ex.new ng⟩
    refine hp1 ⟨w.ms, upd w.G Dl (.lst us)⟩ H _ ⟨stp.le.trans lew, stp.frm, stp.newM, fun a ha hm ht => ?_⟩ ⟨fun a u q => ?_, L.len, fun n a o q1 q2 => ?_, L.inj, fun n a o q q2 q3 => ?_⟩ (.lst upd_same (racc.mono lew))
    · show upd w.G Dl (.lst us) a = w1.G a
      rw [upd_ne (fun z => ha (by rw [z]; exact hD))]
      exact stp.newG a ha hm ht
    · by_cases z : a = Dl
      · subst z
        rw [show (⟨w.ms, upd w.G a (.lst us)⟩ : Wd).G a = some (.lst us) from upd_same] at q
        rw [hus]; exact q
      · rw [show (⟨w.ms, upd w.G Dl (.lst us)⟩ : Wd).G a = w.G a from upd_ne z] at q
        exact L.ex a u q
    · obtain ⟨u, hu, r⟩ := L.obj n a o q1 q2
      exact ⟨u, hu, r.mono lew⟩
    · show upd w.G Dl (.lst us) a = none
      rw [upd_ne (fun z => nm (by rw [← z]; exact List.mem_of_getElem? q))]
      exact L.out n a o q q2 q3
end
section
variable {ι : Type} {Z : Cz} {Y : ι → Cy} {W : WX}
abbrev BlkI (ι : Type) : Type := ι × (Shared × Hp × Addr × List (Str × Addr) × List Addr)
abbrev blkY (Z : Cz) (Y : ι → Cy) (scope : Scope) : BlkI ι → Cy := fun p => { A := (Y p.1).A, s_0 := p.2.1, H_0 := p.2.2.1, env := compEnvC scope p.2.2.2.2.1 p.2.2.2.1 (Y p.1).env, outer := (Y p.1).stack, stack := (Y p.1).stack, ex := p.2.2.2.2.2, fn := fun x => scope.names.lookup x == some .cell, calm := (Y p.1).calm, pn := [], xe := fun _ _ => False }
def TsI (Z : Cz) (Y : ι → Cy) (W : WX) (es : List Expr) (f : ST) : Prop := ∃ t, (∀ i, PTs (cx Z (Y i)) es t) ∧ SnT Z.K Z.mg W t f
def qYes : ST := fun _ h => .ok true h
theorem tsi_nil : TsI Z Y W [] qYes := ⟨_, fun _ => pts_nil, fun σ e w h H Q E L hp => Po.here L rfl hp⟩
theorem tsi_one {c : Expr} {f : ST} (h : TI Z Y W c f) : TsI Z Y W [c] f := by
  obtain ⟨t, p, s⟩ := h
  exact ⟨_, fun i => pts_one (p i), s⟩
theorem ei_lc {S : List Nat} {elt tg iter : Expr} {ifs : List Expr} {scope : Scope} {own : List (Str × Nat)} {pos : Pos} {it : SIt} {g : SG} {ft : ST} {fe : SE} (hc : ∀ i, (Y i).calm = true) (hN : Z.N.Nodup) (hi : II Z Y W tg iter it) (ok : ∀ i, blkC Z.N (Y i).env.scope scope own = true)
    (hg : GI Z (blkY Z Y scope) S tg g) (ht : TsI Z (blkY Z Y scope) WF ifs ft) (he : EI Z (blkY Z Y scope) WF elt fe) (hS : ∀ i ∈ S, i ∈ own.map (·.2)) (hs : ∀ i x, foldedSetIterable iter (Y i).env x = pure x := by intro _ _; rfl) :
    EI Z Y W (.ListComp elt [⟨tg, iter, ifs, 0⟩] scope pos) (sLc it g ft fe (own.map (·.2))) := by
  obtain ⟨ti, pi, si⟩ := hi
  obtain ⟨tg', pg, sg⟩ := hg
  obtain ⟨tt, pt, st⟩ := ht
  obtain ⟨te, pe, se⟩ := he
  exact ⟨_, fun i => pe_lc (X := cx Z (Y i)) (hc i) hN (pi i) (blkOk_by (ok i)) (fun s H C cl fp => pg (i, s, H, C, cl, fp)) (fun s H C cl fp => pt (i, s, H, C, cl, fp)) (fun s H C cl fp => pe (i, s, H, C, cl, fp)) (hs i), sn_lc si sg st se hS⟩
end
abbrev Fn := List D → Ph → R D
def F.end (r : F) : R D := match r with
  | .nx _ h => .ok .non h
  | .ret d h => .ok d h
  | .exc c fs _ h => .exc c fs h
  | _ => .bad
def runDef (n : Nat) (body : SS) : Fn := fun as h => (body (as.map some ++ List.replicate (n - as.length) none) h).end
section
variable (K : PySem.W.Frag) (mg : Str → Option Value)
def PoC (Q : VK) (E : XK) (w : Wd) (H : Hp) (r : R D) : Prop := match r with
  | .ok d h' => ∀ w' H' v, Step w H w' H' → Lk K mg w' h' H' → Rep K mg w' d v → Q v H'
  | .exc c fs h' => ∀ w' H' C d, Step w H w' H' → Lk K mg w' h' H' → RepX K mg w' c fs C d → E C d H'
  | .bad => False
def spI (n : Nat) (fn : Fn) : Sp := fun vs H Q E => ∃ w h as, vs.length = n ∧ Lk K mg w h H ∧ Reps K mg w as vs ∧ PoC K mg Q E w H (fn as h)
end
structure Cb where
  P : Program
  w : World
  K : PySem.W.Frag
  mg : Str → Option Value
  base : Heap
abbrev Cb.z (B : Cb) (N : List Str) : Cz := ⟨B.P, B.w, B.K, B.mg, B.base, N⟩
structure Def (B : Cb) (k : Nat) (x : Str) (n : Nat) (fn : Fn) : Prop where
  ex : ∃ (a : Addr) (fd : FuncData) (ps : List Str), FnOk B.P B.w B.K B.mg B.base (L2.CX B.P B.w) k a fd ps (spI B.K B.mg n fn) ∧ B.mg x = some (.ref a) ∧ PySem.W.keepIn B.K (.ref a) = true ∧ Binds B.K fd ps []
section
variable {ι : Type} {B : Cb} {N : List Str} {Y : ι → Cy} {W : WX}
def sFn (fn : Fn) (f : SA) : SE := fun e h => (f e h).bind fun as h1 => fn as h1
theorem ei_call {k n : Nat} {x : Str} {fn : Fn} {a : Expr} {es : List Expr} {f : SA} {p pos : Pos} (d : Def B k x n fn) (hr : ∀ i, Room k (Y i).A) (tk : ∀ i, Takes (cx (B.z N) (Y i)) W) (hg : GlF Y x) (hn : (a :: es).length = n) (ha : AI (B.z N) Y W (a :: es) f)
    (hlen : ∀ e h as h1, f e h = .ok as h1 → as.length = n)
    (hdb : (x == ("__debug__" : Str)) = false := by decide) (he : ∀ i, starEach (a :: es) (Y i).env = (false, eval a (Y i).env) :: starEach es (Y i).env := by intro _; rfl) (hpl : ∀ i, (backTo pos (starEach es (Y i).env)).any (·.1) = false := by intro _; rfl) :
    EI (B.z N) Y W (.Call (.Name x p) (a :: es) [] pos) (sFn fn f) := by
  obtain ⟨ad, fd, ps, F, hm, hk, hb⟩ := d.ex
  obtain ⟨t, pa, s⟩ := ha
  refine ⟨_, fun i => pe_callS (X := cx (B.z N) (Y i)) F (hr i) (hg i) hm hk hb (fun σ => passAt (tk i) σ) (pa i) hdb (he i) (hpl i), fun σ e w h H Q E L hp => s σ e w h H _ E L (Po.bind (Rp := Reps B.K B.mg) hp fun as h1 w1 H1 vs q st1 L1 r1 hp1 => ?_)⟩
  refine ⟨w1, h1, as, by rw [← r1.length]; exact hlen _ _ _ _ q, L1, r1, ?_⟩
  cases q2 : fn as h1 with
  | ok d h2 => rw [q2] at hp1; exact hp1
  | exc c fs h2 => rw [q2] at hp1; exact hp1
  | bad => rw [q2] at hp1; exact hp1
theorem len_nil {e : Pe} {h : Ph} {as : List D} {h1 : Ph} (q : sNil e h = .ok as h1) : as.length = 0 := by
  cases q; rfl
theorem len_cons {n : Nat} {f : SE} {g : SA} (hg : ∀ e h as h1, g e h = .ok as h1 → as.length = n) : ∀ e h as h1, sCons f g e h = .ok as h1 → as.length = n + 1 := fun e h as h1 q => by
  unfold sCons at q
  cases z : f e h with
  | ok a h2 =>
    rw [z] at q
    have q : ((g e h2).bind fun r h2 => R.ok (a :: r) h2) = R.ok as h1 := q
    cases z2 : g e h2 with
    | ok r h3 =>
      rw [z2] at q
      cases q
      rw [List.length_cons, hg _ _ _ _ z2]
    | exc _ _ _ => rw [z2] at q; cases q
    | bad => rw [z2] at q; cases q
  | exc _ _ _ => rw [z] at q; cases q
  | bad => rw [z] at q; cases q
end
abbrev cyOf (Z : Cz) (qual : Str) (scope : Scope) (f : Addr) (cd : Value) (A : Around) (outer : List Env) (s : Shared) (H : Hp) (E : XK) : Cy where
  A := A.deeper (envOfC qual scope s.heap.objs.size f cd)
  s_0 := s
  H_0 := H
  env := envOfC qual scope s.heap.objs.size f cd
  outer := outer
  stack := envOfC qual scope s.heap.objs.size f cd :: outer
  ex := []
  fn := (cxOf (L2.CX Z.P Z.w) Z.P Z.w Z.K Z.mg Z.base Z.N qual scope f cd A outer s H E).fn
  calm := true
  pn := []
  xe := (cxOf (L2.CX Z.P Z.w) Z.P Z.w Z.K Z.mg Z.base Z.N qual scope f cd A outer s H E).xe
abbrev WE' (E : XK) : WX := fun cls d _ H => E cls d H
theorem cy_takes {Z : Cz} {qual : Str} {scope : Scope} {f : Addr} {cd : Value} {A : Around} {outer : List Env} {s : Shared} {H : Hp} {E : XK} : Takes (cx Z (cyOf Z qual scope f cd A outer s H E)) (WE' E) := takes_of rfl rfl rfl rfl
theorem cy_passes {Z : Cz} {qual : Str} {scope : Scope} {f : Addr} {cd : Value} {A : Around} {outer : List Env} {s : Shared} {H : Hp} {E : XK} : PassesOwn (model Z.P Z.w) (cyOf Z qual scope f cd A outer s H E).A (cyOf Z qual scope f cd A outer s H E).env (cyOf Z qual scope f cd A outer s H E).xe := passes_of (X := cx Z (cyOf Z qual scope f cd A outer s H E)) rfl
theorem start_en {K : PySem.W.Frag} {mg : Str → Option Value} {w : Wd} {N : List Str} {as : List D} {vs : List V} (r : Reps K mg w as vs) : En K mg w (as.map some ++ List.replicate (N.length - as.length) none) (L2.start N vs) := by
  unfold L2.start
  refine ⟨?_, fun i d h => ?_⟩
  · simp [r.length]
  · by_cases hi : i < as.length
    · rw [List.getElem?_append_left (by simpa using hi)] at h
      rw [List.getElem?_map] at h
      cases q : as[i]? with
      | none => rw [q] at h; cases h
      | some x =>
        rw [q] at h
        cases h
        obtain ⟨y, h1, h2⟩ := r.get q
        have hv : i < vs.length := (List.getElem?_eq_some_iff.mp h1).1
        exact ⟨y, by rw [List.getElem?_append_left (by simpa using hv), List.getElem?_map, h1]; rfl, h2⟩
    · rw [List.getElem?_append_right (by simpa using hi), List.getElem?_replicate] at h
      split at h
      · cases h
      · cases h
theorem def_ok {B : Cb} {N : List Str} {x qual : Str} {params : Arguments} {sbody : List Stmt} {scope : Scope} {a : Addr} {fd : FuncData} {ps : List Str} {k : Nat} {body : SS} {dvs : List V} {kws : List (Str × V)} (F : FunD B.K x qual params sbody scope dvs kws a fd) (S : FnScope N ps scope)
    (hb : ∀ (cdv : Value) (A : Around) (outer : List Env) (s : Shared) (H : Hp) (E : XK), Room k (A.deeper (envOfC qual scope s.heap.objs.size a cdv)) → BI (B.z N) (fun _ : Unit => cyOf (B.z N) qual scope a cdv A outer s H E) (WE' E) sbody body) :
    FnOk B.P B.w B.K B.mg B.base (L2.CX B.P B.w) (k + 1) a fd ps (spI B.K B.mg ps.length (runDef N.length body)) := by
  refine F.ok S (fun vs H Q E h => ?_) (fun cdv A outer s H vs Q E hr h => ?_)
  · obtain ⟨_, _, _, e, _⟩ := h
    exact e
  · obtain ⟨w, h, as, el, L, r, hp⟩ := h
    obtain ⟨t, p, sn⟩ := hb cdv A outer s H E hr
    refine ⟨t, p (), sn _ (as.map some ++ List.replicate (N.length - as.length) none) w h H _ (start_en r) L ?_⟩
    unfold runDef at hp
    cases q : body (as.map some ++ List.replicate (N.length - as.length) none) h with
    | nx e' h' => rw [q] at hp; exact fun w' H' σ' st L' E' => hp w' H' .non st L' .non
    | ret d h' => rw [q] at hp; exact hp
    | brk e' h' => rw [q] at hp; exact hp.elim
    | cnt e' h' => rw [q] at hp; exact hp.elim
    | exc c fs e' h' => rw [q] at hp; exact fun w' H' σ' C d st L' E' rx => hp w' H' C d st L' rx
    | bad => rw [q] at hp; exact hp.elim
theorem Def.mk' {B : Cb} {N : List Str} {y x qual : Str} {params : Arguments} {sbody : List Stmt} {scope : Scope} {a : Addr} {fd : FuncData} {ps : List Str} {k : Nat} {body : SS} (F : FunD B.K x qual params sbody scope [] [] a fd) (hm : B.mg y = some (.ref a)) (S : FnScope N ps scope)
    (hbi : ∀ (kV doc pm : Value) (an : Option Addr) (cdv ct : Value) (us : List Value), us.length = ps.length → bindArgs (PySem.W.fnOf x qual params sbody scope .none kV doc pm an cdv ct) ⟨us, []⟩ = pure (ps.zip us))
    (hb : ∀ (cdv : Value) (A : Around) (outer : List Env) (s : Shared) (H : Hp) (E : XK), Room k (A.deeper (envOfC qual scope s.heap.objs.size a cdv)) → BI (B.z N) (fun _ : Unit => cyOf (B.z N) qual scope a cdv A outer s H E) (WE' E) sbody body) :
    Def B (k + 1) y ps.length (runDef N.length body) := ⟨a, fd, ps, def_ok F S hb, hm, F.kp, F.bindsN hbi⟩
theorem law_sp {K : PySem.W.Frag} {mg : Str → Option Value} {fn : Fn} {H : Hp} {a : Addr} {ns : List Int} (hS : SqL K H a (ns.map V.int)) (ok : ∃ h', fn [.seq (ns.map D.int)] [] = .ok (.bl true) h') :
    spI K mg 1 fn [.ref a] H (fun v _ => v = .bl true) fun _ _ _ => False := by
  obtain ⟨h', e⟩ := ok
  have hr : ∀ w : Wd, ∀ ns : List Int, Reps K mg w (ns.map D.int) (ns.map V.int) := fun w ns => by
    induction ns with
    | nil => exact .nil
    | cons n ns ih => exact .cons (.int n) ih
  refine ⟨⟨[], H⟩, [], [.seq (ns.map D.int)], rfl, ⟨Ex.refl _, rfl, fun n a o e => ?_, fun i j a e => ?_, fun n a o e => ?_⟩, .cons (.seq hS (hr _ ns)) .nil, ?_⟩
  · simp at e
  · simp at e
  · simp at e
  · rw [e]
    intro w' H' v st L r
    cases r
    rfl
end Pd

namespace Pd
open PySem L2 Evl
section
variable {ι : Type} {Z : Cz} {Y : ι → Cy} {W : WX}
def iSq (K : PySem.W.Frag) (tl : TE) : L2.TI := fun σ H R => tl σ H fun x H1 => ∃ a, x = .ref a ∧ (((∃ xs, SqL K H1 a xs) ∧ R (Itl K a) H1) ∨ ((∃ xs, SqT K H1 a xs) ∧ R (Itt K a) H1))
theorem pi_sq {X : Cx} {tg l : Expr} {tl : TE} (hl : PE X l tl) : PI X tg l (iSq X.K tl) := by
  refine ⟨fun pins s σ H R I h => ?_⟩
  refine thn (hl.run pins s σ H _ I h) fun v s1 ⟨x, H1, I1, r1, q1⟩ => ?_
  obtain ⟨a, e, q1⟩ := q1
  subst e
  cases r1
  rcases q1 with ⟨⟨xs, hq⟩, q⟩ | ⟨⟨xs, hq⟩, q⟩
  · obtain ⟨its, rv, p, hz⟩ := I1.list hq
    refine wpAny_pyIter_list p.isList ?_
    refine ⟨s1.heap.objs.size, [s1.heap.objs.size], _, _, H1, rfl, I1.kept (t' := s1.toks) fun b o e => Heap.get?_push_of_some _ e, turn_list a _, ⟨_, Heap.get?_push_size _ rfl, rfl, rfl⟩, fun b hb => ?_, q⟩
    have e : b = s1.heap.objs.size := by simpa using hb
    subst e
    exact I1.fpOk (Nat.le_refl _) (I1.hok.fresh (Nat.le_refl _))
  · obtain ⟨its, rv, p, hz⟩ := I1.tuple hq
    refine wpAny_pyIter_tuple (show s1.heap.IsTuple a its.toArray from p) ?_
    refine ⟨s1.heap.objs.size, [s1.heap.objs.size], _, _, H1, rfl, I1.kept (t' := s1.toks) fun b o e => Heap.get?_push_of_some _ e, turn_tuple a _, ⟨_, Heap.get?_push_size _ rfl, rfl, rfl⟩, fun b hb => ?_, q⟩
    have e : b = s1.heap.objs.size := by simpa using hb
    subst e
    exact I1.fpOk (Nat.le_refl _) (I1.hok.fresh (Nat.le_refl _))
def iSeq (f : SE) : SIt := fun e h => (f e h).bind fun a h1 => match a with
  | .lst xs => .ok xs h1
  | .seq xs => .ok xs h1
  | .tup xs => .ok xs h1
  | _ => .bad
theorem ii_seq {tg l : Expr} {f : SE} (hf : EI Z Y W l f) : II Z Y W tg l (iSeq f) := by
  obtain ⟨t, p, s⟩ := hf
  refine ⟨iSq Z.K t, fun i => pi_sq (X := cx Z (Y i)) (p i), fun σ e w h H Q E L hp => s σ e w h H _ E L (Po.bind (Rp := Rep Z.K Z.mg) hp fun a h1 w1 H1 x _ st1 L1 r1 hp1 => ?_)⟩
  have key : ∀ (a1 : Addr) (xs : List D) (vs : List V), SqL Z.K w1.G a1 vs → Reps Z.K Z.mg w1 xs vs → PoI Z.K Z.mg W σ w1 H1 (.ok xs h1) Q → ∃ a, (V.ref a1) = V.ref a ∧ (((∃ xs, SqL Z.K H1 a xs) ∧ Q (Itl Z.K a) H1) ∨ ((∃ xs, SqT Z.K H1 a xs) ∧ Q (Itt Z.K a) H1)) := fun a1 xs vs q r hq =>
    ⟨a1, rfl, .inl ⟨⟨vs, ex_l L1.ex q⟩, hq w1 H1 _ (Step.refl _ _) L1 ⟨fun w' h' H' i d le L e => by
      obtain ⟨v, hv, rv⟩ := r.get e
      have s := ex_l L.ex (ex_l le.ex q)
      refine ⟨⟨vs, v, s, hv⟩, fun x H'' y => ?_⟩
      obtain ⟨rfl, y⟩ := y
      have z := y vs s
      rw [hv] at z
      cases z
      exact ⟨w', Step.refl _ _, L, rv.mono le⟩, fun w' h' H' i le L hl => ⟨vs, ex_l L.ex (ex_l le.ex q), by rw [← r.length]; exact hl⟩⟩⟩⟩
  cases r1 with
  | lst q r => exact key _ _ _ (.inl (.inl q)) r hp1
  | seq q r => exact key _ _ _ q r hp1
  | @tup a1 vs xs q r =>
    exact ⟨_, rfl, .inr ⟨⟨_, SqT.ex L1 q.sq⟩, hp1 w1 H1 _ (Step.refl _ _) L1 ⟨fun w' h' H' i d le L e => by
      obtain ⟨v, hv, rv⟩ := r.get e
      have s := ex_t L.ex (ex_t le.ex q.sq)
      refine ⟨⟨vs, v, s, hv⟩, fun x H'' y => ?_⟩
      obtain ⟨rfl, y⟩ := y
      have z := y vs s
      rw [hv] at z
      cases z
      exact ⟨w', Step.refl _ _, L, rv.mono le⟩, fun w' h' H' i le L hl => ⟨vs, ex_t L.ex (ex_t le.ex q.sq), by rw [← r.length]; exact hl⟩⟩⟩⟩
  | _ => exact hp1.elim
def frzD (d : D) (h : Ph) : D × Ph := match d with
  | .ref n => match h[n]? with
    | some (.lst xs) => (.lst xs, h.set n .dead)
    | _ => (.ref n, h)
  | d => (d, h)
theorem frzD_ok {K : PySem.W.Frag} {mg : Str → Option Value} {w : Wd} {h : Ph} {H : Hp} {d : D} {v : V} (L : Lk K mg w h H) (r : Rep K mg w d v) : ∃ w', Step w H w' H ∧ Lk K mg w' (frzD d h).2 H ∧ Rep K mg w' (frzD d h).1 v := by
  cases r with
  | @ref n a q =>
    obtain ⟨o, u, h1, h2, r'⟩ := L.there q
    unfold frzD
    simp only [h1]
    cases r' with
    | lst r' =>
      obtain ⟨l1, l2, l3⟩ := L.frz q h1 (by intro z; cases z) h2
      exact ⟨_, l2, l1, .lst upd_same (r'.mono l3)⟩
    | _ => exact ⟨w, Step.refl _ _, L, .ref q⟩
  | non => exact ⟨w, Step.refl _ _, L, .non⟩
  | bl b => exact ⟨w, Step.refl _ _, L, .bl b⟩
  | int b => exact ⟨w, Step.refl _ _, L, .int b⟩
  | str b => exact ⟨w, Step.refl _ _, L, .str b⟩
  | tup q r => exact ⟨w, Step.refl _ _, L, .tup q r⟩
  | lst q r => exact ⟨w, Step.refl _ _, L, .lst q r⟩
  | seq q r => exact ⟨w, Step.refl _ _, L, .seq q r⟩
  | glo q => exact ⟨w, Step.refl _ _, L, .glo q⟩
  | ty n => exact ⟨w, Step.refl _ _, L, .ty n⟩
  | dcK q e r => exact ⟨w, Step.refl _ _, L, .dcK q e r⟩
  | dcT q e r => exact ⟨w, Step.refl _ _, L, .dcT q e r⟩
  | obj q e f r => exact ⟨w, Step.refl _ _, L, .obj q e f r⟩
def sFrz (f : SE) : SE := fun e h => (f e h).bind fun d h1 => .ok (frzD d h1).1 (frzD d h1).2
theorem ei_frz {e : Expr} {f : SE} (hf : EI Z Y W e f) : EI Z Y W e (sFrz f) := by
  obtain ⟨t, p, s⟩ := hf
  refine ⟨t, p, fun σ e w h H Q E L hp => s σ e w h H _ E L (Po.bind (Rp := Rep Z.K Z.mg) hp fun a h1 w1 H1 x _ st1 L1 r1 hp1 => ?_)⟩
  obtain ⟨w2, st2, L2', r2⟩ := frzD_ok L1 r1
  exact hp1 w2 H1 x st2 L2' r2
def sDict0 : SE := fun _ h => .ok (.ref h.length) (h ++ [.dK []])
def sDict0T : SE := fun _ h => .ok (.ref h.length) (h ++ [.dT []])
theorem ei_dict0 {pos : Pos} : EI Z Y W (.Dict [] [] pos) sDict0 := ⟨_, fun _ => pe_dnewK, fun σ e w h H Q E L hp p np => po_newO L np (.dK .nil) hp⟩
theorem ei_dict0T {pos : Pos} : EI Z Y W (.Dict [] [] pos) sDict0T := ⟨_, fun _ => pe_dnewT, fun σ e w h H Q E L hp p np => po_newO L np (.dT .nil) hp⟩
def onLst (d : D) (h : Ph) (k : Nat → List D → R D) : R D := match d with
  | .ref n => match h[n]? with
    | some (.lst xs) => k n xs
    | _ => .bad
  | _ => .bad
def sMeth1 (g : D → D → Ph → R D) (fo : SE) (fa : SE) : SE := fun e h => (fo e h).bind fun o h1 => R.opt (lsOf o h1) fun _ => (fa e h1).bind fun a h2 => g o a h2
def dAppend (o a : D) (h : Ph) : R D := onLst o h fun n xs => if xs.length < mostL then .ok .non (h.set n (.lst (xs ++ [a]))) else .bad
theorem onLst_ok {K : PySem.W.Frag} {mg : Str → Option Value} {w : Wd} {H : Hp} {h : Ph} {σ : St} (L : Lk K mg w h H) {d : D} {v : V} {k : Nat → List D → R D} {Q : VK} (r : Rep K mg w d v) (hp : PoE K mg W σ w H (onLst d h k) Q) :
    ∃ n a xs vs, d = .ref n ∧ v = .ref a ∧ w.ms[n]? = some a ∧ h[n]? = some (.lst xs) ∧ H a = some (.lst vs) ∧ Reps K mg w xs vs ∧ PoE K mg W σ w H (k n xs) Q := by
  unfold onLst at hp
  cases r with
  | @ref n a q =>
    obtain ⟨o, u, h1, h2, r'⟩ := L.there q
    simp only [h1] at hp
    cases r' with
    | @lst xs vs r' => exact ⟨n, a, xs, vs, rfl, rfl, q, h1, h2, r', hp⟩
    | _ => exact hp.elim
  | _ => exact hp.elim
theorem po_put {K : PySem.W.Frag} {mg : Str → Option Value} {w : Wd} {H : Hp} {h : Ph} {σ : St} (L : Lk K mg w h H) {n : Nat} {a : Addr} {xs ys : List D} {us : List V} {d : D} {v : V} {Q : VK} (q : w.ms[n]? = some a) (h1 : h[n]? = some (.lst xs)) (r : Reps K mg w ys us) (rd : Rep K mg w d v)
    (hp : PoE K mg W σ w H (.ok d (h.set n (.lst ys))) Q) : Q v (upd H a (.lst us)) := by
  obtain ⟨l1, l2⟩ := L.put q h1 (by intro z; cases z) _ _ (.lst r)
  exact hp w _ v l2 l1 rd
theorem ei_append {o a : Expr} {fo fa : SE} {apos cpos : Pos} (ho : EI Z Y W o fo) (ha : EI Z Y W a fa) (hb : ∀ i, attributeBase o "append" (Y i).env (eval o (Y i).env) = eval o (Y i).env := by intro _; rfl)
    (hfew : ∀ i, ((backTo cpos (starEach [a] (Y i).env)).all (fun x => !x.1) && (backToKw cpos (keywordEach [] (Y i).env)).all (fun x => x.1.isSome)
      && decide (([a] : List Expr).length + ([] : List Keyword).length + (if ([] : List Keyword).isEmpty then 0 else 1) < 30)) = true := by intro _; rfl)
    (hline : (apos.endLine == cpos.line) = true := by rfl) (hs : ∀ i, starEach [a] (Y i).env = (false, eval a (Y i).env) :: starEach [] (Y i).env := by intro _; rfl) (hpl : ∀ i, (backTo cpos (starEach [] (Y i).env)).any (·.1) = false := by intro _; rfl) :
    EI Z Y W (.Call (.Attribute o "append" apos) [a] [] cpos) (sMeth1 dAppend fo fa) := by
  obtain ⟨to, po, so⟩ := ho
  obtain ⟨ta, pa, sa⟩ := ha
  refine ⟨tBM Z.K "list" rAppend to (tCons ta tNil), fun i => pe_bm (X := cx Z (Y i)) PySem.F.plainAttrs_list PySem.F.slot_list_append PySem.F.type_list_append mt_append (po i) (pa_cons (pa i) pa_nil (hs i)) (hb i) (hfew i) hline (hs i) (hpl i), fun σ e w h H Q E L hp => so σ e w h H _ E L (Po.bind (Rp := Rep Z.K Z.mg) hp fun o1 h1 w1 H1 x _ st1 L1 r1 hp1 => ?_)⟩
  obtain ⟨xs, e1, hp1⟩ := Po.some hp1
  obtain ⟨a1, vs, rfl, hl, rl⟩ := lsOf_ok L1 e1 r1
  refine ⟨.inl ⟨rfl, vs, .inl (.inl hl)⟩, sa σ e w1 h1 H1 _ (E.mono st1.le) L1 (Po.bind (Rp := Rep Z.K Z.mg) hp1 fun a h2 w2 H2 y _ st2 L2 r2 hp2 => ?_)⟩
  obtain ⟨n, a2, ys, us, rfl, e2, q, k1, k2, k3, hp2⟩ := onLst_ok L2 (r1.mono st2.le) hp2
  cases e2
  obtain ⟨hlt, hp2⟩ := Po.ite hp2
  exact ⟨a1, us, y, rfl, rfl, k2, by rw [← k3.length, ← mostL_eq]; exact hlt, po_put L2 q k1 (k3.append (.cons r2 .nil)) .non hp2⟩
def sSetL (f fo fi : SE) : SS := fun e h => (f e h).toF e fun x h1 => (fo e h1).toF e fun o h2 => (fi e h2).toF e fun i h3 => match setIx o i x h3 with
  | .ok _ h4 => .nx e h4
  | _ => .bad
theorem si_setL {o i v : Expr} {f fo fi : SE} {p2 pos : Pos} (hf : EI Z Y W v f) (ho : EI Z Y W o fo) (hi : EI Z Y W i fi) (hs : ∀ j, swapsWithSole [.Subscript o i p2] v pos.line (Y j).env = pure false := by intro _; rfl) (hw : ∀ j, swappedStores [.Subscript o i p2] v (Y j).env = pure none := by intro _; rfl)
    (h1 : ∀ j, (assignEach [.Subscript o i p2] (Y j).env).map (·.2) = [assign (.Subscript o i p2) (Y j).env] := by intro _; rfl)
    (ha : ∀ j v, assign (.Subscript o i p2) (Y j).env v = (do
      let ov ← holding [v] (eval o (Y j).env)
      let iv ← holding [v, ov] (eval i (Y j).env)
      standAt p2
      holding [v, ov, iv] (setItem ov iv v)
      release [v, ov, iv] []) := by intro _ _; rfl) : SI Z Y W (.Assign [.Subscript o i p2] v pos) (sSetL f fo fi) := by
  obtain ⟨tv, pv', sv⟩ := hf
  obtain ⟨to, po, so⟩ := ho
  obtain ⟨ti, pi, si⟩ := hi
  refine ⟨_, fun j => ps_asg (X := cx Z (Y j)) (pv' j) (pg_sub (X := cx Z (Y j)) (po j) (pi j) set_list (ha j)) (hs j) (hw j) (h1 j), fun σ e w h H D E L hp => sv σ e w h H _ E L (Po.toF (Rp := Rep Z.K Z.mg) E hp fun x h1 w1 H1 xv _ st1 L1 r1 hp1 =>
    so σ e w1 h1 H1 _ (E.mono st1.le) L1 (Po.toF (Rp := Rep Z.K Z.mg) (E.mono st1.le) hp1 fun o1 h2 w2 H2 ov _ st2 L2 r2 hp2 => si σ e w2 h2 H2 _ (E.mono (st1.le.trans st2.le)) L2 (Po.toF (Rp := Rep Z.K Z.mg) (E.mono (st1.le.trans st2.le)) hp2 fun i1 h3 w3 H3 iv _ st3 L3 r3 hp3 => ?_)))⟩
  unfold setIx at hp3
  cases r3 with
  | int k =>
    have r2' := r2.mono st3.le
    cases r2' with
    | @ref n a q =>
      obtain ⟨o, u, k1, k2, r'⟩ := L3.there q
      simp only [k1] at hp3
      cases r' with
      | @lst xs vs r' =>
        simp only at hp3
        cases z : ixN xs.length k with
        | none => simp only [z] at hp3; exact hp3.elim
        | some j =>
          simp only [z] at hp3
          refine ⟨a, vs, k, j, rfl, rfl, k2, by rw [← r'.length]; exact z, ?_⟩
          obtain ⟨l1, l2⟩ := L3.put q k1 (by intro z; cases z) _ _ (.lst (r'.set (r1.mono (st2.le.trans st3.le)) j))
          exact hp3 w3 _ σ l2 l1 (E.mono ((st1.le.trans st2.le).trans st3.le))
      | _ => exact hp3.elim
    | _ => exact hp3.elim
  | _ => cases o1 <;> exact hp3.elim
end
def D.bel (m : Nat) : D → Bool
  | .ref n => decide (n < m)
  | .tup xs => bels m xs
  | .lst xs => bels m xs
  | .seq xs => bels m xs
  | .dcK _ xs => bels m xs
  | .dcT _ xs => bels m xs
  | .obj _ xs => bels m xs
  | _ => true
where bels (m : Nat) : List D → Bool
  | [] => true
  | x :: r => x.bel m && bels m r
def bel2 {κ : Type} (m : Nat) : List (κ × D) → Bool
  | [] => true
  | x :: r => x.2.bel m && bel2 m r
def belS (m : Nat) : List (Option D) → Bool
  | [] => true
  | none :: r => belS m r
  | some x :: r => x.bel m && belS m r
def PO.bel (m : Nat) : PO → Bool
  | .slt _ k vs => decide (k < m) && belS m vs
  | .dxo _ => true
  | .lst xs => D.bel.bels m xs
  | .dK kvs => bel2 m kvs
  | .dT kvs => bel2 m kvs
  | .ins _ fs => bel2 m fs
  | .tab _ => true
  | .sti _ => true
  | .rng _ _ => true
  | .dead => true
section
variable {K : PySem.W.Frag} {mg : Str → Option Value} {w : Wd}
mutual
theorem Rep.cut {m : Nat} : ∀ {d : D} {v : V}, d.bel m = true → Rep K mg w d v → Rep K mg ⟨w.ms.take m, w.G⟩ d v
  | _, _, _, .non => .non
  | _, _, _, .bl b => .bl b
  | _, _, _, .int b => .int b
  | _, _, _, .str b => .str b
  | _, _, h, .tup q r => .tup q (Reps.cut (by simpa only [D.bel] using h) r)
  | _, _, h, .lst q r => .lst q (Reps.cut (by simpa only [D.bel] using h) r)
  | _, _, h, .seq q r => .seq q (Reps.cut (by simpa only [D.bel] using h) r)
  | .ref n, _, h, .ref q => .ref (by
    have hn : n < m := by simpa [D.bel] using h
    rw [List.getElem?_take_of_lt hn]
    exact q)
  | _, _, _, .glo q => .glo q
  | _, _, _, .ty n => .ty n
  | _, _, h, .dcK q e r => .dcK q e (Reps.cut (by simpa only [D.bel] using h) r)
  | _, _, h, .dcT q e r => .dcT q e (Reps.cut (by simpa only [D.bel] using h) r)
  | _, _, h, .obj q e f r => .obj q e f (Reps.cut (by simpa only [D.bel] using h) r)
theorem Reps.cut {m : Nat} : ∀ {d : List D} {v : List V}, D.bel.bels m d = true → Reps K mg w d v → Reps K mg ⟨w.ms.take m, w.G⟩ d v
  | _, _, _, .nil => .nil
  | _, _, h, .cons q r => by
    have h' := h
    simp only [D.bel.bels, Bool.and_eq_true] at h'
    exact .cons (Rep.cut h'.1 q) (Reps.cut h'.2 r)
end
theorem RepF.cut {m : Nat} : ∀ {d : List (Str × D)} {v : List (Str × V)}, bel2 m d = true → RepF K mg w d v → RepF K mg ⟨w.ms.take m, w.G⟩ d v
  | _, _, _, .nil => .nil
  | _, _, h, .cons q r => by
    have h' := h
    simp only [bel2, Bool.and_eq_true] at h'
    exact .cons (Rep.cut h'.1 q) (RepF.cut h'.2 r)
theorem RepK.cut {κ : Type} {m : Nat} : ∀ {d : List (κ × D)} {v : List (κ × V)}, bel2 m d = true → RepK K mg w d v → RepK K mg ⟨w.ms.take m, w.G⟩ d v
  | _, _, _, .nil => .nil
  | _, _, h, .cons q r => by
    have h' := h
    simp only [bel2, Bool.and_eq_true] at h'
    exact .cons (Rep.cut h'.1 q) (RepK.cut h'.2 r)
theorem RepS.cut {m : Nat} : ∀ {d : List (Option D)} {v : List (Option V)}, belS m d = true → RepS K mg w d v → RepS K mg ⟨w.ms.take m, w.G⟩ d v
  | _, _, _, .nil => .nil
  | _, _, h, .non r => .non (RepS.cut (by simpa only [belS] using h) r)
  | _, _, h, .som q r => by
    have h' := h
    simp only [belS, Bool.and_eq_true] at h'
    exact .som (q.cut h'.1) (RepS.cut h'.2 r)
theorem RepO.cut {m : Nat} {a : Addr} {o : PO} {u : HO} (h : o.bel m = true) (r : RepO K mg w a o u) : RepO K mg ⟨w.ms.take m, w.G⟩ a o u := by
  cases r with
  | lst r => exact .lst (r.cut h)
  | dK r => exact .dK (r.cut h)
  | dT r => exact .dT (r.cut h)
  | ins q r => exact .ins q (r.cut h)
  | sl0 q1 q2 =>
    have h' := h
    simp only [PO.bel, Bool.and_eq_true, decide_eq_true_eq] at h'
    exact .sl0 q1 (by rw [List.getElem?_take_of_lt h'.1]; exact q2)
  | slt q1 q2 q3 r =>
    have h' := h
    simp only [PO.bel, Bool.and_eq_true, decide_eq_true_eq] at h'
    exact .slt q1 (by rw [List.getElem?_take_of_lt h'.1]; exact q2) q3 (r.cut h'.2)
  | dx0 z => exact .dx0 z
  | dx1 => exact .dx1
  | tab e hq => exact .tab e hq
  | tbg e g hq => exact .tbg e g hq
  | sti h1 h2 => exact .sti h1 h2
  | rng => exact .rng
  | dead => exact .dead
theorem Lk.cut {h g : Ph} {H : Hp} (L : Lk K mg w (h ++ g) H) (hb : ∀ o ∈ h, o.bel h.length = true) : Lk K mg ⟨w.ms.take h.length, w.G⟩ h H := by
  have at_ : ∀ {n : Nat} {a : Addr}, (w.ms.take h.length)[n]? = some a → n < h.length ∧ w.ms[n]? = some a := fun {n a} e => by
    have hn := (List.getElem?_eq_some_iff.mp e).1
    rw [List.length_take] at hn
    have h1 : n < h.length := by omega
    rw [List.getElem?_take_of_lt h1] at e
    exact ⟨h1, e⟩
  refine ⟨L.ex, ?_, fun n a o e1 e2 => ?_, fun i j a e1 e2 => L.inj i j a (at_ e1).2 (at_ e2).2, fun n a o e1 e2 e3 => ?_⟩
  · show (w.ms.take h.length).length = h.length
    rw [List.length_take, L.len, List.length_append]
    omega
  · obtain ⟨h1, q⟩ := at_ e1
    obtain ⟨u, hu, r⟩ := L.obj n a o q (by rw [List.getElem?_append_left h1]; exact e2)
    exact ⟨u, hu, r.cut (hb o (List.mem_of_getElem? e2))⟩
  · obtain ⟨h1, q⟩ := at_ e1
    exact L.out n a o q (by rw [List.getElem?_append_left h1]; exact e2) e3
theorem RepX.cut {m : Nat} {c : Str} {fs : Option (List (Str × D))} {C : Value} {d : Option Addr} (hb : ∀ l, fs = some l → bel2 m l = true) (r : RepX K mg w c fs C d) : RepX K mg ⟨w.ms.take m, w.G⟩ c fs C d := by
  cases r with
  | plain q => exact .plain q
  | kept q1 q2 q3 => exact .kept q1 q2 (q3.cut (hb _ rfl))
mutual
theorem Rep.bel : ∀ {d : D} {v : V}, Rep K mg w d v → d.bel w.ms.length = true
  | _, _, .non => rfl
  | _, _, .bl b => rfl
  | _, _, .int b => rfl
  | _, _, .str b => rfl
  | _, _, .tup q r => by simpa only [D.bel] using Reps.bel r
  | _, _, .lst q r => by simpa only [D.bel] using Reps.bel r
  | _, _, .seq q r => by simpa only [D.bel] using Reps.bel r
  | .ref n, _, .ref q => by simpa [D.bel] using (List.getElem?_eq_some_iff.mp q).1
  | _, _, .glo q => rfl
  | _, _, .ty n => rfl
  | _, _, .dcK q e r => by simpa only [D.bel] using Reps.bel r
  | _, _, .dcT q e r => by simpa only [D.bel] using Reps.bel r
  | _, _, .obj q e f r => by simpa only [D.bel] using Reps.bel r
theorem Reps.bel : ∀ {d : List D} {v : List V}, Reps K mg w d v → D.bel.bels w.ms.length d = true
  | _, _, .nil => rfl
  | _, _, .cons q r => by
    simp only [D.bel.bels, Bool.and_eq_true]
    exact ⟨Rep.bel q, Reps.bel r⟩
end
theorem RepF.bel : ∀ {d : List (Str × D)} {v : List (Str × V)}, RepF K mg w d v → bel2 w.ms.length d = true
  | _, _, .nil => rfl
  | _, _, .cons q r => by
    simp only [bel2, Bool.and_eq_true]
    exact ⟨Rep.bel q, RepF.bel r⟩
theorem RepK.bel {κ : Type} : ∀ {d : List (κ × D)} {v : List (κ × V)}, RepK K mg w d v → bel2 w.ms.length d = true
  | _, _, .nil => rfl
  | _, _, .cons q r => by
    simp only [bel2, Bool.and_eq_true]
    exact ⟨Rep.bel q, RepK.bel r⟩
theorem RepS.bel : ∀ {d : List (Option D)} {v : List (Option V)}, RepS K mg w d v → belS w.ms.length d = true
  | _, _, .nil => rfl
  | _, _, .non r => by simpa only [belS] using RepS.bel r
  | _, _, .som q r => by
    simp only [belS, Bool.and_eq_true]
    exact ⟨q.bel, RepS.bel r⟩
theorem RepO.bel {a : Addr} {o : PO} {u : HO} (r : RepO K mg w a o u) : o.bel w.ms.length = true := by
  cases r with
  | lst r => exact r.bel
  | dK r => exact r.bel
  | dT r => exact r.bel
  | ins _ r => exact r.bel
  | sl0 _ q =>
    have := (List.getElem?_eq_some_iff.mp q).1
    simp only [PO.bel, Bool.and_eq_true, decide_eq_true_eq]
    exact ⟨this, rfl⟩
  | slt _ q _ r =>
    have := (List.getElem?_eq_some_iff.mp q).1
    simp only [PO.bel, Bool.and_eq_true, decide_eq_true_eq]
    exact ⟨this, r.bel⟩
  | dx0 _ => rfl
  | dx1 => rfl
  | tab _ _ => rfl
  | tbg _ _ _ => rfl
  | sti _ _ => rfl
  | rng => rfl
  | dead => rfl
theorem Lk.bel {h : Ph} {H : Hp} (L : Lk K mg w h H) : ∀ o ∈ h, o.bel h.length = true := fun o ho => by
  obtain ⟨n, hn⟩ := List.getElem?_of_mem ho
  have hl := (List.getElem?_eq_some_iff.mp hn).1
  have e : w.ms[n]? = some (w.ms[n]'(by rw [L.len]; exact hl)) := by simp
  obtain ⟨u, _, r⟩ := L.obj n _ o e hn
  rw [← L.len]
  exact r.bel
end
def Tells (n : Nat) (fn fn' : Fn) : Prop := ∀ (as : List D) (h : Ph), as.length = n → (∀ o ∈ h, o.bel h.length = true) → (∀ a ∈ as, a.bel h.length = true) → match fn' as h with
  | .ok d h' => ∃ g, fn as h = .ok d (h' ++ g) ∧ h'.length = h.length ∧ d.bel h.length = true ∧ ∀ o ∈ h', o.bel h.length = true
  | .exc c fs h' => ∃ g, fn as h = .exc c fs (h' ++ g) ∧ h'.length = h.length ∧ (∀ l, fs = some l → bel2 h.length l = true) ∧ ∀ o ∈ h', o.bel h.length = true
  | .bad => True
theorem bels_mem {m : Nat} : ∀ {as : List D}, D.bel.bels m as = true → ∀ a ∈ as, a.bel m = true
  | [], _, _, ha => nomatch ha
  | x :: r, h, a, ha => by
    have h' := h
    simp only [D.bel.bels, Bool.and_eq_true] at h'
    rcases List.mem_cons.mp ha with q | q
    · rw [q]; exact h'.1
    · exact bels_mem h'.2 a q
theorem step_cut {w w' : Wd} {H H' : Hp} (st : Step w H w' H') : Step w H ⟨w'.ms.take w.ms.length, w'.G⟩ H' := by
  obtain ⟨⟨⟨l, e⟩, ex⟩, frm, newM, newG⟩ := st
  have et : w'.ms.take w.ms.length = w.ms := by rw [e, List.take_left']; rfl
  exact ⟨⟨⟨[], by rw [List.append_nil]; exact et⟩, ex⟩, frm, fun a h => .inl (by have h : a ∈ w'.ms.take w.ms.length := h; rw [et] at h; exact h), newG⟩
theorem Def.tells {B : Cb} {k : Nat} {x : Str} {n : Nat} {fn fn' : Fn} (d : Def B k x n fn) (t : Tells n fn fn') : Def B k x n fn' := by
  obtain ⟨a, fd, ps, F, hm, hk, hb⟩ := d.ex
  refine ⟨a, fd, ps, F.imp fun vs H Q E h => ?_, hm, hk, hb⟩
  obtain ⟨w, h, as, el, L, r, hp⟩ := h
  refine ⟨w, h, as, el, L, r, ?_⟩
  have q := t as h (by rw [r.length]; exact el) L.bel (by rw [← L.len]; exact bels_mem r.bel)
  cases z : fn' as h with
  | ok d h' =>
    rw [z] at q hp
    obtain ⟨g, e1, e2, e3, e4⟩ := q
    rw [e1]
    intro w' H' v st L' r'
    have e5 : h'.length = w.ms.length := by rw [e2, L.len]
    have L2' := L'.cut (by rw [e2]; exact e4)
    rw [e5] at L2'
    refine hp ⟨w'.ms.take w.ms.length, w'.G⟩ H' v (step_cut st) L2' ?_
    have := r'.cut e3
    rw [← L.len] at this
    exact this
  | exc c fs h' =>
    rw [z] at q hp
    obtain ⟨g, e1, e2, e3, e4⟩ := q
    rw [e1]
    intro w' H' C dd st L' r'
    have e5 : h'.length = w.ms.length := by rw [e2, L.len]
    have L2' := L'.cut (by rw [e2]; exact e4)
    rw [e5] at L2'
    refine hp ⟨w'.ms.take w.ms.length, w'.G⟩ H' C dd (step_cut st) L2' ?_
    have := r'.cut e3
    rw [← L.len] at this
    exact this
  | bad => rw [z] at hp; exact hp.elim
end Pd

namespace Pd
open PySem L2 Evl PyProof.Rows
section
variable {ι : Type} {Z : Cz} {Y : ι → Cy} {W : WX}
def sChain3 (g g' g'' : D → D → Ph → R D) (fa fb fc fd : SE) : SE := fun e h => (fa e h).bind fun a h1 => (fb e h1).bind fun b h2 => (g a b h2).bind fun z h3 => z.br ((fc e h3).bind fun c h4 => (g' b c h4).bind fun z' h5 => z'.br ((fd e h5).bind fun d h6 => g'' c d h6) (.ok (.bl false) h5)) (.ok (.bl false) h3)
def sPar3 (i j l : Nat) (f : SA) : SS := fun e h => (f e h).toF e fun xs h1 => match xs with
  | [x, y, z] => .nx (((e.set i (some x)).set j (some y)).set l (some z)) h1
  | _ => .bad
theorem si_par3 {i j l : Nat} {x y z : Str} {a b c : Expr} {f : SA} {px py pz pt pt2 pos : Pos} {kt k2} (hc : ∀ i, (Y i).calm = true) (hN : Z.N.Nodup) (hi : Z.N[i]? = some x) (hj : Z.N[j]? = some y) (hl : Z.N[l]? = some z) (hij : i ≠ j) (hil : i ≠ l) (hjl : j ≠ l)
    (hx : ∀ i, (Y i).env.scope.names.lookup x = some .local) (hy : ∀ i, (Y i).env.scope.names.lookup y = some .local) (hz : ∀ i, (Y i).env.scope.names.lookup z = some .local) (ha : AI Z Y W [a, b, c] f)
    (hw : ∀ i, swappedStores [.Tuple [.Name x px, .Name y py, .Name z pz] kt pt] (.Tuple [a, b, c] k2 pt2) (Y i).env = pure (some [x, y, z]))
    (hs : ∀ i, swapsWithSole [.Tuple [.Name x px, .Name y py, .Name z pz] kt pt] (.Tuple [a, b, c] k2 pt2) pos.line (Y i).env = pure false := by intro _; rfl) :
    SI Z Y W (.Assign [.Tuple [.Name x px, .Name y py, .Name z pz] kt pt] (.Tuple [a, b, c] k2 pt2) pos) (sPar3 i j l f) := by
  obtain ⟨ta, pa, sa⟩ := ha
  refine ⟨_, fun q => ps_par3 (X := cx Z (Y q)) (hc q) hN hi hj hl hij hil hjl (hx q) (hy q) (hz q) (pa q) (hw q) (hs q), fun σ e w h H D E L hp => sa σ e w h H _ E L (Po.toF (Rp := Reps Z.K Z.mg) E hp fun xs h1 w1 H1 v _ st1 L1 r1 hp1 => ?_)⟩
  split at hp1
  · cases r1 with
    | cons q0 r1 =>
      obtain ⟨u1, u2, rfl, q1, q2⟩ := r1.two
      exact ⟨_, u1, u2, rfl, hp1 w1 H1 _ (Step.refl _ _) L1 ((((E.mono st1.le).set q0 i).set q1 j).set q2 l)⟩
  · exact hp1.elim
end
theorem fn_cx0 {P : Program} {w : World} {K : PySem.W.Frag} {mg : Str → Option Value} {base : Heap} {k : Nat} {f : Addr} {fd : FuncData} {ps : List Str} {sp : Sp} (F : FnOk P w K mg base (L2.CX P w) k f fd ps sp) :
    FnOk P w K mg base CX0 k f fd ps (fun vs H Q _ => sp vs H Q fun _ _ _ => False) := by
  refine ⟨fun vs H Q E h => F.len _ _ _ _ h, fun A outer s H args us vs Q E hr he hb hv hs => codeAny_mono (F.run A outer s H args us vs Q _ hr he hb hv hs) fun r s' hq => ?_⟩
  cases r with
  | error e =>
    obtain ⟨_, _, _, _, _, _, _, _, _, _, _, _, z⟩ := hq
    exact z.elim
  | ok fl =>
    cases fl with
    | ret u => exact hq
    | _ => exact hq.elim
theorem ei_fold {ι : Type} {Z : Cz} {Y : ι → Cy} {W : WX} {e : Expr} {f g : SE} (h : EI Z Y W e f) (q : f = g) : EI Z Y W e g := q ▸ h
def FU : Nat := 10 ^ 200
end Pd

namespace Pd
open PySem L2 Evl
abbrev ScO := Pe → Ph → R (Option Int)
def RpI (_ : Wd) (a b : Option Int) : Prop := a = b
abbrev PoO (K : PySem.W.Frag) (mg : Str → Option Value) := Po (α := Option Int) (β := Option Int) K mg RpI
def SnO (K : PySem.W.Frag) (mg : Str → Option Value) (W : WX) (t : TO) (f : ScO) : Prop := ∀ (σ : St) (e : Pe) (w : Wd) (h : Ph) (H : Hp) (Q : Option Int → Hp → Prop), En K mg w e σ → Lk K mg w h H → PoO K mg W σ w H (f e h) Q → t σ H Q
def cutD (xs : List D) (lo hi : Option Int) : List D := (xs.drop (HT.sIx xs.length 0 lo)).take (HT.sIx xs.length xs.length hi - HT.sIx xs.length 0 lo)
def dSl (a : D) (lo hi : Option Int) (h : Ph) : R D := match a with
  | .tup xs => .ok (.tup (cutD xs lo hi)) h
  | .str z => if z.length ≤ mostL then .ok (.str (Txt.slice z lo hi)) h else .bad
  | a => R.opt (lstOf a h) fun xs => .ok (.lst (cutD xs lo hi)) h
def oNo : ScO := fun _ h => .ok none h
def oPart (f : SE) : ScO := fun e h => (f e h).bind fun a h1 => match a with
  | .int i => .ok (some i) h1
  | _ => .bad
def sSl (g : D → Option Int → Option Int → Ph → R D) (f : SE) (lo hi : ScO) : SE := fun e h => (f e h).bind fun a h1 => (lo e h1).bind fun l h2 => (hi e h2).bind fun u h3 => g a l u h3
theorem Reps.cut2 {K : PySem.W.Frag} {mg : Str → Option Value} {w : Wd} {xs : List D} {vs : List V} (r : Reps K mg w xs vs) (lo hi : Option Int) : Reps K mg w (cutD xs lo hi) (cutV vs lo hi) := by
  unfold cutD cutV
  rw [r.length]
  exact Reps.take _ (Reps.drop _ r)
theorem cutD_whole {xs : List D} {lo hi : Option Int} (h : HT.sIx xs.length 0 lo = 0 ∧ HT.sIx xs.length xs.length hi = xs.length) : cutD xs lo hi = xs := by
  unfold cutD
  rw [h.1, h.2, List.drop_zero, Nat.sub_zero, List.take_length]
def rSlAll (K : PySem.W.Frag) : V → Option Int → Option Int → Hp → VK → Prop := fun x lo hi H Q => (rSlA K x lo hi H Q) ∨ (rSlL K x lo hi H Q ∨ C8.rSlX x lo hi H Q)
def SlI (K : PySem.W.Frag) (mg : Str → Option Value) (r : V → Option Int → Option Int → Hp → VK → Prop) (g : D → Option Int → Option Int → Ph → R D) : Prop := ∀ (W : WX) (σ : St) (w : Wd) (h : Ph) (H : Hp) (a : D) (x : V) (lo hi : Option Int) (Q : VK), Lk K mg w h H → Rep K mg w a x → PoE K mg W σ w H (g a lo hi h) Q → r x lo hi H Q
section
variable {K : PySem.W.Frag} {mg : Str → Option Value}
theorem li_sl : SlI K mg (rSlAll K) dSl := by
  intro W σ w h H a x lo hi Q L ra hp
  unfold dSl at hp
  split at hp
  · rename_i xs
    cases ra with
    | @tup p vs _ q r =>
      refine .inl ⟨p, vs, rfl, SqT.ex L q.sq, fun hw => ?_, fun _ l hl => Po.tup L (r.cut2 lo hi) hp hl⟩
      rw [← r.length] at hw
      rw [cutD_whole hw] at hp
      exact Po.here L (.tup q r) hp
  · cases ra
    obtain ⟨hc, hp⟩ := Po.ite hp
    exact .inr (.inr ⟨_, rfl, mostL_le hc, Po.here L (.str _) hp⟩)
  · obtain ⟨xs, e, hp⟩ := Po.some hp
    obtain ⟨p, vs, rfl, h1, h2⟩ := lstOf_ok L e ra
    exact .inr (.inl ⟨p, vs, rfl, h1, fun l hl => Po.lst L (h2.cut2 lo hi) hp hl⟩)
end
section
variable {ι : Type} {Z : Cz} {Y : ι → Cy} {W : WX}
theorem sl_all {X : Cx} : SlR X (rSlAll X.K) := L2.SlR.or sl_tupA (L2.SlR.or sl_list C8.sl_txt)
def OI (Z : Cz) (Y : ι → Cy) (W : WX) (e : Option Expr) (f : ScO) : Prop := ∃ t, (∀ i, L2.PO (cx Z (Y i)) e t) ∧ SnO Z.K Z.mg W t f
theorem ol_no : OI Z Y W none oNo := ⟨_, fun i => po_none, fun σ e w h H Q E L hp => Po.here (Rp := RpI) L rfl hp⟩
theorem ol_part {e : Expr} {f : SE} (he : EI Z Y W e f) : OI Z Y W (some e) (oPart f) := by
  obtain ⟨t, p, s⟩ := he
  refine ⟨_, fun i => po_some (p i), fun σ e w h H Q E L hp => s σ e w h H _ E L (Po.bind (Rp := Rep Z.K Z.mg) (Rq := RpI) hp fun a h1 w1 H1 x _ st1 L1 r1 hp1 => ?_)⟩
  split at hp1
  · cases r1
    exact ⟨_, rfl, Po.here (Rp := RpI) L1 rfl hp1⟩
  · exact hp1.elim
theorem ei_sl {g : D → Option Int → Option Int → Ph → R D} {e : Expr} {lo hi : Option Expr} {f : SE} {fl fh : ScO} {pos p2 : Pos} (hg : SlI Z.K Z.mg (rSlAll Z.K) g) (he : EI Z Y W e f) (hl : OI Z Y W lo fl) (hh : OI Z Y W hi fh) : EI Z Y W (.Subscript e (.Slice lo hi none p2) pos) (sSl g f fl fh) := by
  obtain ⟨t, p, s⟩ := he
  obtain ⟨tl, pl, sl⟩ := hl
  obtain ⟨th, ph, sh⟩ := hh
  refine ⟨tSl (rSlAll Z.K) t tl th, fun i => pe_slice (X := cx Z (Y i)) sl_all (p i) (pl i) (ph i), fun σ e w h H Q E L hp => s σ e w h H _ E L (Po.bind (Rp := Rep Z.K Z.mg) hp fun a h1 w1 H1 x _ st1 L1 r1 hp1 => ?_)⟩
  refine sl σ e w1 h1 H1 _ (E.mono st1.le) L1 (Po.bind (Rp := RpI) hp1 fun l h2 w2 H2 l' _ st2 L2 e2 hp2 => ?_)
  refine sh σ e w2 h2 H2 _ ((E.mono st1.le).mono st2.le) L2 (Po.bind (Rp := RpI) hp2 fun u h3 w3 H3 u' _ st3 L3 e3 hp3 => ?_)
  cases e2
  cases e3
  exact hg W σ w3 h3 H3 a x l u Q L3 ((r1.mono st2.le).mono st3.le) hp3
def dRev (a : D) (h : Ph) : R D := R.opt (lstOf a h) fun xs => .ok (.lst xs.reverse) h
def sRev (f : SE) : SE := fun e h => (f e h).bind fun a h1 => dRev a h1
end
end Pd

namespace Pd
open PySem L2 Evl
def zipD : List D → List D → List D
  | x :: xs, y :: ys => .tup [x, y] :: zipD xs ys
  | _, _ => []
theorem zipD_get : ∀ {xs ys : List D} {i : Nat} {d : D}, (zipD xs ys)[i]? = some d → ∃ x y, xs[i]? = some x ∧ ys[i]? = some y ∧ d = .tup [x, y]
  | [], _, _, _, e => by cases e
  | _ :: _, [], _, _, e => by cases e
  | x :: xs, y :: ys, 0, d, e => by cases e; exact ⟨x, y, rfl, rfl, rfl⟩
  | x :: xs, y :: ys, i + 1, d, e => zipD_get (xs := xs) (ys := ys) (i := i) e
theorem zipD_len : ∀ {xs ys : List D}, (zipD xs ys).length = min xs.length ys.length
  | [], _ => by simp [zipD]
  | _ :: _, [] => by simp [zipD]
  | x :: xs, y :: ys => by simp [zipD, zipD_len (xs := xs) (ys := ys)]
theorem itOk_zipT {K : PySem.W.Frag} {mg : Str → Option Value} {w : Wd} {a b : Addr} {xs ys : List D} {us vs : List V} (qa : SqT K w.G a us) (qb : SqT K w.G b vs) (ra : Reps K mg w xs us) (rb : Reps K mg w ys vs) : ItOk K mg w (RZ.ItzT K a b) (zipD xs ys) where
  go := fun w' h' H' i d le L e => by
    obtain ⟨x, y, e1, e2, rfl⟩ := zipD_get e
    obtain ⟨u, hu, ru⟩ := ra.get e1
    obtain ⟨v, hv, rv⟩ := rb.get e2
    have s1 := ex_t L.ex (ex_t le.ex qa)
    have s2 := ex_t L.ex (ex_t le.ex qb)
    refine ⟨⟨us, vs, u, v, s1, s2, hu, hv⟩, fun z H'' hy => ?_⟩
    obtain ⟨T, x1, y1, rfl, np, rfl, k1, k2⟩ := hy
    have z1 := k1 us s1
    have z2 := k2 vs s2
    rw [hu] at z1
    rw [hv] at z2
    cases z1
    cases z2
    obtain ⟨l1, l2, l3⟩ := L.lay np (.tup [u, v])
    exact ⟨_, l2, l1, .tup (.inl upd_same) (.cons ((ru.mono le).mono l3) (.cons ((rv.mono le).mono l3) .nil))⟩
  stop := fun w' h' H' i le L hl => by
    rw [zipD_len] at hl
    exact ⟨us, vs, ex_t L.ex (ex_t le.ex qa), ex_t L.ex (ex_t le.ex qb), by rw [← ra.length, ← rb.length]; omega⟩
theorem itOk_zipL {K : PySem.W.Frag} {mg : Str → Option Value} {w : Wd} {a b : Addr} {xs ys : List D} {us vs : List V} (qa : SqL K w.G a us) (qb : SqL K w.G b vs) (ra : Reps K mg w xs us) (rb : Reps K mg w ys vs) : ItOk K mg w (Itz K a b) (zipD xs ys) where
  go := fun w' h' H' i d le L e => by
    obtain ⟨x, y, e1, e2, rfl⟩ := zipD_get e
    obtain ⟨u, hu, ru⟩ := ra.get e1
    obtain ⟨v, hv, rv⟩ := rb.get e2
    have s1 := ex_l L.ex (ex_l le.ex qa)
    have s2 := ex_l L.ex (ex_l le.ex qb)
    refine ⟨⟨us, vs, u, v, s1, s2, hu, hv⟩, fun z H'' hy => ?_⟩
    obtain ⟨T, x1, y1, rfl, np, rfl, k1, k2⟩ := hy
    have z1 := k1 us s1
    have z2 := k2 vs s2
    rw [hu] at z1
    rw [hv] at z2
    cases z1
    cases z2
    obtain ⟨l1, l2, l3⟩ := L.lay np (.tup [u, v])
    exact ⟨_, l2, l1, .tup (.inl upd_same) (.cons ((ru.mono le).mono l3) (.cons ((rv.mono le).mono l3) .nil))⟩
  stop := fun w' h' H' i le L hl => by
    rw [zipD_len] at hl
    exact ⟨us, vs, ex_l L.ex (ex_l le.ex qa), ex_l L.ex (ex_l le.ex qb), by rw [← ra.length, ← rb.length]; omega⟩
section
variable {ι : Type} {Z : Cz} {Y : ι → Cy} {W : WX}
end
end Pd

namespace Pd
open PySem L2 Evl
abbrev FaX := PySem.W.Frag → Bool
def obsX (fa : List FaX) (fn : List He.DefD) (K : PySem.W.Frag) : He.AlD := ((fa.all fun f => f K) && fn.all fun d => d.ok K, fn.map fun d => He.fnW K d.at_)
def SaysX (fa : List FaX) (fn : List He.DefD) (K : PySem.W.Frag) : Prop := obsX fa fn K = He.valD fn
def obsXG (n : Nat) (fa : List FaX) (fn : List He.DefD) (g : Addr → Option Obj) : He.AlD := obsX fa fn (He.frG g (He.asD g n))
def hookX (n : Nat) (fa : List FaX) (fn : List He.DefD) : PySem.W.Hook where
  α := He.AlD
  obs := fun s => obsXG n fa fn s.heap.get?
  val := fun _ => He.valD fn
  says := fun _ h => ∃ K : PySem.W.Frag, K.In h ∧ SaysX fa fn K
  of := fun _ _ e => ⟨_, He.frG_in, e⟩
  keeps := fun _ _ _ ⟨K, hK, c⟩ k => ⟨K, PySem.W.Frag.In.keeps hK k, c⟩
theorem obsXG_eq {n : Nat} {fa : List FaX} {fn : List He.DefD} {g : Addr → Option Obj} {s : Shared} (h : ∀ a, g a = s.heap.get? a) : obsXG n fa fn g = (hookX n fa fn).obs s := by
  have e : g = s.heap.get? := funext h
  rw [e] <;> rfl
section
variable {fa : List FaX} {fn : List He.DefD} {K : PySem.W.Frag}
theorem SaysX.fact (c : SaysX fa fn K) (i : Nat) {f : FaX} (h : fa[i]? = some f := by rfl) : f K = true := by
  have c1 := (He.ba (show ((fa.all fun f => f K) && fn.all fun d => d.ok K) = true from congrArg (fun z : He.AlD => z.1) c)).1
  exact List.all_eq_true.mp c1 f (List.mem_of_getElem? h)
theorem SaysX.def_ (c : SaysX fa fn K) (i : Nat) {d : He.DefD} (h : fn[i]? = some d := by rfl) : ∃ fd, FunD K d.name d.qual d.params d.body d.scope (d.dvs K) (d.kws K) (He.fAd K d.at_) fd := by
  have c2 := (He.ba (show ((fa.all fun f => f K) && fn.all fun d => d.ok K) = true from congrArg (fun z : He.AlD => z.1) c)).2
  have e : fn.map (fun d => He.fnW K d.at_) = fn.map He.DefD.val := congrArg (fun z : He.AlD => z.2) c
  have hm : d ∈ fn := List.mem_of_getElem? h
  have e1 : He.fnW K d.at_ = d.val := by
    have e2 : (fn.map (fun d => He.fnW K d.at_))[i]? = (fn.map He.DefD.val)[i]? := by rw [e]
    rw [List.getElem?_map, List.getElem?_map, h] at e2
    exact Option.some.inj e2
  exact He.DefD.funD e1 (List.all_eq_true.mp c2 d hm)
end
mutual
def repB (K : PySem.W.Frag) : D → Value → Bool
  | .non, v => (match v with | .none => true | _ => false)
  | .bl b, v => (match v with | .bool c => b == c | _ => false)
  | .int i, v => (match v with | .int j _ => decide (i = j) | _ => false)
  | .str x, v => (match v with | .str y _ => decide (x = y) | _ => false)
  | .ty n, v => (match v with | .type m => decide (n = m) | _ => false)
  | .glo x, v => (match v with
    | .ref a => He.eqO (PySem.W.nsIn K mainGlobals x) (some (some (.ref a)))
    | _ => false)
  | .tup xs, v => (match v with
    | .ref a => (match K.lookup a with
      | some ⟨.type c, _, .seq its _, _⟩ => decide (c = "tuple") && (decide (its.size ≤ sizeLine) && repsB K xs its.toList)
      | _ => false)
    | _ => false)
  | .seq xs, v => (match v with
    | .ref a => (match K.lookup a with
      | some ⟨.type c, none, .seq its _, _⟩ => decide (c = "list") && (decide (its.size ≤ sizeLine) && repsB K xs its.toList)
      | _ => false)
    | _ => false)
  | .lst _, _ => false
  | .ref _, _ => false
  | .dcK _ _, _ => false
  | .dcT _ _, _ => false
  | .obj _ _, _ => false
def repsB (K : PySem.W.Frag) : List D → List Value → Bool
  | [], vs => (match vs with | [] => true | _ => false)
  | x :: xs, vs => (match vs with | v :: r => repB K x v && repsB K xs r | [] => false)
end
section
variable {K : PySem.W.Frag} {mg : Str → Option Value} {h : Heap}
mutual
theorem repB_ok (X : K.In h) (G : h.Ns mainGlobals mg) : ∀ {d : D} {u : Value}, repB K d u = true → ∃ v, RelV v u ∧ ∀ w, Rep K mg w d v
  | .non, u, e => by
    cases u with
    | none => exact ⟨.non, rfl, fun _ => .non⟩
    | _ => cases e
  | .bl b, u, e => by
    cases u with
    | bool c =>
      have q : (b == c) = true := e
      exact ⟨.bl b, by rw [beq_iff_eq.mp q]; rfl, fun _ => .bl b⟩
    | _ => cases e
  | .int i, u, e => by
    cases u with
    | int c t =>
      have q : decide (i = c) = true := e
      exact ⟨.int i, by rw [of_decide_eq_true q]; exact ⟨_, rfl⟩, fun _ => .int i⟩
    | _ => cases e
  | .str i, u, e => by
    cases u with
    | str c t =>
      have q : decide (i = c) = true := e
      exact ⟨.str i, by rw [of_decide_eq_true q]; exact ⟨_, rfl⟩, fun _ => .str i⟩
    | _ => cases e
  | .ty i, u, e => by
    cases u with
    | type c =>
      have q : decide (i = c) = true := e
      exact ⟨.ty i, by rw [of_decide_eq_true q]; rfl, fun _ => .ty i⟩
    | _ => cases e
  | .glo x, u, e => by
    cases u with
    | ref a =>
      have q : He.eqO (PySem.W.nsIn K mainGlobals x) (some (some (.ref a))) = true := e
      exact ⟨.ref a, rfl, fun _ => .glo (PySem.W.mg_of X G (He.eqO_ok q))⟩
    | _ => cases e
  | .tup xs, u, e => by
    cases u with
    | ref a =>
      have q : (match K.lookup a with
        | some ⟨.type c, _, .seq its _, _⟩ => decide (c = "tuple") && (decide (its.size ≤ sizeLine) && repsB K xs its.toList)
        | _ => false) = true := e
      cases l : K.lookup a with
      | none => rw [l] at q; cases q
      | some o =>
        obtain ⟨oc, od, dt, osl⟩ := o
        rw [l] at q
        cases oc with
        | type c =>
          cases dt with
          | seq its n =>
            obtain ⟨h1, h2⟩ := He.ba (show (decide (c = "tuple") && (decide (its.size ≤ sizeLine) && repsB K xs its.toList)) = true from q)
            obtain ⟨h3, h4⟩ := He.ba h2
            obtain ⟨vs, r1, r2⟩ := repsB_ok X G h4
            exact ⟨.ref a, rfl, fun w => .tup (.inr ⟨_, its, n, l, congrArg Value.type (of_decide_eq_true h1), rfl, of_decide_eq_true h3, r1⟩) (r2 w)⟩
          | _ => cases q
        | _ => cases dt <;> cases q
    | _ => cases e
  | .seq xs, u, e => by
    cases u with
    | ref a =>
      have q : (match K.lookup a with
        | some ⟨.type c, none, .seq its _, _⟩ => decide (c = "list") && (decide (its.size ≤ sizeLine) && repsB K xs its.toList)
        | _ => false) = true := e
      cases l : K.lookup a with
      | none => rw [l] at q; cases q
      | some o =>
        obtain ⟨oc, od, dt, osl⟩ := o
        rw [l] at q
        cases oc with
        | type c =>
          cases od with
          | none =>
            cases dt with
            | seq its n =>
              obtain ⟨h1, h2⟩ := He.ba (show (decide (c = "list") && (decide (its.size ≤ sizeLine) && repsB K xs its.toList)) = true from q)
              obtain ⟨h3, h4⟩ := He.ba h2
              obtain ⟨vs, r1, r2⟩ := repsB_ok X G h4
              exact ⟨.ref a, rfl, fun w => .seq (.inr ⟨_, its, n, l, congrArg Value.type (of_decide_eq_true h1), rfl, rfl, of_decide_eq_true h3, r1⟩) (r2 w)⟩
            | _ => cases q
          | some _ => cases dt <;> cases q
        | _ => cases od <;> cases dt <;> cases q
    | _ => cases e
  | .lst _, _, e => by cases e
  | .ref _, _, e => by cases e
theorem repsB_ok (X : K.In h) (G : h.Ns mainGlobals mg) : ∀ {d : List D} {u : List Value}, repsB K d u = true → ∃ v, Vals v u ∧ ∀ w, Reps K mg w d v
  | [], u, e => by
    cases u with
    | nil => exact ⟨[], .nil, fun _ => .nil⟩
    | cons _ _ => cases e
  | x :: xs, u, e => by
    cases u with
    | nil => cases e
    | cons a r =>
      obtain ⟨h1, h2⟩ := He.ba (show (repB K x a && repsB K xs r) = true from e)
      obtain ⟨v, r1, r2⟩ := repB_ok X G h1
      obtain ⟨vs, s1, s2⟩ := repsB_ok X G h2
      exact ⟨v :: vs, .cons r1 s1, fun w => .cons (r2 w) (s2 w)⟩
end
end
section
variable {ι : Type} {Z : Cz} {Y : ι → Cy} {W : WX}
end
end Pd

namespace Pd
open PySem L2 Evl
theorem lex_asym : ∀ {a b : List Int}, HT.lexLt a b = true → HT.lexLt b a = false
  | [], [], h => by cases h
  | [], _ :: _, _ => rfl
  | _ :: _, [], h => by cases h
  | x :: xs, y :: ys, h => by
    rw [HT.lexLt_cons] at h ⊢
    by_cases e : x = y
    · rw [if_pos e] at h
      rw [if_pos e.symm]
      exact lex_asym h
    · rw [if_neg e] at h
      rw [if_neg (Ne.symm e)]
      have := of_decide_eq_true h
      exact decide_eq_false (by omega)
theorem lex_tr : ∀ {a b c : List Int}, HT.lexLt b a = false → HT.lexLt c b = false → HT.lexLt c a = false
  | [], _, [], _, _ => rfl
  | _ :: _, [], [], h, _ => by cases h
  | _ :: _, _ :: _, [], _, h => by cases h
  | [], _, _ :: _, _, _ => rfl
  | x :: xs, [], z :: zs, h, _ => by cases h
  | x :: xs, y :: ys, z :: zs, h1, h2 => by
    rw [HT.lexLt_cons] at h1 h2 ⊢
    by_cases e1 : y = x
    · rw [if_pos e1] at h1
      by_cases e2 : z = y
      · rw [if_pos e2] at h2
        rw [if_pos (e2.trans e1)]
        exact lex_tr h1 h2
      · rw [if_neg e2] at h2
        rw [if_neg (fun q => e2 (q.trans e1.symm))]
        have := of_decide_eq_false h2
        exact decide_eq_false (by omega)
    · rw [if_neg e1] at h1
      have k1 := of_decide_eq_false h1
      by_cases e2 : z = y
      · rw [if_pos e2] at h2
        rw [if_neg (fun q => e1 (e2.symm.trans q))]
        exact decide_eq_false (by omega)
      · rw [if_neg e2] at h2
        have k2 := of_decide_eq_false h2
        rw [if_neg (by omega)]
        exact decide_eq_false (by omega)
theorem lex_conn : ∀ {a b : List Int}, HT.lexLt a b = false → HT.lexLt b a = false → a = b
  | [], [], _, _ => rfl
  | [], _ :: _, h, _ => by cases h
  | _ :: _, [], _, h => by cases h
  | x :: xs, y :: ys, h1, h2 => by
    rw [HT.lexLt_cons] at h1 h2
    by_cases e : x = y
    · rw [if_pos e] at h1
      rw [if_pos e.symm] at h2
      rw [e, lex_conn h1 h2]
    · rw [if_neg e] at h1
      rw [if_neg (Ne.symm e)] at h2
      have k1 := of_decide_eq_false h1
      have k2 := of_decide_eq_false h2
      omega
theorem lex_swo {α : Type} (k : α → List Int) : SrtO.Swo fun v u => HT.lexLt (k v) (k u) := ⟨fun _ _ h => lex_asym h, fun _ _ _ h1 h2 => lex_tr h1 h2⟩
section
variable {α : Type} (lt : α → α → Bool)
def insS (x : α) : List α → List α
  | [] => [x]
  | y :: r => if lt y x then y :: insS x r else x :: y :: r
def sortS : List α → List α
  | [] => []
  | x :: r => insS lt x (sortS r)
variable {lt}
theorem insS_perm (x : α) : ∀ l : List α, (insS lt x l).Perm (x :: l)
  | [] => List.Perm.refl _
  | y :: r => by
    unfold insS
    by_cases h : lt y x = true
    · rw [if_pos h]
      exact ((insS_perm x r).cons y).trans (List.Perm.swap x y r)
    · rw [if_neg h]
theorem sortS_perm : ∀ l : List α, (sortS lt l).Perm l
  | [] => List.Perm.refl _
  | x :: r => (insS_perm x _).trans ((sortS_perm r).cons x)
theorem insS_srt (O : SrtO.Swo lt) (x : α) : ∀ {l : List α}, SrtO.Srtd lt l → SrtO.Srtd lt (insS lt x l)
  | [], _ => by unfold insS SrtO.Srtd; exact List.pairwise_singleton _ _
  | y :: r, h => by
    have h' := List.pairwise_cons.mp h
    unfold insS
    by_cases q : lt y x = true
    · rw [if_pos q]
      refine List.pairwise_cons.mpr ⟨fun z hz => ?_, insS_srt O x h'.2⟩
      rcases List.mem_cons.mp ((insS_perm x r).mem_iff.mp hz) with e | hm
      · rw [e]; exact O.asym y x q
      · exact h'.1 z hm
    · rw [if_neg q]
      have q' : lt y x = false := by cases e : lt y x with | true => exact absurd e q | false => rfl
      refine List.pairwise_cons.mpr ⟨fun z hz => ?_, h⟩
      rcases List.mem_cons.mp hz with e | hm
      · rw [e]; exact q'
      · exact O.tr x y z q' (h'.1 z hm)
theorem sortS_srt (O : SrtO.Swo lt) : ∀ l : List α, SrtO.Srtd lt (sortS lt l)
  | [] => List.Pairwise.nil
  | x :: r => insS_srt O x (sortS_srt O r)
theorem srtd_one (O : SrtO.Swo lt) (C : ∀ x y, lt x y = false → lt y x = false → x = y) : ∀ {l m : List α}, SrtO.Srtd lt l → SrtO.Srtd lt m → l.Perm m → l = m
  | [], m, _, _, h => (List.Perm.eq_nil h.symm).symm
  | x :: l, [], _, _, h => absurd h.length_eq (by simp)
  | x :: l, y :: m, hl, hm, h => by
    have h1 : lt x y = false := by
      rcases List.mem_cons.mp (h.mem_iff.mp (List.mem_cons_self (a := x) (l := l))) with e | hx
      · rw [e]; exact O.refl y
      · exact (List.pairwise_cons.mp hm).1 x hx
    have h2 : lt y x = false := by
      rcases List.mem_cons.mp (h.mem_iff.mpr (List.mem_cons_self (a := y) (l := m))) with e | hy
      · rw [e]; exact O.refl x
      · exact (List.pairwise_cons.mp hl).1 y hy
    obtain rfl := C x y h1 h2
    rw [srtd_one O C (List.pairwise_cons.mp hl).2 (List.pairwise_cons.mp hm).2 h.cons_inv]
end
def ltZb (x y : Int) : Bool := decide (x < y)
theorem ltZ_swo : SrtO.Swo ltZb := ⟨fun x y h => by have := of_decide_eq_true h; exact decide_eq_false (by omega), fun x y z h1 h2 => by have := of_decide_eq_false h1; have := of_decide_eq_false h2; exact decide_eq_false (by omega)⟩
end Pd
namespace Pd
open PySem PySem.Spec PyProof.Rows L2 SrtO
section
variable {prog : Program} {w : World} {A : Around} {E : Value → Shared → Prop} {s : Shared}
theorem lex_kat : ∀ {xs ys : List Value} {ns ms : List Int} (i : Nat) {Q : Bool → Shared → Prop}, IntsAre xs ns → IntsAre ys ms → Q (HT.lexLt ns ms) s → PySem.W.KatLex prog w A true (decide (xs.length < ys.length)) Q (xs.zip ys) i s
  | _, _, _, _, i, Q, .nil, .nil, h => PySem.W.kat_nil h
  | _, _, _, _, i, Q, .nil, .cons _ _ _, h => PySem.W.kat_nil (by
      rw [decide_eq_true (by simp)]
      exact h)
  | _, _, _, _, i, Q, .cons _ _ _, .nil, h => PySem.W.kat_nil (by
      rw [decide_eq_false (by simp)]
      exact h)
  | _, _, _, _, i, Q, .cons x t (vs := vs) (ns := ns) r, .cons y u (vs := vs') (ns := ns') r', h => by
    rw [HT.lexLt_cons] at h
    have e0 : decide ((Value.int x t :: vs).length < (Value.int y u :: vs').length) = decide (vs.length < vs'.length) := by simp
    rw [e0]
    refine PySem.W.kat_cons (SeqAt.EqAt.int_int x t y u prog w _ _ ?_)
    refine PySem.W.kat_go (fun e1 => ?_) (fun e1 => ?_)
    · have ex : x = y := by simpa using e1
      rw [if_pos ex] at h
      exact PySem.W.kat_yes (lex_kat (i + 1) r r' h)
    · have ex : ¬ x = y := by simpa using e1
      rw [if_neg ex] at h
      exact PySem.W.kat_no (TS.oneLt_ints _ h)
theorem tups_cmp {vs : List Value} {k : Value → List Int} (hp : ∀ v ∈ vs, TS.TupInts s.heap v (k v)) : Cmp prog w A s (tuples' true) (fun p => p.1 ∈ vs) (lt2 fun v u => HT.lexLt (k v) (k u)) := by
  intro p q hm hm'
  show wpAny (model prog w) A (keyLt' (tuples' true) p.1 q.1) (fun r s' => s' = s ∧ r = HT.lexLt (k p.1) (k q.1)) (fun _ _ => False) s
  obtain ⟨a, xs, e, ⟨o, ho, hc, n, hd⟩, ii⟩ := hp _ hm
  obtain ⟨a', ys, e', ⟨o', ho', hc', n', hd'⟩, ii'⟩ := hp _ hm'
  rw [e, e']
  rw [e] at ii
  rw [e'] at ii'
  refine PySem.W.kat_lt ho hd ho' hd' ?_
  have z := lex_kat (prog := prog) (w := w) (A := A) (s := s) 0 (Q := fun r s' => s' = s ∧ r = HT.lexLt (k (.ref a)) (k (.ref a'))) ii ii' ⟨rfl, rfl⟩
  simp only [Array.length_toList] at z
  exact z
theorem firstsT {h : Heap} {k : Value → List Int} : ∀ {vs : List Value}, (∀ v ∈ vs, TS.TupInts h v (k v) ∧ k v ≠ []) → ∃ fs : List Value, PySem.W.KatTups h vs fs ∧ fs.length = vs.length ∧ ∀ f ∈ fs, ∃ x t, f = Value.int x t
  | [], _ => ⟨[], PySem.W.KatTups.nil, rfl, fun _ hm => by simp at hm⟩
  | v :: vs, hp => by
    obtain ⟨fs, h1, h2, h3⟩ := firstsT (vs := vs) fun v' hm => hp v' (List.mem_cons_of_mem _ hm)
    obtain ⟨⟨a, xs, e, ⟨o, ho, hc, n, hd⟩, ii⟩, hne⟩ := hp v (List.mem_cons_self ..)
    subst e
    cases hk : k (.ref a) with
    | nil => exact absurd hk hne
    | cons m ms =>
      rw [hk] at ii
      cases hx : xs.toList with
      | nil => rw [hx] at ii; cases ii
      | cons y ys =>
        rw [hx] at ii
        cases ii with
        | cons _ t r =>
          refine ⟨.int m t :: fs, PySem.W.KatTups.cons ho hc hd (by rw [← Array.getElem?_toList, hx]; rfl) h1, by rw [List.length_cons, List.length_cons, h2], fun f hm => ?_⟩
          rcases List.mem_cons.mp hm with rfl | hm
          · exact ⟨m, t, rfl⟩
          · exact h3 f hm
theorem tups_sortableO {a : Addr} {vs : List Value} {k : Value → List Int} (h0 : 0 < vs.length) (hp : ∀ v ∈ vs, TS.TupInts s.heap v (k v) ∧ k v ≠ []) (ha : ∀ o, s.heap.get? a = some o → o.cls ≠ .type "tuple") : SortableO prog w A s a vs fun v u => HT.lexLt (k v) (k u) := by
  intro h' keep
  have hp' : ∀ v ∈ vs, TS.TupInts h' v (k v) ∧ k v ≠ [] := fun v hm => ⟨(hp v hm).1.keeps fun b o e c => keep b o (fun z => by subst z; exact ha o e c) e, (hp v hm).2⟩
  obtain ⟨fs, h1, h2, h3⟩ := firstsT hp'
  refine ⟨tuples' true, fun Q E hq => ?_, tups_cmp fun v hv => (hp' v hv).1⟩
  refine PySem.W.kat_kind (T := .type "int") h1 (by omega) (fun f hm => ?_) (by rfl) ?_
  · obtain ⟨x, t, rfl⟩ := h3 f hm
    exact PySem.W.Looks.now
  · have e : (Value.type "int" != Value.type "tuple") = true := by first | decide +kernel | rfl | decide
    rw [e]
    exact hq
theorem sorted_tupsO {l : Addr} {vs : List Value} {k : Value → List Int} {Q : Value → Shared → Prop} (hl : s.heap.IsList l vs.toArray) (hz : vs.length ≤ sizeLine) (hp : ∀ v ∈ vs, TS.TupInts s.heap v (k v) ∧ k v ≠ [])
    (h : ∀ (h' : Heap) (d : Addr) (out : List Value), Srtd (fun v u => HT.lexLt (k v) (k u)) out → Stb (fun v u => HT.lexLt (k v) (k u)) out vs → (∀ b o, s.heap.get? b = some o → h'.get? b = some o) → s.heap.objs.size ≤ d → (∃ n, h'.get? d = some (seqObj "list" out.toArray n)) → Q (.ref d) { s with heap := h' }) :
    wpAny (model prog w) A (call (.builtin "sorted") [.ref l]) Q E s := by
  refine sorted_ord (lex_swo k) hl hz (fun h2 h₁ a ha kk => ?_) fun out hs hb => ?_
  · refine tups_sortableO (s := { s with heap := h₁ }) (by omega) (fun v hm => ⟨(hp v hm).1.keeps fun b o e _ => (kk b o e).2, (hp v hm).2⟩) fun o e => ?_
    have e' : some o = some (seqObj "list" vs.toArray 0) := e.symm.trans ha
    cases e'
    intro c
    exact absurd (Value.type.inj c) (by decide)
  · exact h _ _ out hs hb (fun b o e => sortedAll_old e) (Nat.le_succ _) (sortedAll_at s.heap vs out.toArray)
end
end Pd
namespace Pd
open PySem PySem.Spec PyProof.Rows L2 Evl
def rSortedU (K : PySem.W.Frag) : List V → Hp → VK → Prop := fun vs H Q => ∃ (a : Addr) (L : List (V × List Int)), vs = [V.ref a] ∧ SqL K H a (L.map (·.1)) ∧ (∀ p ∈ L, p.2 ≠ [] ∧ ∃ t, p.1 = V.ref t ∧ SqT K H t (p.2.map V.int)) ∧
  ∀ (L' : List (V × List Int)) (p : Addr), L'.Perm L → SrtO.Srtd HT.lexLt (L'.map (·.2)) → H p = none → Q (.ref p) (upd H p (.lst (L'.map (·.1))))
theorem ints_vals : ∀ {ns : List Int} {us : List Value}, Vals (ns.map V.int) us → IntsAre us ns
  | [], _, .nil => .nil
  | n :: r, _, .cons q s => by
    obtain ⟨t, rfl⟩ := q
    exact .cons n t (ints_vals s)
theorem pairs_of {h : Heap} : ∀ {L : List (V × List Int)} {its : List Value}, Vals (L.map (·.1)) its → (∀ p ∈ L, ∃ t, p.1 = V.ref t ∧ TS.TupInts h (.ref t) p.2) → L = its.map fun u => (backV u, TS.intsOf h u)
  | [], _, .nil, _ => rfl
  | p :: r, _, .cons q s, hp => by
    obtain ⟨t, e1, e2⟩ := hp p List.mem_cons_self
    have q : RelV p.1 _ := q
    rw [e1] at q
    obtain rfl := q
    rw [List.map_cons, ← pairs_of s fun x hx => hp x (List.mem_cons_of_mem _ hx), e2.ints]
    show p :: r = (V.ref t, p.2) :: r
    rw [← e1]
section
variable {X : Cx}
theorem cr_sortedU : CallR X (.builtin "sorted") (rSortedU X.K) := by
  intro pins s σ H vs us Q I r h
  obtain ⟨a, L, rfl, hs, hx, q⟩ := h
  obtain ⟨its, rv, hl, hz⟩ := I.list hs
  obtain ⟨u, rfl, ru⟩ := vals1 r
  obtain rfl : u = Value.ref a := ru
  have tp : ∀ p ∈ L, ∃ t, p.1 = V.ref t ∧ TS.TupInts s.heap (.ref t) p.2 := fun p hp => by
    obtain ⟨_, t, e, ht⟩ := hx p hp
    obtain ⟨its2, r2, tu, _⟩ := I.tuple ht
    exact ⟨t, e, t, _, rfl, tu, by simpa using ints_vals r2⟩
  have eL := pairs_of rv tp
  have tv : ∀ v ∈ its, (∃ t, v = Value.ref t) ∧ TS.TupInts s.heap v (TS.intsOf s.heap v) ∧ TS.intsOf s.heap v ≠ [] := fun v hv => by
    have hm : (backV v, TS.intsOf s.heap v) ∈ L := by rw [eL]; exact List.mem_map.mpr ⟨v, hv, rfl⟩
    obtain ⟨t, e, ti⟩ := tp _ hm
    have ne := (hx _ hm).1
    cases v with
    | ref b =>
      have : b = t := V.ref.inj e
      subst this
      exact ⟨⟨b, rfl⟩, ti, ne⟩
    | _ => cases e
  refine sorted_tupsO (k := TS.intsOf s.heap) hl.isList (by rw [← rv.length]; exact hz) (fun v hv => (tv v hv).2) fun h' d out h1 h2 kp hd hn => ?_
  obtain ⟨n, hn⟩ := hn
  have h3 : ∀ u ∈ out, ∃ a, u = Value.ref a := fun u hu => (tv u (h2.perm.mem_iff.mp hu)).1
  have e4 : (out.map fun u => (backV u, TS.intsOf s.heap u)).map (·.1) = out.map backV := by rw [List.map_map]; rfl
  have k1 : (out.map fun u => (backV u, TS.intsOf s.heap u)).Perm L := by rw [eL]; exact h2.perm.map _
  have k2 := q (out.map fun u => (backV u, TS.intsOf s.heap u)) d k1 (by
    rw [List.map_map]
    exact SrtO.srtd_map h1) (I.hok.fresh hd)
  rw [e4] at k2
  refine ⟨.ref d, upd H d (.lst (out.map backV)), I.laid (t' := s.toks) kp hd ⟨?_, out, n, vals_back h3, hn⟩, rfl, k2⟩
  rw [List.length_map, h2.perm.length_eq, ← rv.length]
  exact hz
end
def tupsOf : List D → Option (List (List Int))
  | [] => some []
  | .tup xs :: r => match intsOf xs with
    | some (n :: ns) => (tupsOf r).map ((n :: ns) :: ·)
    | _ => none
  | _ => none
abbrev tupZ (ns : List Int) : D := .tup (ns.map D.int)
theorem tupsOf_ok {K : PySem.W.Frag} {mg : Str → Option Value} {w : Wd} : ∀ {xs : List D} {ns : List (List Int)} {vs : List V}, tupsOf xs = some ns → Reps K mg w xs vs → ∃ L : List (V × List Int), L.map (·.1) = vs ∧ L.map (·.2) = ns ∧ ∀ p ∈ L, p.2 ≠ [] ∧ (∃ t, p.1 = V.ref t ∧ SqT K w.G t (p.2.map V.int)) ∧ Rep K mg w (tupZ p.2) p.1
  | [], _, _, e, .nil => by cases e; exact ⟨[], rfl, rfl, fun p hp => absurd hp (by simp)⟩
  | .tup xs :: r, ns, _, e, .cons h t => by
    unfold tupsOf at e
    cases q : intsOf xs with
    | none => rw [q] at e; cases e
    | some l =>
      rw [q] at e
      cases l with
      | nil => cases e
      | cons m ms =>
        have e2 : (tupsOf r).map ((m :: ms) :: ·) = some ns := e
        cases q2 : tupsOf r with
        | none => rw [q2] at e2; cases e2
        | some ks =>
          rw [q2] at e2
          cases e2
          obtain ⟨L, l1, l2, l3⟩ := tupsOf_ok q2 t
          cases h with
          | @tup a us _ sq rs =>
            have eu := intsOf_ok q rs
            have ex := intsOf_map q
            refine ⟨(.ref a, m :: ms) :: L, by rw [List.map_cons, l1], by rw [List.map_cons, l2], fun p hp => ?_⟩
            rcases List.mem_cons.mp hp with e3 | hp
            · subst e3
              refine ⟨by simp, ⟨a, rfl, by rw [← eu]; exact sq.sq⟩, ?_⟩
              show Rep K mg w (.tup ((m :: ms).map D.int)) (.ref a)
              rw [← ex]
              exact .tup sq rs
            · exact l3 p hp
  | .non :: _, _, _, e, _ => by cases e
  | .int _ :: _, _, _, e, _ => by cases e
  | .bl _ :: _, _, _, e, _ => by cases e
  | .str _ :: _, _, _, e, _ => by cases e
  | .lst _ :: _, _, _, e, _ => by cases e
  | .seq _ :: _, _, _, e, _ => by cases e
  | .ref _ :: _, _, _, e, _ => by cases e
  | .glo _ :: _, _, _, e, _ => by cases e
  | .ty _ :: _, _, _, e, _ => by cases e
  | .dcK _ _ :: _, _, _, e, _ => by cases e
  | .dcT _ _ :: _, _, _, e, _ => by cases e
  | .obj _ _ :: _, _, _, e, _ => by cases e
where
  intsOf_map : ∀ {xs : List D} {ns : List Int}, intsOf xs = some ns → xs = ns.map D.int
  | [], _, e => by cases e; rfl
  | .int i :: r, ns, e => by
    unfold intsOf at e
    cases q : intsOf r with
    | none => rw [q] at e; cases e
    | some ms =>
      rw [q] at e
      cases e
      rw [intsOf_map q]
      rfl
  | .non :: _, _, e => by cases e
  | .bl _ :: _, _, e => by cases e
  | .str _ :: _, _, e => by cases e
  | .tup _ :: _, _, e => by cases e
  | .lst _ :: _, _, e => by cases e
  | .seq _ :: _, _, e => by cases e
  | .ref _ :: _, _, e => by cases e
  | .glo _ :: _, _, e => by cases e
  | .ty _ :: _, _, e => by cases e
  | .dcK _ _ :: _, _, e => by cases e
  | .dcT _ _ :: _, _, e => by cases e
  | .obj _ _ :: _, _, e => by cases e
def dSorted (a : D) (h : Ph) : R D := R.opt (lstOf a h) fun xs => match intsOf xs with
  | some ns => .ok (.lst ((sortS ltZb ns).map D.int)) h
  | none => R.opt (tupsOf xs) fun ns => .ok (.lst ((sortS HT.lexLt ns).map tupZ)) h
def rSorted (K : PySem.W.Frag) : List V → Hp → VK → Prop := fun vs H Q => rSortedI K vs H Q ∨ rSortedU K vs H Q
theorem cr_sorted {X : Cx} : CallR X (.builtin "sorted") (rSorted X.K) := cr_sortedI.or cr_sortedU
theorem reps_ints {K : PySem.W.Frag} {mg : Str → Option Value} {w : Wd} : ∀ ns : List Int, Reps K mg w (ns.map D.int) (ns.map V.int)
  | [] => .nil
  | n :: r => .cons (.int n) (reps_ints r)
theorem ci_sorted {K : PySem.W.Frag} {mg : Str → Option Value} : CallI K mg (rSorted K) (g1 dSorted) := ci_1 fun W σ w h H a x Q L ra hp => by
  unfold dSorted at hp
  obtain ⟨xs, e1, hp⟩ := Po.some hp
  obtain ⟨b, vs, rfl, hb, rs⟩ := lstOf_ok L e1 ra
  cases q : intsOf xs with
  | some ns =>
    rw [q] at hp
    have ev := intsOf_ok q rs
    refine .inl ⟨b, ns, rfl, by rw [← ev]; exact hb, fun ns' p pm pw np => ?_⟩
    have e2 : ns' = sortS ltZb ns := srtd_one ltZ_swo (fun x y h1 h2 => by have := of_decide_eq_false h1; have := of_decide_eq_false h2; omega) (pw.imp fun {x y} hxy => decide_eq_false (by omega)) (sortS_srt ltZ_swo ns) (pm.trans (sortS_perm ns).symm)
    rw [e2]
    exact Po.lst L (reps_ints _) hp np
  | none =>
    rw [q] at hp
    obtain ⟨ns, e2, hp⟩ := Po.some hp
    obtain ⟨M, m1, m2, m3⟩ := tupsOf_ok e2 rs
    refine .inr ⟨b, M, rfl, by rw [m1]; exact hb, fun p hpM => ⟨(m3 p hpM).1, by obtain ⟨t, e, sq⟩ := (m3 p hpM).2.1; exact ⟨t, e, SqT.ex L sq⟩⟩, fun M' p pm sr np => ?_⟩
    have e3 : M'.map (·.2) = sortS HT.lexLt ns := srtd_one (lex_swo id) (fun x y h1 h2 => lex_conn h1 h2) sr (sortS_srt (lex_swo id) ns) ((pm.map (·.2)).trans (by rw [m2]; exact (sortS_perm ns).symm))
    have rr : ∀ M' : List (V × List Int), (∀ p ∈ M', Rep K mg w (tupZ p.2) p.1) → Reps K mg w ((M'.map (·.2)).map tupZ) (M'.map (·.1)) := by
      intro M'
      induction M' with
      | nil => intro _; exact .nil
      | cons x r ih => intro hr; exact .cons (hr x List.mem_cons_self) (ih fun y hy => hr y (List.mem_cons_of_mem _ hy))
    rw [← e3] at hp
    exact Po.lst L (rr M' fun p hpM => (m3 p (pm.mem_iff.mp hpM)).2.2) hp np
end Pd

namespace Pd
open PySem L2 Evl
def compGo2 (g : SG) (tt : ST) (it1 : SIt) (g1 : SG) (tt1 : ST) (te : SE) (vs1 : List Nat) : List D → Pe → Ph → R (List D)
  | [], _, h => .ok [] h
  | x :: r, e0, h => (g x e0 h).bd fun e1 h1 => (tt e1 h1).bd fun b h2 => br b ((it1 e1 h2).bd fun ys h3 => (compGo g1 tt1 te ys (wipeD e1 vs1) h3).bd fun zs h4 => (compGo2 g tt it1 g1 tt1 te vs1 r e0 h4).bd fun ws h5 => .ok (zs ++ ws) h5) (compGo2 g tt it1 g1 tt1 te vs1 r e0 h2)
def sLc2 (it : SIt) (g : SG) (tt : ST) (it1 : SIt) (g1 : SG) (tt1 : ST) (te : SE) (vs vs1 : List Nat) : SE := fun e h => (it e h).bind fun xs h1 => (compGo2 g tt it1 g1 tt1 te vs1 xs (wipeD e vs) h1).bd fun ys h2 => if ys.length ≤ mostL then .ok (.lst ys) h2 else .bad
section
variable {K : PySem.W.Frag} {mg : Str → Option Value} {W : WX}
theorem keepL {wa wb : Wd} {Ha Hb : Hp} {us : List V} {Dl : Addr} (s : Step wa Ha wb Hb) (k1 : Dl ∉ wa.ms) (k2 : wa.G Dl = none) (k3 : Ha Dl = some (.lst us)) : Dl ∉ wb.ms ∧ wb.G Dl = none ∧ Hb Dl = some (.lst us) :=
  ⟨fun z => (s.newM Dl z).elim k1 fun q => (by rw [k3] at q; cases q), by rw [s.newG Dl (by rw [k3]; simp) k1 (fun xs z => by rw [k3] at z; cases z)]; exact k2, s.frm Dl _ k3 k1⟩
structure Acc (K : PySem.W.Frag) (mg : Str → Option Value) (w1 : Wd) (H1 : Hp) (Dl : Addr) (w : Wd) (h : Ph) (H : Hp) (acc : List D) : Prop where
  stp : Step w1 H1 w H
  L : Lk K mg w h H
  nm : Dl ∉ w.ms
  ng : w.G Dl = none
  us : ∃ us, H Dl = some (.lst us) ∧ Reps K mg w acc us
theorem Acc.go {w1 w w' : Wd} {H1 H H' : Hp} {Dl : Addr} {h h' : Ph} {acc : List D} (a : Acc K mg w1 H1 Dl w h H acc) (st : Step w H w' H') (L : Lk K mg w' h' H') : Acc K mg w1 H1 Dl w' h' H' acc := by
  obtain ⟨us, e, r⟩ := a.us
  obtain ⟨b1, b2, b3⟩ := keepL st a.nm a.ng e
  exact ⟨a.stp.trans st, L, b1, b2, us, b3, r.mono st.le⟩
end
section
variable {ι : Type} {Z : Cz} {Y : ι → Cy} {W : WX}
end
end Pd

namespace Pd
open PySem L2 Evl
section
variable {ι : Type} {Z : Cz} {Y : ι → Cy} {W : WX}
def sStar (f : SE) (g : SA) : SA := fun e h => (f e h).bind fun a h1 => R.opt (seqOf a h1) fun xs => (g e h1).bind fun r h2 => .ok (xs ++ r) h2
def dExtend (o a : D) (h : Ph) : R D := onLst o h fun n xs => R.opt (lsOf a h) fun ys => if xs.length + ys.length ≤ mostL then .ok .non (h.set n (.lst (xs ++ ys))) else .bad
theorem ei_extend {o a : Expr} {fo fa : SE} {apos cpos : Pos} (ho : EI Z Y W o fo) (ha : EI Z Y W a fa) (hb : ∀ i, attributeBase o "extend" (Y i).env (eval o (Y i).env) = eval o (Y i).env := by intro _; rfl)
    (hfew : ∀ i, ((backTo cpos (starEach [a] (Y i).env)).all (fun x => !x.1) && (backToKw cpos (keywordEach [] (Y i).env)).all (fun x => x.1.isSome)
      && decide (([a] : List Expr).length + ([] : List Keyword).length + (if ([] : List Keyword).isEmpty then 0 else 1) < 30)) = true := by intro _; rfl)
    (hline : (apos.endLine == cpos.line) = true := by rfl) (hs : ∀ i, starEach [a] (Y i).env = (false, eval a (Y i).env) :: starEach [] (Y i).env := by intro _; rfl) (hpl : ∀ i, (backTo cpos (starEach [] (Y i).env)).any (·.1) = false := by intro _; rfl) :
    EI Z Y W (.Call (.Attribute o "extend" apos) [a] [] cpos) (sMeth1 dExtend fo fa) := by
  obtain ⟨to, po, so⟩ := ho
  obtain ⟨ta, pa, sa⟩ := ha
  refine ⟨tBM Z.K "list" rExtend to (tCons ta tNil), fun i => pe_bm (X := cx Z (Y i)) PySem.F.plainAttrs_list PySem.F.slot_list_extend PySem.F.type_list_extend mt_extend (po i) (pa_cons (pa i) pa_nil (hs i)) (hb i) (hfew i) hline (hs i) (hpl i), fun σ e w h H Q E L hp => so σ e w h H _ E L (Po.bind (Rp := Rep Z.K Z.mg) hp fun o1 h1 w1 H1 x _ st1 L1 r1 hp1 => ?_)⟩
  obtain ⟨xs, e1, hp1⟩ := Po.some hp1
  obtain ⟨a1, vs, rfl, hl, rl⟩ := lsOf_ok L1 e1 r1
  refine ⟨.inl ⟨rfl, vs, .inl (.inl hl)⟩, sa σ e w1 h1 H1 _ (E.mono st1.le) L1 (Po.bind (Rp := Rep Z.K Z.mg) hp1 fun a h2 w2 H2 y _ st2 L2 r2 hp2 => ?_)⟩
  obtain ⟨n, a2, ys, us, rfl, e2, q, k1, k2, k3, hp2⟩ := onLst_ok L2 (r1.mono st2.le) hp2
  cases e2
  obtain ⟨zs, e3, hp2⟩ := Po.some hp2
  obtain ⟨b1, ws, rfl, hb1, rw1⟩ := lsOf_ok L2 e3 r2
  obtain ⟨hlt, hp2⟩ := Po.ite hp2
  exact ⟨a1, b1, us, ws, rfl, rfl, k2, hb1, by rw [← k3.length, ← rw1.length, ← mostL_eq]; exact hlt, po_put L2 q k1 (k3.append rw1) .non hp2⟩
def sWhileW : Nat → Nat → (D → D → Ph → R D) → SE → SE → SS → SS
  | 0, _, _, _, _, _ => fun _ _ => .bad
  | n + 1, i, g, fa, fb, f => fun e h => (fa e h).toF e fun a h1 => (fb (e.set i (some a)) h1).toF (e.set i (some a)) fun b h2 => (g a b h2).toF (e.set i (some a)) fun z h3 => (z.tst h3).toF (e.set i (some a)) fun c h4 => br c ((f (e.set i (some a)) h4).turn fun e2 h5 => sWhileW n i g fa fb f e2 h5) (.nx (e.set i (some a)) h4)
theorem sn_whileW {K : PySem.W.Frag} {mg : Str → Option Value} {ta tb : TE} {r : R2} {i : Nat} {g : D → D → Ph → R D} {tt : TS} {fa fb : SE} {f : SS} (ho : OpI K mg r g) (sa : SnE K mg W ta fa) (sb : SnE K mg W tb fb) (sf : SnS K mg W tt f) (n : Nat) : SnS K mg W (tWhileW (wCmp r (wNm (wE ta) i) tb) tt fun D σ H => D.nx σ H) (sWhileW n i g fa fb f) := fun σ e w h H D E L hp => by
  refine ⟨fun m σ H => ∃ e w h, En K mg w e σ ∧ Lk K mg w h H ∧ PoF K mg W w H (sWhileW m i g fa fb f e h) D, ⟨n, e, w, h, E, L, hp⟩, ?_⟩
  rintro m σ H ⟨e, w, h, E, L, hp⟩
  cases m with
  | zero => exact hp.elim
  | succ m =>
    refine sa σ e w h H _ E L (Po.toF (Rp := Rep K mg) E hp fun a h1 w1 H1 v _ st1 L1 r1 hp1 => ?_)
    have E1 := (E.mono st1.le).set r1 i
    refine sb (σ.set i (some v)) (e.set i (some a)) w1 h1 H1 _ E1 L1 (Po.toF (Rp := Rep K mg) E1 hp1 fun b h2 w2 H2 u _ st2 L2 r2 hp2 => ?_)
    refine ho W (σ.set i (some v)) w2 h2 H2 a b v u _ L2 (r1.mono st2.le) r2 (Po.toF (Rp := Rep K mg) (E1.mono st2.le) hp2 fun z h3 w3 H3 zv _ st3 L3 r3 hp3 => ?_)
    cases r3 with
    | bl c =>
      have hp3 : PoF K mg W w3 H3 (br c ((f (e.set i (some a)) h3).turn fun e2 h5 => sWhileW m i g fa fb f e2 h5) (.nx (e.set i (some a)) h3)) D := hp3
      refine ⟨c, rfl, ?_⟩
      have E3 := (E1.mono st2.le).mono st3.le
      cases c with
      | true =>
        show ∃ N, _
        exact ⟨fun σ' H' => ∃ e w h, En K mg w e σ' ∧ Lk K mg w h H' ∧ PoF K mg W w H' (sWhileW m i g fa fb f e h) D, fun σ' H' ⟨e, w, h, q⟩ => ⟨m, Nat.lt_succ_self m, e, w, h, q⟩,
          sf _ _ w3 h3 H3 _ E3 L3 (PoF.turn hp3 fun e2 h2 w2 H2 σ' st2 L2 E2 hp2 => ⟨e2, w2, h2, E2, L2, hp2⟩)⟩
      | false =>
        show D.nx _ _
        exact hp3 w3 H3 _ (Step.refl _ _) L3 E3
    | _ => exact hp3.elim
theorem si_whileW (n i : Nat) {x : Str} {a b : Expr} {op : CmpOp} {r : R2} {g : D → D → Ph → R D} {body : List Stmt} {fa fb : SE} {f : SS} {p1 p2 p3 pos : Pos} (hp : ∀ i, PassesOwn (model Z.P Z.w) (Y i).A (Y i).env (Y i).xe) (hN : Z.N.Nodup) (hi : Z.N[i]? = some x) (hx : ∀ j, Loc (Y j).env.scope x) (hf : ∀ j, (Y j).fn x = true ∨ (Y j).env.scope.names.lookup x = some .local)
    (o : OpF Z Y (compareOp op) r) (ho : OpI Z.K Z.mg r g) (hm : behindInMarks op b = false) (ha : EI Z Y W a fa) (hb : EI Z Y W b fb) (hbody : BI Z Y W body f) : SI Z Y W (.While (.Compare (.NamedExpr (.Name x p1) a p2) [op] [b] p3) body [] pos) (sWhileW n i g fa fb f) := by
  obtain ⟨ta, pa, sa⟩ := ha
  obtain ⟨tb, pb, sb⟩ := hb
  obtain ⟨tt, pt, st⟩ := hbody
  exact ⟨_, fun j => ps_whileW (X := cx Z (Y j)) (hp j) (ptw_cmp (o j) (pew_named hN hi (hx j) (pew_of (pa j)) (hf j)) (pb j) hm) (pt j) pss_nil, sn_whileW ho sa sb st n⟩
end
end Pd

namespace Pd
open PySem L2 Evl
section
variable {K : PySem.W.Frag} {mg : Str → Option Value} {X : Cx}
def dIAdd (a b : D) (h : Ph) : R D := match a, b with
  | .int i, .int j => .ok (.int (i + j)) h
  | .str x, .str y => if x.length + y.length ≤ mostL then .ok (.str (x ++ y)) h else .bad
  | _, _ => .bad
def rIAdd : R2 := fun x y H Q => (rI0 (fun i j => .int (i + j)) x y H Q) ∨ (∃ i j, x = .str i ∧ y = .str j ∧ i.length + j.length ≤ sizeLine ∧ Q (.str (i ++ j)) H)
theorem iop_addAll : OpR X (inplaceOp .Add) rIAdd := iop_add.or iop_add_str
theorem oi_iadd : OpI K mg rIAdd dIAdd := by
  intro W σ w h H a b x y Q L ra rb hp
  unfold dIAdd at hp
  split at hp
  · cases ra; cases rb
    exact .inl ⟨_, _, rfl, rfl, Po.here L (.int _) hp⟩
  · cases ra; cases rb
    obtain ⟨hl, hp⟩ := Po.ite hp
    exact .inr ⟨_, _, rfl, rfl, mostL_le hl, Po.here L (.str _) hp⟩
  · exact hp.elim
def dIMul (a b : D) (h : Ph) : R D := match a, b with
  | .int i, .int j => if i.natAbs < 18446744073709551616 ∨ j.natAbs < 18446744073709551616 then .ok (.int (i * j)) h else .bad
  | _, _ => .bad
theorem oi_imul : OpI K mg (rI CMul fun i j => .int (i * j)) dIMul := by
  intro W σ w h H a b x y Q L ra rb hp
  unfold dIMul at hp
  split at hp
  · obtain ⟨hc, hp⟩ := Po.ite hp
    cases ra; cases rb
    rcases hc with hc | hc
    · exact ⟨_, _, rfl, rfl, .inl (by omega), Po.here L (.int _) hp⟩
    · exact ⟨_, _, rfl, rfl, .inr (by omega), Po.here L (.int _) hp⟩
  · exact hp.elim
def dIDiv (a b : D) (h : Ph) : R D := match a, b with
  | .int i, .int j => if 0 < j ∧ j.natAbs.log2 < 9000 then .ok (.int (i / j)) h else .bad
  | _, _ => .bad
theorem oi_idiv : OpI K mg (rI CDivW fun i j => .int (i / j)) dIDiv := by
  intro W σ w h H a b x y Q L ra rb hp
  unfold dIDiv at hp
  split at hp
  · obtain ⟨hc, hp⟩ := Po.ite hp
    cases ra; cases rb
    exact ⟨_, _, rfl, rfl, hc, Po.here L (.int _) hp⟩
  · exact hp.elim
end
theorem dIAdd_int {i j : Int} {h : Ph} : dIAdd (.int i) (.int j) h = .ok (.int (i + j)) h := rfl
end Pd

namespace Pd
open PySem L2 Evl
section
variable {κ : Type} [DecidableEq κ]
def valD (kvs : List (κ × D)) (k : κ) : Option D := (kvs.find? fun kv => decide (kv.1 = k)).map (·.2)
def putD (kvs : List (κ × D)) (k : κ) (v : D) : List (κ × D) :=
  if (kvs.any fun kv => decide (kv.1 = k)) = true then kvs.map (fun kv => if kv.1 = k then (kv.1, v) else kv) else kvs ++ [(k, v)]
variable {K : PySem.W.Frag} {mg : Str → Option Value} {w : Wd}
theorem RepK.val {ds : List (κ × D)} {vs : List (κ × V)} (r : RepK K mg w ds vs) (k : κ) : (∃ d v, valD ds k = some d ∧ valV vs k = some v ∧ Rep K mg w d v) ∨ (valD ds k = none ∧ valV vs k = none) := by
  induction r with
  | nil => exact .inr ⟨rfl, rfl⟩
  | @cons x d v ds vs h _ ih =>
    by_cases e : x = k
    · refine .inl ⟨d, v, ?_, ?_, h⟩
      · unfold valD; rw [List.find?_cons_of_pos (by simpa using e)]; rfl
      · unfold valV; rw [List.find?_cons_of_pos (by simpa using e)]; rfl
    · have e1 : valD ((x, d) :: ds) k = valD ds k := by unfold valD; rw [List.find?_cons_of_neg (by simpa using e)]
      have e2 : valV ((x, v) :: vs) k = valV vs k := by unfold valV; rw [List.find?_cons_of_neg (by simpa using e)]
      rw [e1, e2]; exact ih
theorem RepK.length {ds : List (κ × D)} {vs : List (κ × V)} (r : RepK K mg w ds vs) : ds.length = vs.length := by
  induction r with
  | nil => rfl
  | cons _ _ ih => rw [List.length_cons, List.length_cons, ih]
theorem RepK.put {ds : List (κ × D)} {vs : List (κ × V)} (r : RepK K mg w ds vs) {d : D} {v : V} (h : Rep K mg w d v) (k : κ) : RepK K mg w (putD ds k d) (putK vs k v) := by
  have a : (ds.any fun kv => decide (kv.1 = k)) = vs.any fun kv => decide (kv.1 = k) := by
    induction r with
    | nil => rfl
    | cons _ _ ih => rw [List.any_cons, List.any_cons, ih]
  have b : RepK K mg w (ds.map fun kv => if kv.1 = k then (kv.1, d) else kv) (vs.map fun kv => if kv.1 = k then (kv.1, v) else kv) := by
    clear a
    induction r with
    | nil => exact .nil
    | @cons x _ _ _ _ h2 _ ih =>
      rw [List.map_cons, List.map_cons]
      by_cases e : x = k
      · rw [if_pos e, if_pos e]; exact .cons h ih
      · rw [if_neg e, if_neg e]; exact .cons h2 ih
  have c : RepK K mg w (ds ++ [(k, d)]) (vs ++ [(k, v)]) := by
    clear a b
    induction r with
    | nil => exact .cons h .nil
    | cons h2 _ ih => exact .cons h2 ih
  unfold putD putK
  rw [a]
  by_cases q : (vs.any fun kv => decide (kv.1 = k)) = true
  · rw [if_pos q, if_pos q]; exact b
  · rw [if_neg q, if_neg q]; exact c
end
def keyOf : D → Option Key
  | .int i => some (.inl i)
  | .str x => some (.inr x)
  | _ => none
theorem keyOf_ok {K : PySem.W.Frag} {mg : Str → Option Value} {w : Wd} {d : D} {v : V} {k : Key} (e : keyOf d = some k) (r : Rep K mg w d v) : v = kV k := by
  cases r <;> cases e <;> rfl
def dkOf (d : D) (h : Ph) : Option (Nat × List (Key × D)) := match d with
  | .ref n => match h[n]? with
    | some (.dK kvs) => some (n, kvs)
    | _ => none
  | _ => none
theorem dkOf_ok {K : PySem.W.Frag} {mg : Str → Option Value} {w : Wd} {H : Hp} {h : Ph} (L : Lk K mg w h H) {d : D} {v : V} {n : Nat} {kvs : List (Key × D)} (e : dkOf d h = some (n, kvs)) (r : Rep K mg w d v) : ∃ a vs, d = .ref n ∧ v = .ref a ∧ w.ms[n]? = some a ∧ h[n]? = some (.dK kvs) ∧ H a = some (.dK vs) ∧ RepK K mg w kvs vs := by
  cases r with
  | ref q =>
    obtain ⟨o, u, h1, h2, r'⟩ := L.there q
    unfold dkOf at e
    simp only [h1] at e
    cases r' with
    | dK r' => cases e; exact ⟨_, _, rfl, rfl, q, h1, h2, r'⟩
    | _ => cases e
  | _ => cases e
def sDGet2 (fo fk fx : SE) : SE := fun e h => (fo e h).bind fun o h1 => R.opt (dkOf o h1) fun _ => (fk e h1).bind fun k h2 => (fx e h2).bind fun x h3 => R.opt (dkOf o h3) fun p => R.opt (keyOf k) fun k => .ok ((valD p.2 k).getD x) h3
def sDGet1 (fo fk : SE) : SE := fun e h => (fo e h).bind fun o h1 => R.opt (dkOf o h1) fun _ => (fk e h1).bind fun k h2 => R.opt (dkOf o h2) fun p => R.opt (keyOf k) fun k => .ok ((valD p.2 k).getD .non) h2
def setD (o k x : D) (h : Ph) : R Unit := R.opt (dkOf o h) fun p => R.opt (keyOf k) fun k => if p.2.length < mostL then .ok () (h.set p.1 (.dK (putD p.2 k x))) else .bad
def sPutD (f fo fi : SE) : SS := fun e h => (f e h).toF e fun x h1 => (fo e h1).toF e fun o h2 => (fi e h2).toF e fun i h3 => (setD o i x h3).toF e fun _ h4 => .nx e h4
section
variable {ι : Type} {Z : Cz} {Y : ι → Cy} {W : WX}
theorem ei_dget2 {o a b : Expr} {fo fa fb : SE} {apos cpos : Pos} (hu : ∀ i, (Y i).A.units + 1 < cLine) (ho : EI Z Y W o fo) (ha : EI Z Y W a fa) (hb : EI Z Y W b fb) (m : ∀ i, M2 (cx Z (Y i)) o "get" apos a b cpos := by intro _; exact ⟨rfl, rfl, rfl, rfl⟩) : EI Z Y W (.Call (.Attribute o "get" apos) [a, b] [] cpos) (sDGet2 fo fa fb) := by
  obtain ⟨to, po, so⟩ := ho
  obtain ⟨ta, pa, sa⟩ := ha
  obtain ⟨tb, pb, sb⟩ := hb
  refine ⟨_, fun i => pe_dget2 (X := cx Z (Y i)) (hu i) (po i) (pa i) (pb i) (m i), fun σ e w h H Q E L hp => so σ e w h H _ E L (Po.bind (Rp := Rep Z.K Z.mg) hp fun o1 h1 w1 H1 x _ st1 L1 r1 hp1 => ?_)⟩
  obtain ⟨⟨n, kvs⟩, e1, hp1⟩ := Po.some hp1
  obtain ⟨ad, vs, rfl, rfl, q, q2, q3, rk⟩ := dkOf_ok L1 e1 r1
  refine ⟨ad, rfl, .inl ⟨vs, .inl q3⟩, sa σ e w1 h1 H1 _ (E.mono st1.le) L1 (Po.bind (Rp := Rep Z.K Z.mg) hp1 fun a1 h2 w2 H2 y _ st2 L2 r2 hp2 => sb σ e w2 h2 H2 _ (E.mono (st1.le.trans st2.le)) L2 (Po.bind (Rp := Rep Z.K Z.mg) hp2 fun b1 h3 w3 H3 z _ st3 L3 r3 hp3 => ?_))⟩
  obtain ⟨⟨n', kvs'⟩, e2, hp3⟩ := Po.some hp3
  obtain ⟨k, e3, hp3⟩ := Po.some hp3
  obtain ⟨ad', vs', e4, e5, q', q2', q3', rk'⟩ := dkOf_ok L3 e2 (r1.mono (st2.le.trans st3.le))
  cases e5
  obtain rfl := keyOf_ok e3 (r2.mono st3.le)
  refine ⟨valV vs' k, DGet.k q3', ?_⟩
  rcases rk'.val k with ⟨d', v, z1, z2, z3⟩ | ⟨z1, z2⟩
  · rw [z2]
    have hp3 : PoE Z.K Z.mg W σ w3 H3 (.ok ((valD kvs' k).getD b1) h3) Q := hp3
    rw [z1] at hp3
    exact Po.here L3 z3 hp3
  · rw [z2]
    have hp3 : PoE Z.K Z.mg W σ w3 H3 (.ok ((valD kvs' k).getD b1) h3) Q := hp3
    rw [z1] at hp3
    exact Po.here L3 r3 hp3
theorem si_putD {o i v : Expr} {f fo fi : SE} {p2 pos : Pos} (hu : ∀ i, (Y i).A.units + 1 < cLine) (hf : EI Z Y W v f) (ho : EI Z Y W o fo) (hi : EI Z Y W i fi) (hs : ∀ j, swapsWith v (some (.Subscript o i p2)) pos.line (Y j).env = pure false := by intro _; rfl) : SI Z Y W (.Assign [.Subscript o i p2] v pos) (sPutD f fo fi) := by
  obtain ⟨tv, pv', sv⟩ := hf
  obtain ⟨to, po, so⟩ := ho
  obtain ⟨ti, pi, si⟩ := hi
  refine ⟨_, fun j => ps_dput (X := cx Z (Y j)) (hu j) (po j) (pi j) (pv' j) (hs j), fun σ e w h H D E L hp => sv σ e w h H _ E L (Po.toF (Rp := Rep Z.K Z.mg) E hp fun x h1 w1 H1 xv _ st1 L1 r1 hp1 =>
    so σ e w1 h1 H1 _ (E.mono st1.le) L1 (Po.toF (Rp := Rep Z.K Z.mg) (E.mono st1.le) hp1 fun o1 h2 w2 H2 ov _ st2 L2 r2 hp2 => si σ e w2 h2 H2 _ (E.mono (st1.le.trans st2.le)) L2 (Po.toF (Rp := Rep Z.K Z.mg) (E.mono (st1.le.trans st2.le)) hp2 fun i1 h3 w3 H3 iv _ st3 L3 r3 hp3 => ?_)))⟩
  have E3 := E.mono ((st1.le.trans st2.le).trans st3.le)
  cases e1 : dkOf o1 h3 with
  | none =>
    have hp3 : PoF Z.K Z.mg W w3 H3 ((R.opt (dkOf o1 h3) fun p => R.opt (keyOf i1) fun k => if p.2.length < mostL then R.ok () (h3.set p.1 (.dK (putD p.2 k x))) else .bad).toF e fun _ h4 => .nx e h4) D := hp3
    rw [e1] at hp3
    exact hp3.elim
  | some p =>
    obtain ⟨n, kvs⟩ := p
    have hp3 : PoF Z.K Z.mg W w3 H3 ((R.opt (dkOf o1 h3) fun p => R.opt (keyOf i1) fun k => if p.2.length < mostL then R.ok () (h3.set p.1 (.dK (putD p.2 k x))) else .bad).toF e fun _ h4 => .nx e h4) D := hp3
    rw [e1] at hp3
    cases e2 : keyOf i1 with
    | none =>
      rw [e2] at hp3
      exact hp3.elim
    | some k =>
      rw [e2] at hp3
      have hp3 : PoF Z.K Z.mg W w3 H3 ((if kvs.length < mostL then R.ok () (h3.set n (.dK (putD kvs k x))) else .bad).toF e fun _ h4 => .nx e h4) D := hp3
      by_cases hl : kvs.length < mostL
      · rw [if_pos hl] at hp3
        have hq := hp3
        obtain ⟨ad, vs, rfl, rfl, q, q2, q3, rk⟩ := dkOf_ok L3 e1 (r2.mono st3.le)
        obtain rfl := keyOf_ok e2 r3
        obtain ⟨l1, l2⟩ := L3.put q q2 (by intro z; cases z) (.dK (putD kvs k x)) (.dK (putK vs k xv)) (.dK (rk.put (r1.mono (st2.le.trans st3.le)) k))
        have hp3 : PoF Z.K Z.mg W w3 H3 (.nx e (h3.set n (.dK (putD kvs k x)))) D := hq
        exact ⟨ad, upd H3 ad (.dK (putK vs k xv)), rfl, DPut.k q3 (by rw [← rk.length, ← mostL_eq]; exact hl), hp3 w3 _ σ l2 l1 E3⟩
      · rw [if_neg hl] at hp3
        exact hp3.elim
end
end Pd

namespace Pd
open PySem L2 Evl
def tPin (t : TE) : TE := fun σ H Q => t σ H fun x H1 => ∃ d u, x = .ref d ∧ H1 d = some u ∧ Mut (some u) ∧ ∀ od, Q x (upd H1 d (.frz od u))
theorem pe_pin {X : Cx} {e : Expr} {t : TE} (h : PE X e t) : PE X e (tPin t) := by
  refine ⟨fun pins s σ H Q I hw => ?_⟩
  refine thn (h.run pins s σ _ _ I hw) fun v s1 ⟨x, H1, I1, r, d, u, e1, e2, mu, q⟩ => ?_
  obtain ⟨od, I2⟩ := I1.lock e2 mu
  exact ⟨x, _, I2, r, q od⟩
section
variable {K : PySem.W.Frag} {mg : Str → Option Value} {w : Wd} {h : Ph} {H : Hp}
theorem Lk.pin (L : Lk K mg w h H) {n : Nat} {a : Addr} {o0 : PO} {u : HO} (e : w.ms[n]? = some a) (e0 : h[n]? = some o0) (hd : o0 ≠ .dead) :
    Lk K mg ⟨w.ms, upd w.G a u⟩ (h.set n .dead) (upd H a u) ∧ Step w H ⟨w.ms, upd w.G a u⟩ (upd H a u) ∧ Le w ⟨w.ms, upd w.G a u⟩ := by
  have ga := L.out n a o0 e e0 hd
  have le : Le w ⟨w.ms, upd w.G a u⟩ := ⟨⟨[], by simp⟩, Ex.new ga⟩
  have am : a ∈ w.ms := List.mem_of_getElem? e
  refine ⟨⟨fun b v q => ?_, by rw [List.length_set]; exact L.len, fun m b o' e1 e2 => ?_, L.inj, fun m b o' e1 e2 e3 => ?_⟩, ⟨le, fun b v q nb => ?_, fun _ q => .inl q, fun b q nb _ => ?_⟩, le⟩
  · by_cases z : b = a
    · subst z
      rw [show (⟨w.ms, upd w.G b u⟩ : Wd).G b = some u from upd_same] at q
      rw [upd_same]; exact q
    · rw [show (⟨w.ms, upd w.G a u⟩ : Wd).G b = w.G b from upd_ne z] at q
      rw [upd_ne z]
      exact L.ex b v q
  · by_cases z : m = n
    · subst z
      rw [e] at e1
      cases e1
      rw [List.getElem?_set_self', e0] at e2
      cases e2
      exact ⟨u, upd_same, .dead⟩
    · rw [List.getElem?_set_ne (Ne.symm z)] at e2
      obtain ⟨v, hv, r'⟩ := L.obj m b o' e1 e2
      refine ⟨v, ?_, r'.mono le⟩
      rw [upd_ne fun y => z (L.inj m n a (by rw [← y]; exact e1) e)]
      exact hv
  · by_cases z : m = n
    · subst z
      rw [List.getElem?_set_self', e0] at e2
      cases e2
      exact absurd rfl e3
    · rw [List.getElem?_set_ne (Ne.symm z)] at e2
      show upd w.G a u b = none
      rw [upd_ne fun y => z (L.inj m n a (by rw [← y]; exact e1) e)]
      exact L.out m b o' e1 e2 e3
  · rw [upd_ne fun y => nb (by rw [y]; exact am)]
    exact q
  · show upd w.G a u b = w.G b
    exact upd_ne fun y => nb (by rw [y]; exact am)
def kD : Key → D
  | .inl i => .int i
  | .inr x => .str x
theorem kD_ok {k : Key} : Rep K mg w (kD k) (kV k) := by
  cases k
  · exact .int _
  · exact .str _
theorem RepK.get {κ : Type} {ds : List (κ × D)} {vs : List (κ × V)} (r : RepK K mg w ds vs) : ∀ {i : Nat} {k : κ} {d : D}, ds[i]? = some (k, d) → ∃ v, vs[i]? = some (k, v) ∧ Rep K mg w d v := by
  induction r with
  | nil => intro i k d e; cases e
  | cons h _ ih =>
    intro i k d e
    cases i with
    | zero => cases e; exact ⟨_, rfl, h⟩
    | succ i => exact ih (i := i) e
def itemsD (kvs : List (Key × D)) : List D := kvs.map fun p => .tup [kD p.1, p.2]
def valsD (kvs : List (Key × D)) : List D := kvs.map (·.2)
def keysD (kvs : List (Key × D)) : List D := kvs.map fun p => kD p.1
theorem itOk_items {a : Addr} {o : Obj} {kvs : List (Key × D)} {vs : List (Key × V)} (q : w.G a = some (.frz o (.dK vs))) (r : RepK K mg w kvs vs) : ItOk K mg w (Iti a o vs) (itemsD kvs) where
  go := fun w' h' H' i d le L e => by
    unfold itemsD at e
    rw [List.getElem?_map] at e
    cases e1 : kvs[i]? with
    | none => rw [e1] at e; cases e
    | some p =>
      obtain ⟨k, x⟩ := p
      rw [e1] at e
      cases e
      obtain ⟨v, hv, rv⟩ := r.get e1
      refine ⟨⟨L.ex _ _ (le.ex _ _ q), (List.getElem?_eq_some_iff.mp hv).1⟩, fun z H'' hy => ?_⟩
      obtain ⟨T, k', v', y1, rfl, np, rfl⟩ := hy
      rw [hv] at y1
      cases y1
      obtain ⟨l1, l2, l3⟩ := L.lay np (.tup [kV k, v])
      exact ⟨_, l2, l1, .tup (.inl upd_same) (.cons kD_ok (.cons ((rv.mono le).mono l3) .nil))⟩
  stop := fun w' h' H' i le L hl => by
    unfold itemsD at hl
    rw [List.length_map, r.length] at hl
    exact ⟨L.ex _ _ (le.ex _ _ q), hl⟩
theorem itOk_vals {a : Addr} {o : Obj} {kvs : List (Key × D)} {vs : List (Key × V)} (q : w.G a = some (.frz o (.dK vs))) (r : RepK K mg w kvs vs) : ItOk K mg w (Itd a o vs) (valsD kvs) where
  go := fun w' h' H' i d le L e => by
    unfold valsD at e
    rw [List.getElem?_map] at e
    cases e1 : kvs[i]? with
    | none => rw [e1] at e; cases e
    | some p =>
      obtain ⟨k, x⟩ := p
      rw [e1] at e
      cases e
      obtain ⟨v, hv, rv⟩ := r.get e1
      refine ⟨⟨L.ex _ _ (le.ex _ _ q), (List.getElem?_eq_some_iff.mp hv).1⟩, fun z H'' hy => ?_⟩
      obtain ⟨rfl, k', y1⟩ := hy
      rw [hv] at y1
      cases y1
      exact ⟨_, Step.refl _ _, L, rv.mono le⟩
  stop := fun w' h' H' i le L hl => by
    unfold valsD at hl
    rw [List.length_map, r.length] at hl
    exact ⟨L.ex _ _ (le.ex _ _ q), hl⟩
theorem itOk_keys {a : Addr} {o : Obj} {kvs : List (Key × D)} {vs : List (Key × V)} (q : w.G a = some (.frz o (.dK vs))) (r : RepK K mg w kvs vs) : ItOk K mg w (Itk a o vs) (keysD kvs) where
  go := fun w' h' H' i d le L e => by
    unfold keysD at e
    rw [List.getElem?_map] at e
    cases e1 : kvs[i]? with
    | none => rw [e1] at e; cases e
    | some p =>
      obtain ⟨k, x⟩ := p
      rw [e1] at e
      cases e
      obtain ⟨v, hv, rv⟩ := r.get e1
      refine ⟨⟨L.ex _ _ (le.ex _ _ q), (List.getElem?_eq_some_iff.mp hv).1⟩, fun z H'' hy => ?_⟩
      obtain ⟨rfl, k', v', y1, rfl⟩ := hy
      rw [hv] at y1
      cases y1
      exact ⟨_, Step.refl _ _, L, kD_ok⟩
  stop := fun w' h' H' i le L hl => by
    unfold keysD at hl
    rw [List.length_map, r.length] at hl
    exact ⟨L.ex _ _ (le.ex _ _ q), hl⟩
end
def iItemsD (f : SE) : SIt := fun e h => (f e h).bind fun o h1 => R.opt (dkOf o h1) fun p => .ok (itemsD p.2) (h1.set p.1 .dead)
def iValsD (f : SE) : SIt := fun e h => (f e h).bind fun o h1 => R.opt (dkOf o h1) fun p => .ok (valsD p.2) (h1.set p.1 .dead)
def iKeysD (f : SE) : SIt := fun e h => (f e h).bind fun o h1 => R.opt (dkOf o h1) fun p => .ok (keysD p.2) (h1.set p.1 .dead)
section
variable {ι : Type} {Z : Cz} {Y : ι → Cy} {W : WX}
theorem ii_items {elts : List Expr} {kk : Nat} {tpos apos cpos : Pos} {a : Expr} {f : SE} (ha : EI Z Y W a f) (hbase : ∀ i, attributeBase a "items" (Y i).env (eval a (Y i).env) = eval a (Y i).env := by intro _; rfl) (hline : (apos.endLine == cpos.line) = true := by rfl) :
    II Z Y W (.Tuple elts kk tpos) (.Call (.Attribute a "items" apos) [] [] cpos) (iItemsD f) := by
  obtain ⟨t, pa, s⟩ := ha
  refine ⟨_, fun i => pi_items (X := cx Z (Y i)) (pe_pin (pa i)) (hbase i) hline, fun σ e w h H Q E L hp => s σ e w h H _ E L (Po.bind (Rp := Rep Z.K Z.mg) (Rq := fun w xs J => ItOk Z.K Z.mg w J xs) hp fun a1 h1 w1 H1 x _ st1 L1 r1 hp1 => ?_)⟩
  obtain ⟨⟨n, kvs⟩, e1, hq⟩ := Po.some (Rp := fun w xs J => ItOk Z.K Z.mg w J xs) hp1
  obtain ⟨ad, vs, e2, rfl, q, q2, q3, rk⟩ := dkOf_ok L1 e1 r1
  refine ⟨ad, _, rfl, q3, trivial, fun od => ?_⟩
  obtain ⟨l1, l2, l3⟩ := L1.pin (u := .frz od (.dK vs)) q q2 (by intro z; cases z)
  exact ⟨ad, od, vs, rfl, upd_same, hq _ _ _ l2 l1 (itOk_items upd_same (rk.mono l3))⟩
theorem ii_keys {tg a : Expr} {f : SE} (ha : EI Z Y W a f) : II Z Y W tg a (iKeysD f) := by
  obtain ⟨t, pa, s⟩ := ha
  refine ⟨_, fun i => pi_keys (X := cx Z (Y i)) (pe_pin (pa i)), fun σ e w h H Q E L hp => s σ e w h H _ E L (Po.bind (Rp := Rep Z.K Z.mg) (Rq := fun w xs J => ItOk Z.K Z.mg w J xs) hp fun a1 h1 w1 H1 x _ st1 L1 r1 hp1 => ?_)⟩
  obtain ⟨⟨n, kvs⟩, e1, hq⟩ := Po.some (Rp := fun w xs J => ItOk Z.K Z.mg w J xs) hp1
  obtain ⟨ad, vs, e2, rfl, q, q2, q3, rk⟩ := dkOf_ok L1 e1 r1
  refine ⟨ad, _, rfl, q3, trivial, fun od => ?_⟩
  obtain ⟨l1, l2, l3⟩ := L1.pin (u := .frz od (.dK vs)) q q2 (by intro z; cases z)
  exact ⟨ad, od, rfl, .inl ⟨vs, upd_same, hq _ _ _ l2 l1 (itOk_keys upd_same (rk.mono l3))⟩⟩
end
end Pd

namespace Pd
open PySem L2 Evl
def isoR (r : R D) (h : Ph) : R D := match r with
  | .ok d _ => match d.bel 0 with
    | true => .ok d h
    | false => .bad
  | .exc c none _ => .exc c none h
  | .exc c (some fs) _ => match bel2 0 fs with
    | true => .exc c (some fs) h
    | false => .bad
  | .bad => .bad
def iso (fn : Fn) : Fn := fun as h => match D.bel.bels 0 as with
  | true => isoR (fn as []) h
  | false => fn as h
section
variable {K : PySem.W.Frag} {mg : Str → Option Value} {w w' : Wd} {h h' : Ph} {H H' : Hp}
theorem Lk.none (L : Lk K mg w h H) : Lk K mg ⟨[], w.G⟩ [] H := by
  have := Lk.cut (h := []) (g := h) (by simpa using L) (fun o ho => nomatch ho)
  simpa using this
theorem Rep.none {d : D} {v : V} (r : Rep K mg w d v) (e : d.bel 0 = true) : Rep K mg ⟨[], w.G⟩ d v := by simpa using r.cut e
theorem Reps.none {d : List D} {v : List V} (r : Reps K mg w d v) (e : D.bel.bels 0 d = true) : Reps K mg ⟨[], w.G⟩ d v := by simpa using r.cut e
theorem le_none {ms : List Addr} {G : Hp} : Le ⟨[], G⟩ ⟨ms, G⟩ := ⟨⟨ms, rfl⟩, Ex.refl _⟩
theorem iso_back (L : Lk K mg w h H) (st : Step ⟨[], w.G⟩ H w' H') (L' : Lk K mg w' h' H') : Step w H ⟨w.ms, w'.G⟩ H' ∧ Lk K mg ⟨w.ms, w'.G⟩ h H' := by
  have le : Le w ⟨w.ms, w'.G⟩ := ⟨⟨[], by simp⟩, st.le.ex⟩
  have fr : ∀ a o, H a = some o → H' a = some o := fun a o e => st.frm a o e (by simp)
  have gg : ∀ a, H a ≠ Option.none → (∀ xs, H a ≠ some (.tup xs)) → w'.G a = w.G a := fun a e => st.newG a e (by simp)
  refine ⟨⟨le, fun a o e _ => fr a o e, fun a e => .inl e, fun a e _ => gg a e⟩, ⟨L'.ex, L.len, fun n a o e1 e2 => ?_, L.inj, fun n a o e1 e2 e3 => ?_⟩⟩
  · obtain ⟨u, hu, r⟩ := L.obj n a o e1 e2
    exact ⟨u, fr a u hu, r.mono le⟩
  · obtain ⟨u, hu, r⟩ := L.obj n a o e1 e2
    show w'.G a = Option.none
    rw [gg a (by rw [hu]; simp) (fun xs z => r.no_tup e3 xs (Option.some.inj (hu.symm.trans z)))]
    exact L.out n a o e1 e2 e3
theorem RepF.none {d : List (Str × D)} {v : List (Str × V)} (r : RepF K mg w d v) (e : bel2 0 d = true) : RepF K mg ⟨[], w.G⟩ d v := by simpa using r.cut e
theorem RepX.none {c : Str} {fs : Option (List (Str × D))} {C : Value} {d : Option Addr} (r : RepX K mg w c fs C d) (hb : ∀ l, fs = some l → bel2 0 l = true) : RepX K mg ⟨[], w.G⟩ c fs C d := by simpa using r.cut hb
theorem PoC.iso {Q : VK} {E : XK} {as : List D} {vs : List V} {fn : Fn} (L : Lk K mg w h H) (r : Reps K mg w as vs) (hp : PoC K mg Q E w H (Pd.iso fn as h)) :
    ∃ w0 h0, Lk K mg w0 h0 H ∧ Reps K mg w0 as vs ∧ PoC K mg Q E w0 H (fn as h0) := by
  unfold Pd.iso at hp
  cases e : D.bel.bels 0 as with
  | false =>
    rw [e] at hp
    exact ⟨w, h, L, r, hp⟩
  | true =>
    rw [e] at hp
    refine ⟨⟨[], w.G⟩, [], L.none, r.none e, ?_⟩
    have hp : PoC K mg Q E w H (isoR (fn as []) h) := hp
    cases z : fn as [] with
    | bad => rw [z] at hp; exact hp.elim
    | ok d h' =>
      rw [z] at hp
      unfold isoR at hp
      cases ed : d.bel 0 with
      | false => simp only [ed] at hp; exact hp.elim
      | true =>
        simp only [ed] at hp
        intro w' H' v st L' r'
        obtain ⟨s1, l1⟩ := iso_back L st L'
        exact hp _ H' v s1 l1 ((r'.none ed).mono le_none)
    | exc c fs h' =>
      rw [z] at hp
      cases fs with
      | none =>
        intro w' H' C dd st L' r'
        obtain ⟨s1, l1⟩ := iso_back L st L'
        exact hp _ H' C dd s1 l1 ((r'.none fun l e => nomatch e).mono le_none)
      | some fs =>
        unfold isoR at hp
        cases ed : bel2 0 fs with
        | false => simp only [ed] at hp; exact hp.elim
        | true =>
          simp only [ed] at hp
          intro w' H' C dd st L' r'
          obtain ⟨s1, l1⟩ := iso_back L st L'
          exact hp _ H' C dd s1 l1 ((r'.none fun l e => by cases e; exact ed).mono le_none)
end
theorem Def.iso {B : Cb} {k : Nat} {x : Str} {n : Nat} {fn : Fn} (d : Def B k x n fn) : Def B k x n (Pd.iso fn) := by
  obtain ⟨a, fd, ps, F, hm, hk, hb⟩ := d.ex
  refine ⟨a, fd, ps, F.imp fun vs H Q E h => ?_, hm, hk, hb⟩
  obtain ⟨w, h, as, el, L, r, hp⟩ := h
  obtain ⟨w0, h0, L0, r0, p0⟩ := PoC.iso L r hp
  exact ⟨w0, h0, as, el, L0, r0, p0⟩
theorem iso_ok {fn : Fn} {as : List D} {d : D} {h' : Ph} (ha : D.bel.bels 0 as = true) (e : fn as [] = .ok d h') (hd : d.bel 0 = true) (h : Ph) : iso fn as h = .ok d h := by
  unfold iso
  rw [ha]
  show isoR (fn as []) h = _
  rw [e]
  unfold isoR
  simp only [hd]
end Pd

namespace Pd
open PySem PySem.Spec PyProof.Rows L2 Evl PySem.W
section
variable {prog : Program} {w : World} {A : Around} {E : Value → Shared → Prop} {s : Shared}
theorem best_mem {vs : List Value} {k : Value → List Int} {v0 : Value} {r : List Value} (e : vs = v0 :: r) : ∃ v, vs[argBest (fun i j => HT.lexLt (k (vs.getD i .none)) (k (vs.getD j .none))) (vs.length - 1)]? = some v ∧ k v = (r.map k).foldl (fun a y => if HT.lexLt y a then y else a) (k v0) := by
  subst e
  obtain ⟨h1, h2⟩ := argBest_fold (fun x y : Value => HT.lexLt (k x) (k y)) Value.none v0 r r.length (Nat.le_refl _)
  rw [List.take_length] at h2
  have hl : (v0 :: r).length - 1 = r.length := rfl
  rw [hl]
  generalize argBest (fun i j => HT.lexLt (k ((v0 :: r).getD i .none)) (k ((v0 :: r).getD j .none))) r.length = b at h1 h2
  have hb : b < (v0 :: r).length := by rw [List.length_cons]; omega
  refine ⟨(v0 :: r)[b], List.getElem?_eq_getElem hb, ?_⟩
  rw [List.getD_eq_getElem?_getD, List.getElem?_eq_getElem hb] at h2
  have h2 : (v0 :: r)[b] = _ := h2
  rw [h2, List.foldl_map]
  exact go r v0
where go : ∀ (l : List Value) (a : Value), k (l.foldl (fun a y => if HT.lexLt (k y) (k a) then y else a) a) = l.foldl (fun a y => if HT.lexLt (k y) a then k y else a) (k a)
  | [], _ => rfl
  | y :: l, a => by
    rw [List.foldl_cons, List.foldl_cons, go l]
    congr 1
    split <;> rfl
theorem min_tups {a : Addr} {vs : List Value} {k : Value → List Int} {v0 : Value} {r : List Value} {Q : Value → Shared → Prop} (hh : A.handled = none) (hl : s.heap.IsList a vs.toArray ∨ s.heap.IsTuple a vs.toArray) (e : vs = v0 :: r) (hu : A.in1.units < cLine)
    (hp : ∀ v ∈ vs, ∃ t its, v = Value.ref t ∧ IsTup s.heap t its ∧ IntsAre its.toList (k v))
    (h : ∀ v h' tk, v ∈ vs → k v = (r.map k).foldl (fun a y => if HT.lexLt y a then y else a) (k v0) → (∀ b o, s.heap.get? b = some o → h'.get? b = some o) → Q v { s with heap := h', toks := tk }) :
    wpAny (model prog w) A (call (.builtin "min") [.ref a]) Q E s := by
  have cmp : CmpIn prog w A.in1 .Lt s.heap (fun i v => vs.toArray[i]? = some v) (fun i j => HT.lexLt (k (vs.getD i .none)) (k (vs.getD j .none))) := fun i j vi vj s' Q E hk hi hj hq => by
    have gi : vs[i]? = some vi := by simpa using hi
    have gj : vs[j]? = some vj := by simpa using hj
    obtain ⟨t, its, rfl, p1, i1⟩ := hp vi (List.mem_of_getElem? gi)
    obtain ⟨t2, its2, rfl, p2, i2⟩ := hp vj (List.mem_of_getElem? gj)
    obtain ⟨o, e1, e2⟩ := p1
    obtain ⟨o', e3, e4⟩ := p2
    refine HT.lt_tupInts (s := s') ⟨o, hk _ _ e1, e2⟩ ⟨o', hk _ _ e3, e4⟩ i1 i2 hu ?_
    have hq : Q (.bool (HT.lexLt (k (vs.getD i .none)) (k (vs.getD j .none)))) s' := hq
    rw [List.getD_eq_getElem?_getD, gi, List.getD_eq_getElem?_getD, gj] at hq
    exact hq
  have fin : ∀ (s₂ : Shared) (o : Obj), s₂ = { s with heap := s.heap.push o } → ∀ v s', vs.toArray[argBest (fun i j => HT.lexLt (k (vs.getD i .none)) (k (vs.getD j .none))) (vs.toArray.size - 1)]? = some v → Moved [s.heap.objs.size] (fun a b => b = a) s₂ s' → Q v s' := fun s₂ o e2 v s' hP m => by
    obtain ⟨h', tk, rfl, hk'⟩ := moved_old e2 rfl m
    obtain ⟨v', g1, g2⟩ := best_mem (k := k) e
    have : v = v' := by
      rw [List.getElem?_toArray, List.size_toArray, g1] at hP
      exact (Option.some.inj hP).symm
    subst this
    exact h v h' tk (List.mem_of_getElem? g1) g2 hk'
  have hn : 0 < vs.toArray.size := by rw [List.size_toArray, e]; exact Nat.succ_pos _
  rcases hl with hl | hl
  · refine call_min_walkH (iter_listW (A := A.in1) hh hl fun s₂ e W st hfp hw hk => ?_)
    exact ⟨_, _, _, _, _, _, _, s.heap, _, rfl, W, st, hfp, hn, hw, hk, cmp, fun v s' hP m => fin _ _ e v s' hP m⟩
  · refine call_min_walkH (iter_tupleW (A := A.in1) hh hl fun s₂ e W st hfp hw hk => ?_)
    exact ⟨_, _, _, _, _, _, _, s.heap, _, rfl, W, st, hfp, hn, hw, hk, cmp, fun v s' hP m => fin _ _ e v s' hP m⟩
end
def minS (m : List Int) (r : List (List Int)) : List Int := r.foldl (fun a y => if HT.lexLt y a then y else a) m
def rMinU (K : PySem.W.Frag) : List V → Hp → VK → Prop := fun vs H Q => ∃ (a : Addr) (p0 : V × List Int) (L : List (V × List Int)), vs = [V.ref a] ∧ (SqL K H a ((p0 :: L).map (·.1)) ∨ SqT K H a ((p0 :: L).map (·.1))) ∧ (∀ p ∈ p0 :: L, ∃ t, p.1 = V.ref t ∧ SqT K H t (p.2.map V.int)) ∧
  ∀ p ∈ p0 :: L, p.2 = minS p0.2 (L.map (·.2)) → Q p.1 H
section
variable {X : Cx}
theorem cr_minU (hc : X.calm = true) (hu : X.A.in1.units < cLine) : CallR X (.builtin "min") (rMinU X.K) := by
  intro pins s σ H vs us Q I r h
  obtain ⟨a, p0, L, rfl, hs, hx, q⟩ := h
  obtain ⟨u, rfl, ru⟩ := vals1 r
  obtain rfl : u = Value.ref a := ru
  have hs : ∃ its : List Value, Vals ((p0 :: L).map (·.1)) its ∧ (s.heap.IsList a its.toArray ∨ s.heap.IsTuple a its.toArray) := by
    rcases hs with hs | hs
    · obtain ⟨its, rv, hl, _⟩ := I.list hs
      exact ⟨its, rv, .inl hl.isList⟩
    · obtain ⟨its, rv, hl, _⟩ := I.tuple hs
      exact ⟨its, rv, .inr hl⟩
  obtain ⟨its, rv, hl⟩ := hs
  have tp : ∀ p ∈ p0 :: L, ∃ t, p.1 = V.ref t ∧ TS.TupInts s.heap (.ref t) p.2 := fun p hp => by
    obtain ⟨t, e, ht⟩ := hx p hp
    obtain ⟨its2, r2, tu, _⟩ := I.tuple ht
    exact ⟨t, e, t, _, rfl, tu, by simpa using ints_vals r2⟩
  have eL := pairs_of rv tp
  have tv : ∀ v ∈ its, (backV v, TS.intsOf s.heap v) ∈ p0 :: L ∧ ∃ t its2, v = Value.ref t ∧ IsTup s.heap t its2 ∧ IntsAre its2.toList (TS.intsOf s.heap v) := fun v hv => by
    have hm : (backV v, TS.intsOf s.heap v) ∈ p0 :: L := by rw [eL]; exact List.mem_map.mpr ⟨v, hv, rfl⟩
    obtain ⟨t, e, ti⟩ := tp _ hm
    refine ⟨hm, ?_⟩
    cases v with
    | ref b =>
      have : b = t := V.ref.inj e
      subst this
      obtain ⟨a', xs, e', p', i'⟩ := ti
      cases e'
      exact ⟨_, xs, rfl, p', i'⟩
    | _ => cases e
  cases its with
  | nil => cases eL
  | cons v0 rest =>
    rw [List.map_cons] at eL
    injection eL with e0 e1
    refine min_tups (k := TS.intsOf s.heap) (I.ok.hd hc) hl rfl hu (fun v hv => (tv v hv).2) fun v h' tk hv hk keep => ?_
    refine ⟨backV v, H, I.kept keep, ?_, q _ (tv v hv).1 ?_⟩
    · obtain ⟨_, t, _, rfl, _⟩ := tv v hv
      exact rfl
    · show TS.intsOf s.heap v = _
      rw [hk, e0, e1, List.map_map]
      rfl
end
def minAll (xs : List D) (h : Ph) : R D := match intsOf xs with
  | some bs => match bs with
    | [] => .bad
    | m :: r => .ok (.int (minZ m r)) h
  | none => R.opt (tupsOf xs) fun ns => match ns with
    | [] => .bad
    | m :: r => .ok (tupZ (minS m r)) h
def dMinA (a : D) (h : Ph) : R D := match a with
  | .tup xs => R.opt (tupsOf xs) fun ns => match ns with
    | [] => .bad
    | m :: r => .ok (tupZ (minS m r)) h
  | a => R.opt (lstOf a h) fun xs => minAll xs h
def rMinA (K : PySem.W.Frag) : List V → Hp → VK → Prop := fun vs H Q => rMin K vs H Q ∨ rMinU K vs H Q
theorem cr_minA {X : Cx} (hc : X.calm = true) (hu : X.A.in1.units < cLine) : CallR X (.builtin "min") (rMinA X.K) := (cr_min hc).or (cr_minU hc hu)
theorem minS_mem (m : List Int) : ∀ r : List (List Int), minS m r ∈ m :: r := by
  intro r
  unfold minS
  induction r generalizing m with
  | nil => exact List.mem_cons_self
  | cons x r ih =>
    rw [List.foldl_cons]
    have := ih (if HT.lexLt x m = true then x else m)
    rcases List.mem_cons.mp this with q | q
    · rw [q]
      split
      · exact List.mem_cons_of_mem _ List.mem_cons_self
      · exact List.mem_cons_self
    · exact List.mem_cons_of_mem _ (List.mem_cons_of_mem _ q)
section
variable {K : PySem.W.Frag} {mg : Str → Option Value} {W : WX} {σ : L2.St} {w : Wd} {h : Ph} {H : Hp} {Q : VK}
theorem minU_ok (L : Lk K mg w h H) {xs : List D} {ns : List (List Int)} {vs : List V} {m : List Int} {r : List (List Int)} (e : tupsOf xs = some ns) (rs : Reps K mg w xs vs) (en : ns = m :: r) (hp : PoE K mg W σ w H (.ok (tupZ (minS m r)) h) Q) {a : Addr} (ha : SqL K H a vs ∨ SqT K H a vs) : rMinU K [.ref a] H Q := by
  obtain ⟨M, m1, m2, m3⟩ := tupsOf_ok e rs
  subst en
  cases M with
  | nil => cases m2
  | cons p0 M =>
    rw [List.map_cons] at m2
    injection m2 with m4 m5
    refine ⟨a, p0, M, rfl, by rw [m1]; exact ha, fun p hp => ?_, fun p hpM ep => ?_⟩
    · obtain ⟨t, e, sq⟩ := (m3 p hp).2.1
      exact ⟨t, e, SqT.ex L sq⟩
    · have := (m3 p hpM).2.2
      rw [ep, m4, m5] at this
      exact Po.here L this hp
theorem ci_minA : CallI K mg (rMinA K) (g1 dMinA) := ci_1 fun W σ w h H a x Q L ra hp => by
  have lst : ∀ {a : D}, Rep K mg w a x → PoE K mg W σ w H (R.opt (lstOf a h) fun xs => minAll xs h) Q → rMinA K [x] H Q := fun {a} ra hp => by
    obtain ⟨xs, e, hp⟩ := Po.some hp
    obtain ⟨b, vs, e1, h1, h2⟩ := lstOf_ok L e ra
    subst e1
    unfold minAll at hp
    cases q : intsOf xs with
    | some bs =>
      refine .inl (ci_minL W σ w h H [a] [.ref b] Q L (.cons ra .nil) ?_)
      show PoE K mg W σ w H (dMinL a h) Q
      unfold dMinL
      rw [e, R.opt_some, q, R.opt_some]
      rw [q] at hp
      exact hp
    | none =>
      rw [q] at hp
      obtain ⟨ns, e2, hp⟩ := Po.some hp
      cases ns with
      | nil => exact hp.elim
      | cons m r => exact .inr (minU_ok L e2 h2 rfl hp (.inl h1))
  cases ra with
  | @tup t vs xs sq rs =>
    obtain ⟨ns, e2, hp⟩ := Po.some hp
    cases ns with
    | nil => exact hp.elim
    | cons m r => exact .inr (minU_ok L e2 rs rfl hp (.inr (SqT.ex L sq.sq)))
  | lst q r => exact lst (.lst q r) hp
  | seq q r => exact lst (.seq q r) hp
  | ref q => exact lst (.ref q) hp
  | _ => exact hp.elim
end
end Pd

namespace Pd
open PySem PySem.Spec PyProof.Rows L2
def metBits (m : Nat) : Nat → Nat → Nat → Nat
  | 0, _, a => a
  | n + 1, x, a => metBits m n ((x * 5 + 1) % (m + 1)) (a ||| 2 ^ x)
theorem metBits_at {m j : Nat} : ∀ n b a, (metBits m n (lcgN m b) a).testBit j = true → a.testBit j = true ∨ ∃ k, k < b + n ∧ lcgN m k = j
  | 0, _, _, h => .inl h
  | n + 1, b, a, h => by
    have h' : (metBits m n (lcgN m (b + 1)) (a ||| 2 ^ lcgN m b)).testBit j = true := h
    rcases metBits_at n (b + 1) _ h' with e | ⟨k, k1, k2⟩
    · rw [Nat.testBit_or, Bool.or_eq_true, Nat.testBit_two_pow] at e
      exact e.imp id fun e => ⟨b, by omega, of_decide_eq_true e⟩
    · exact .inr ⟨k, by omega, k2⟩
structure Rnd (m : Nat) : Prop where
  odd : m % 2 = 1
  top : m ≤ 511
  is : m = 7 ∨ m = 31 ∨ m = 127 ∨ m = 511
  back : lcgN m (m + 1) = 0
  hit : metBits m (m + 1) 0 0 = 2 ^ (m + 1) - 1
theorem rnd7 : Rnd 7 := ⟨rfl, by decide, by decide, by decide +kernel, by decide +kernel⟩
theorem rnd31 : Rnd 31 := ⟨rfl, by decide, by decide, by decide +kernel, by decide +kernel⟩
theorem rnd127 : Rnd 127 := ⟨rfl, by decide, by decide, by decide +kernel, by decide +kernel⟩
theorem rnd511 : Rnd 511 := ⟨rfl, by decide, by decide, by decide +kernel, by decide +kernel⟩
section
variable {m i j : Nat}
theorem Rnd.zero (R : Rnd m) (hj : j ≤ m) : ∃ k, k ≤ m ∧ lcgN m k = j := by
  have h : (metBits m (m + 1) (lcgN m 0) 0).testBit j = true := by
    show (metBits m (m + 1) 0 0).testBit j = true
    rw [R.hit, Nat.testBit_two_pow_sub_one]
    exact decide_eq_true (by omega)
  rcases metBits_at _ _ _ h with e | ⟨k, k1, k2⟩
  · rw [Nat.zero_testBit] at e; cases e
  · exact ⟨k, by omega, k2⟩
theorem Rnd.per (R : Rnd m) : ∀ k, lcgN m (m + 1 + k) = lcgN m k
  | 0 => R.back
  | k + 1 => congrArg (fun z => (z * 5 + 1) % (m + 1)) (R.per k)
theorem Rnd.any (R : Rnd m) (hi : i ≤ m) (hj : j ≤ m) : ∃ k, k ≤ m ∧ lcgI m i k = j := by
  obtain ⟨a, a1, rfl⟩ := R.zero hi
  obtain ⟨b, b1, rfl⟩ := R.zero hj
  by_cases c : a ≤ b
  · exact ⟨b - a, by omega, by rw [lcgN_add, Nat.add_sub_cancel' c]⟩
  · refine ⟨m + 1 + b - a, by omega, ?_⟩
    rw [lcgN_add, Nat.add_sub_cancel' (by omega), R.per]
theorem Rnd.run (R : Rnd m) (h : Int) (hj : j ≤ m) : ∃ n, n ≤ m + 12 ∧ runI m (SetTable.bits h) n = j := by
  obtain ⟨k, k1, k2⟩ := R.any (runI_le m (SetTable.bits h) 12) hj
  exact ⟨12 + k, by omega, (runI_tail (bits_lt h) k).trans k2⟩
theorem Rnd.way (R : Rnd m) (h : Int) (hj : j ≤ m) : ∃ k, k < 10 * SetTable.turns m ∧ way m h k = j := by
  obtain ⟨n, n1, n2⟩ := R.run h hj
  obtain ⟨k, k1, k2⟩ := run_nth m (SetTable.bits h) n
  exact ⟨k, by unfold SetTable.turns; omega, (congrArg SetTable.Probe.j k2).trans n2⟩
theorem wayLe (m : Nat) (h : Int) (k : Nat) : way m h k ≤ m := by
  have r0 : SetTable.bits h % (m + 1) < m + 1 := Nat.mod_lt _ (Nat.succ_pos m)
  have r1 := runEnd_bd (m := m) (Nat.le_of_lt_succ r0)
  have r2 := nth_in (m := m) k (runAt m (SetTable.bits h % (m + 1)) (SetTable.bits h)) (by show SetTable.bits h % (m + 1) + (SetTable.runEnd m (SetTable.bits h % (m + 1)) - SetTable.bits h % (m + 1)) ≤ m; omega)
  exact Nat.le_trans (Nat.le_add_right _ _) r2
end
def LedTo (m : Nat) (S : Nat → Prop) (h : Int) (j : Nat) : Prop := ∃ k, way m h k = j ∧ ∀ i, i < k → S (way m h i)
theorem LedTo.mono {m : Nat} {S S' : Nat → Prop} {h : Int} {j : Nat} (x : LedTo m S h j) (s : ∀ x, S x → S' x) : LedTo m S' h j := by
  obtain ⟨k, k1, k2⟩ := x
  exact ⟨k, k1, fun i hi => s _ (k2 i hi)⟩
structure Tb (t : SetTable) (hs : List Int) : Prop where
  up : Ris t.place.toList
  nod : t.dummies = #[]
  len : t.place.toList.length = hs.length
  rn : Rnd t.mask
  le : ∀ x ∈ t.place.toList, x ≤ t.mask
  led : ∀ q ∈ hs.zip t.place.toList, LedTo t.mask (· ∈ t.place.toList) q.1 q.2
section
variable {t : SetTable} {hs : List Int} {h : Int} {K : Nat}
theorem Tb.gap (T : Tb t hs) (hl : hs.length ≤ t.mask) (h : Int) : ∃ K, K < 10 * SetTable.turns t.mask ∧ way t.mask h K ∉ t.place.toList ∧ ∀ i, i < K → way t.mask h i ∈ t.place.toList := by
  obtain ⟨j, j1, j2⟩ := st_missing t.place.toList (t.mask + 1) (by rw [T.len]; omega)
  obtain ⟨k, k1, k2⟩ := T.rn.way h (Nat.le_of_lt_succ j1)
  obtain ⟨K, a, b, c⟩ := st_least (p := fun i => way t.mask h i ∉ t.place.toList) k (by rw [k2]; exact j2)
  exact ⟨K, by omega, b, fun i hi => Classical.not_not.mp (c i hi)⟩
theorem Tb.ere (T : Tb t hs) {i j : Nat} (hK : way t.mask h K ∉ t.place.toList) (hi : hs[i]? = some h) (hj : t.place.toList[i]? = some j) : ∃ k, k < K ∧ way t.mask h k = j := by
  obtain ⟨k, k1, k2⟩ := T.led (h, j) (List.mem_of_getElem? (i := i) (List.getElem?_zip_eq_some.mpr ⟨hi, hj⟩))
  refine ⟨k, Nat.lt_of_not_le fun c => ?_, k1⟩
  rcases Nat.lt_or_eq_of_le c with c | c
  · exact hK (k2 K c)
  · exact hK (by rw [c, k1]; exact List.mem_of_getElem? hj)
theorem zip_take {α β : Type} {l : List α} {r : List β} {n : Nat} : (l.zip r).take n = (l.take n).zip (r.take n) := List.take_zipWith
theorem zip_drop {α β : Type} {l : List α} {r : List β} {n : Nat} : (l.zip r).drop n = (l.drop n).zip (r.drop n) := List.drop_zipWith
theorem Tb.more (T : Tb t hs) {p j : Nat} (ej : way t.mask h K = j) (ep : SetTable.below t.place j = p) (hK : j ∉ t.place.toList) (hb : ∀ i, i < K → way t.mask h i ∈ t.place.toList) :
    p ≤ hs.length ∧ ∃ t', t.put j = (t', p) ∧ Tb t' (hs.take p ++ h :: hs.drop p) ∧ t'.mask = t.mask ∧ t'.led = t.led ∧ t'.plain = t.plain ∧ t'.fill = hs.length + 1 := by
  have c1 := (below_cut T.up j).1
  rw [ep, ← Array.length_toList] at c1
  have pl : p ≤ hs.length := T.len ▸ c1
  have np : t.place[SetTable.below t.place j]? ≠ some j := fun e => hK (List.mem_of_getElem? (by rw [Array.getElem?_toList]; exact e))
  have pp := put_place t j
  rw [ep] at pp
  have grow : ∀ x, x ∈ t.place.toList → x ∈ (t.put j).1.place.toList := fun x hx => by rw [pp]; exact mem_ins.2 (.inr hx)
  have ll : (t.put j).1.place.toList.length = hs.length + 1 := by rw [pp, len_ins _ c1, T.len]
  refine ⟨pl, (t.put j).1, Prod.ext rfl ep, ⟨ris_insert T.up np, put_dm T.nod j, by rw [ll, len_ins _ pl], T.rn, fun x hx => ?_, fun q hq => ?_⟩, rfl, rfl, rfl, ?_⟩
  · rw [pp] at hx
    exact (mem_ins.1 hx).elim (fun e => by rw [e, ← ej]; exact wayLe _ _ _) (T.le x)
  · show LedTo t.mask _ q.1 q.2
    rw [pp, List.zip_append (by rw [List.length_take, List.length_take, T.len]), ← zip_take, List.zip_cons_cons, ← zip_drop, List.mem_append, List.mem_cons] at hq
    rcases hq with hq | rfl | hq
    · exact (T.led q (List.mem_of_mem_take hq)).mono grow
    · exact ⟨K, ej, fun i hi => grow _ (hb i hi)⟩
    · exact (T.led q (List.mem_of_mem_drop hq)).mono grow
  · show (t.put j).1.place.size + (t.put j).1.dummies.size = _
    rw [put_dm T.nod j, ← Array.length_toList, ll]
    rfl
end
theorem free_at {m : Nat} (R : Rnd m) (ow : Array (Option Nat)) (h : Int) {j : Nat} (hj : j ≤ m) (hf : oAt ow j = none) :
    ∃ K, SetTable.layClean.free m ow (SetTable.turns m) (SetTable.bits h % (m + 1)) (SetTable.bits h) = some (way m h K) ∧ oAt ow (way m h K) = none ∧ ∀ i, i < K → oAt ow (way m h i) ≠ none := by
  obtain ⟨n, n1, n2⟩ := R.run h hj
  have e : way m h (off m (SetTable.bits h % (m + 1)) (SetTable.bits h) n) = j := (congrArg SetTable.Probe.j ((nth_off m n _ _).trans (by rw [itL_run]))).trans n2
  obtain ⟨K, a, b, c⟩ := st_least (p := fun i => oAt ow (way m h i) = none) _ (e ▸ hf)
  refine ⟨K, free_spec m ow _ n _ _ K (by unfold SetTable.turns; omega) a (fun i hi => ?_) (Option.isNone_iff_eq_none.mpr b), b, c⟩
  exact Bool.eq_false_iff.mpr fun z => c i hi (Option.isNone_iff_eq_none.mp z)
theorem own_more {m : Nat} (R : Rnd m) {done : List Int} {ow : Array (Option Nat)} (W : Own m done ow) (hl : done.length ≤ m) (h : Int) :
    ∃ j, SetTable.layClean.free m ow (SetTable.turns m) (SetTable.bits h % (m + 1)) (SetTable.bits h) = some j ∧ Own m (done ++ [h]) (ow.setIfInBounds j (some done.length)) := by
  obtain ⟨ps, p1, p2⟩ := W.ps
  obtain ⟨j0, a1, a2⟩ := st_missing ps (m + 1) (by omega)
  obtain ⟨K, f1, f2, f3⟩ := free_at R ow h (Nat.le_of_lt_succ a1) (Classical.byContradiction fun z => a2 (p2 j0 (Nat.le_of_lt_succ a1) z))
  generalize ej : way m h K = j at f1 f2
  have jm : j ≤ m := ej ▸ wayLe m h K
  have self := oAt_set_self (owner := ow) (some done.length) (show j < ow.size by rw [W.sz]; omega)
  have other : ∀ {i}, i ≠ j → oAt (ow.setIfInBounds j (some done.length)) i = oAt ow i := fun c => oAt_set_ne _ c
  have keep : ∀ i, oAt ow i ≠ none → oAt (ow.setIfInBounds j (some done.length)) i ≠ none := fun i hi => by
    rw [other (fun z => hi (by rw [z]; exact f2))]; exact hi
  have llen : (done ++ [h]).length = done.length + 1 := by rw [List.length_append, List.length_singleton]
  refine ⟨j, f1, by rw [Array.size_setIfInBounds, W.sz], fun i k hi e => ?_, fun k hk => ?_, j :: ps, by rw [llen, List.length_cons, p1], fun i hi e => ?_⟩
  · by_cases c : i = j
    · rw [c, self] at e
      cases e
      exact ⟨h, K, by rw [List.getElem?_append_right (Nat.le_refl _), Nat.sub_self]; rfl, ej.trans c.symm, fun n hn => keep _ (f3 n hn)⟩
    · rw [other c] at e
      obtain ⟨h', K', b1, b2, b3⟩ := W.at_ i k hi e
      exact ⟨h', K', by rw [List.getElem?_append_left (List.getElem?_eq_some_iff.mp b1).1, b1], b2, fun n hn => keep _ (b3 n hn)⟩
  · rw [llen] at hk
    rcases Nat.lt_or_eq_of_le (Nat.le_of_lt_succ hk) with c | c
    · obtain ⟨i, b1, b2⟩ := W.all k c
      exact ⟨i, b1, (other fun z => by rw [z, f2] at b2; cases b2).trans b2⟩
    · exact ⟨j, jm, c ▸ self⟩
  · by_cases c : i = j
    · exact c ▸ List.mem_cons_self
    · rw [other c] at e
      exact List.mem_cons_of_mem _ (p2 i hi e)
theorem fold_more {m : Nat} (R : Rnd m) : ∀ (r done : List Int) (ow : Array (Option Nat)), Own m done ow → done.length + r.length ≤ m → ∃ ow', r.foldl (stepF m) (some (ow, done.length)) = some (ow', (done ++ r).length) ∧ Own m (done ++ r) ow'
  | [], done, ow, W, _ => ⟨ow, by rw [List.append_nil]; rfl, by rwa [List.append_nil]⟩
  | h :: r, done, ow, W, hl => by
    have hl2 : done.length + (r.length + 1) ≤ m := hl
    obtain ⟨j, e, W1⟩ := own_more R W (by omega) h
    have ln : (done ++ [h]).length = done.length + 1 := by rw [List.length_append, List.length_singleton]
    obtain ⟨ow', e2, W2⟩ := fold_more R r _ _ W1 (by omega)
    rw [List.append_assoc, List.singleton_append, ln] at e2
    rw [List.append_assoc, List.singleton_append] at W2
    exact ⟨ow', (congrArg (List.foldl (stepF m) · r) (stepF_some e)).trans e2, W2⟩
theorem relaid_at (t : SetTable) {hs : Array Int} {wt M : Nat} (hw : SetTable.sizeAbove wt - 1 = M) (R : Rnd M) (hn : hs.size ≤ M) :
    ∃ t' ord, t.relaid hs wt = some (t', ord) ∧ ord.toList.Perm (List.range hs.size) ∧ Tb t' (ord.toList.map fun i => hs.getD i 0) ∧ t'.mask = M ∧ t'.led = t.led ∧ t'.plain = t.plain := by
  obtain ⟨ow, e, W⟩ := fold_more R hs.toList [] _ (Own.init M) (by show 0 + hs.size ≤ M; omega)
  rw [List.nil_append] at e W
  have e0 : SetTable.layClean M hs = some ow := by rw [layClean_eq]; exact congrArg (Option.map (·.1)) e
  have e1 : t.relaid hs wt = some (tabOf t M ow, ((liveOf M ow).map (·.2)).toArray) := by rw [relaid_eq, hw, e0]; rfl
  obtain ⟨u1, u2⟩ : Ris ((liveOf M ow).map (·.1)) ∧ ∀ x ∈ (liveOf M ow).map (·.1), x ∈ List.range (M + 1) := ris_live (fun j => ow.getD j none) (List.range (M + 1)) List.pairwise_lt_range
  have ml : ∀ {j k}, (j, k) ∈ liveOf M ow ↔ j ≤ M ∧ oAt ow j = some k := mem_live W.sz
  have cover : ∀ k, k < hs.size → k ∈ (liveOf M ow).map (·.2) := fun k hk => by
    obtain ⟨j, b⟩ := W.all k hk
    exact List.mem_map.mpr ⟨(j, k), ml.2 b, rfl⟩
  have ln : (liveOf M ow).length = hs.size := by
    obtain ⟨ps, p1, p2⟩ := W.ps
    have a := nat_nodup_len ((liveOf M ow).map (·.1)) ps (by unfold Ris at u1; exact u1.imp Nat.ne_of_lt) fun x hx => by
      obtain ⟨⟨y, k⟩, hq, rfl⟩ := List.mem_map.mp hx
      obtain ⟨b1, b2⟩ := ml.1 hq
      exact p2 y b1 (by rw [b2]; exact Option.some_ne_none k)
    have b := nat_nodup_len (List.range hs.size) _ List.nodup_range fun k hk => cover k (List.mem_range.mp hk)
    rw [List.length_map] at a b
    rw [List.length_range] at b
    have : hs.toList.length = hs.size := rfl
    omega
  refine ⟨tabOf t M ow, _, e1, perm_range _ _ ((List.length_map _).trans ln) cover, ⟨u1, rfl, ?_, R, fun x hx => Nat.le_of_lt_succ (List.mem_range.mp (u2 x hx)), fun q hq => ?_⟩, rfl, rfl, rfl⟩
  · show ((liveOf M ow).map (·.1)).length = (((liveOf M ow).map (·.2)).map _).length
    rw [List.length_map, List.length_map, List.length_map]
  · have hq' : q ∈ (((liveOf M ow).map (·.2)).map fun i => hs.getD i 0).zip ((liveOf M ow).map (·.1)) := hq
    rw [List.map_map, List.zip_map', List.mem_map] at hq'
    obtain ⟨⟨j, k⟩, hl, rfl⟩ := hq'
    obtain ⟨h0, K, a1, a2, a3⟩ := W.at_ j k (ml.1 hl).1 (ml.1 hl).2
    have eh : hs.getD k 0 = h0 := by rw [Array.getD_eq_getD_getElem?, ← Array.getElem?_toList, a1]; rfl
    show LedTo M (· ∈ (liveOf M ow).map (·.1)) (hs.getD k 0) j
    rw [eh]
    refine ⟨K, a2, fun i hi => ?_⟩
    obtain ⟨k2, z⟩ := Option.ne_none_iff_exists'.mp (a3 i hi)
    exact List.mem_map.mpr ⟨(way M h0 i, k2), ml.2 ⟨wayLe _ _ _, z⟩, rfl⟩
end Pd
namespace Pd
open PySem PySem.Spec PyProof.Rows L2
structure Sq (P : Program) (w : World) (h : Heap) (a : Addr) (L : List (Addr × List Int)) (es : Array (Int × Value)) (ep : Nat) (t : SetTable) : Prop where
  at_ : ∃ o, h.get? a = some o ∧ o.ExactSet ∧ o.data = .set es ep t
  row : es.toList = rowsOf P w L
  tb : Tb t (L.map fun p => thash P w p.2)
  one : (L.map (·.2)).Nodup
  pln : t.plain = true
  led : w.params.followText "set-order" = true ∨ t.led = true
  gap : L.length * 5 < t.mask * 3
section
variable {P : Program} {w : World} {A : Around} {E : Value → Shared → Prop} {s : Shared} {a : Addr} {L : List (Addr × List Int)} {es : Array (Int × Value)} {ep : Nat} {t : SetTable}
theorem rows_size (e : es.toList = rowsOf P w L) : es.size = L.length := by
  rw [← Array.length_toList, e]
  exact List.length_map _
theorem rows_get (e : es.toList = rowsOf P w L) {i : Nat} {p : Addr × List Int} (h : L[i]? = some p) : es[i]? = some (thash P w p.2, Value.ref p.1) := by
  rw [← Array.getElem?_toList, e]
  show (L.map _)[i]? = _
  rw [List.getElem?_map, h]
  rfl
theorem Tb.fits {hs : List Int} (T : Tb t hs) {n : Nat} (e : n = hs.length) (h : hs.length ≤ t.mask) : t.fits n = true := by
  have l := T.len
  rw [Array.length_toList] at l
  show (t.place.size == n && decide (t.place.size + t.dummies.size ≤ t.mask)) = true
  rw [T.nod, Bool.and_eq_true, beq_iff_eq, decide_eq_true_eq]
  exact ⟨l.trans e.symm, by show t.place.size + 0 ≤ _; omega⟩
theorem Sq.few (S : Sq P w s.heap a L es ep t) : L.length < 307 := by
  have := S.gap; have := S.tb.rn.top; omega
theorem Sq.fits (S : Sq P w s.heap a L es ep t) : t.fits es.size = true := S.tb.fits (by rw [List.length_map, rows_size S.row]) (by rw [List.length_map]; have := S.gap; omega)
theorem Sq.calm (S : Sq P w s.heap a L es ep t) : ¬ t.gaveWay = true := by
  unfold SetTable.gaveWay
  rw [S.tb.rn.odd]
  decide
theorem nth_plain (m : Nat) : ∀ (n : Nat) (p : SetTable.Probe), p.dummy = none → (nth m p n).dummy = none
  | 0, _, h => h
  | n + 1, p, h => nth_plain m n _ (by unfold adv; split <;> exact h)
theorem Sq.seek (S : Sq P w s.heap a L es ep t) (tp : ∀ p : Addr × List Int, p ∈ L → IsT P w s.heap p.2 p.1) {x : Addr} {k : List Int} (hx : IsT P w s.heap k x) (hu : A.units < cLine) {H : Int} (eH : thash P w k = H) {K : Nat} (k1 : K < 10 * SetTable.turns t.mask) (k2 : way t.mask H K ∉ t.place.toList) (k3 : ∀ c, c < K → way t.mask H c ∈ t.place.toList)
    {Q : SetFound → Shared → Prop} (yes : k ∈ L.map (·.2) → Q (.there none) s) (no : k ∉ L.map (·.2) → Q (.free (way t.mask H K) false) s) :
    ∀ (f c : Nat) (st : Option SetTable.Probe), st.getD (t.probeStart H) = nth t.mask (t.probeStart H) c → c ≤ K → K < c + f → (∀ (i : Nat) (p : Addr × List Int), L[i]? = some p → p.2 = k → ∃ d, c ≤ d ∧ d < K ∧ t.place.toList[i]? = some (way t.mask H d)) → wpAny (model P w) A (setSearchFrom a (.ref x) H true f st) Q E s := by
  obtain ⟨o, o1, o2, o3⟩ := S.at_
  intro f
  induction f with
  | zero => intro c st _ h1 h2; omega
  | succ f ih =>
    intro c st e0 h1 h2 h3
    have wy : ∀ n, (nth t.mask (nth t.mask (t.probeStart H) c) n).j = way t.mask H (c + n) := fun n => congrArg SetTable.Probe.j (nth_add t.mask c (t.probeStart H) n).symm
    have tells := go_spec t S.tb.up S.tb.nod (fun i => (es[i]?.map (·.1)).getD 0) H (10 * SetTable.turns t.mask) (K - c) (nth t.mask (t.probeStart H) c) (nth_plain _ c _ rfl) (by omega) (fun n hn => by rw [wy]; exact k3 _ (by omega)) (by rw [wy, Nat.add_sub_cancel' h1]; exact k2)
    have hash : ∀ (i : Nat) (p : Addr × List Int), L[i]? = some p → (fun i => (es[i]?.map (·.1)).getD 0) i = thash P w p.2 := fun i p hp => by simp only [rows_get S.row hp]; rfl
    rw [setSearchFrom_succ]
    refine wpAny_bind (wpAny_setState_of o1 o3 S.fits ?_)
    dsimp only
    refine wp_if_neg S.calm ?_
    try refine wpAny_bind (wpAny_pure ?_)
    rcases tells with ⟨n, i, n1, n2, n3, n4, n5⟩ | ⟨n4, n5⟩
    · have e1 : t.probe (fun i => (es[i]?.map (·.1)).getD 0) H (st.getD (t.probeStart H)) = some (.candidate (way t.mask H (c + n)) i (nth t.mask (t.probeStart H) (c + (n + 1)))) := by
        rw [e0, ← wy, nth_add]; exact n5
      rw [e1]
      dsimp only
      rw [wy] at n2
      have il : i < L.length := by
        have z := S.tb.len
        rw [List.length_map] at z
        rw [← z]
        exact (List.getElem?_eq_some_iff.mp n2).1
      obtain ⟨p, hp⟩ : ∃ p, L[i]? = some p := ⟨_, List.getElem?_eq_getElem il⟩
      have pm := List.mem_of_getElem? hp
      have sl := slot_live S.tb.up n2
      have further : wpAny (model P w) A (searchRest a (.ref x) H true f es t (way t.mask H (c + n)) i (nth t.mask (t.probeStart H) (c + (n + 1)))) Q E s := by
        unfold searchRest
        rw [rows_get S.row hp]
        dsimp only
        refine wpAny_bind (wpAny_holding (wpAny_eqBool_tuple hu (tp p pm) hx (wpAny_bind (wpAny_setState_of o1 o3 S.fits ?_))))
        dsimp only
        by_cases q : p.2 = k
        · exact wp_if_pos (by simp [q]) (wpAny_pure (yes (q ▸ List.mem_map_of_mem pm)))
        · refine wp_if_neg (by simp [q]) ?_
          try refine wpAny_bind (wpAny_pure ?_)
          rw [sameMem]
          dsimp only
          simp only [if_true, sl, rows_get S.row hp]
          refine wpAny_bind (wpAny_isSame_ref_self (wpAny_bind (wpAny_pure ?_)))
          simp only [if_true]
          refine wp_if_neg (by simp [q]) (ih (c + (n + 1)) _ rfl (by omega) (by omega) fun i2 p2 hi hk => ?_)
          obtain ⟨d, d1, d2, d3⟩ := h3 i2 p2 hi hk
          refine ⟨d, Nat.lt_of_not_le fun z => ?_, d2, d3⟩
          rcases Nat.lt_or_eq_of_le (show d ≤ c + n by omega) with z | z
          · exact n4 (d - c) i2 (by omega) (by rw [wy, Nat.add_sub_cancel' d1]; exact d3) ((hash i2 p2 hi).trans (by rw [hk, eH]))
          · rw [z] at d3
            have z2 := slot_live S.tb.up d3
            rw [sl] at z2
            cases z2
            rw [hp] at hi
            cases hi
            exact q hk
      by_cases z : t.led = true
      · refine wp_if_neg (by simp [z]) ?_
        try refine wpAny_bind (wpAny_pure ?_)
        exact further
      · refine wp_if_pos (by simp [z]) (wpAny_bind (seen_tup hx (fun y hy => ?_) (wp_if_neg (by decide) ?_)))
        · obtain ⟨e, he, rfl⟩ := List.mem_map.mp hy
          have he2 : e ∈ es.toList := by have : e ∈ es ∧ e.1 = H := by simpa using he
                                         exact Array.mem_toList_iff.mpr this.1
          rw [S.row] at he2
          obtain ⟨p2, m2, rfl⟩ := List.mem_map.mp he2
          exact ⟨p2.2, p2.1, rfl, tp p2 m2⟩
        · try refine wpAny_bind (wpAny_pure ?_)
          exact further
    · have e1 : t.probe (fun i => (es[i]?.map (·.1)).getD 0) H (st.getD (t.probeStart H)) = some (.empty (way t.mask H K) none) := by
        have z := wy (K - c)
        rw [Nat.add_sub_cancel' h1] at z
        rw [e0, ← z]
        exact n5
      rw [e1]
      dsimp only
      refine wpAny_pure (no fun z => ?_)
      obtain ⟨p, pm, q⟩ := List.mem_map.mp z
      obtain ⟨i, hi⟩ := List.getElem?_of_mem pm
      obtain ⟨d, d1, d2, d3⟩ := h3 i p hi q
      exact n4 (d - c) i (by omega) (by rw [wy, Nat.add_sub_cancel' d1]; exact d3) ((hash i p hi).trans (by rw [q, eH]))
theorem Sq.search (S : Sq P w s.heap a L es ep t) (tp : ∀ p : Addr × List Int, p ∈ L → IsT P w s.heap p.2 p.1) {x : Addr} {k : List Int} (hx : IsT P w s.heap k x) (hu : A.units < cLine) {H : Int} (eH : thash P w k = H) {Q : SetFound → Shared → Prop} (yes : k ∈ L.map (·.2) → Q (.there none) s)
    (no : ∀ K, k ∉ L.map (·.2) → way t.mask H K ∉ t.place.toList → (∀ c, c < K → way t.mask H c ∈ t.place.toList) → Q (.free (way t.mask H K) false) s) : wpAny (model P w) A (setSearch a (.ref x) H true) Q E s := by
  obtain ⟨K, k1, k2, k3⟩ := S.tb.gap (by rw [List.length_map]; have := S.gap; omega) H
  have top := S.tb.rn.top
  have small : K < 100000 := by unfold SetTable.turns at k1; omega
  unfold setSearch
  refine S.seek tp hx hu eH k1 k2 k3 yes (fun n => no K n k2 k3) 100000 0 none rfl (Nat.zero_le _) (by omega) fun i p hi q => ?_
  have il : i < t.place.toList.length := by rw [S.tb.len, List.length_map]; exact (List.getElem?_eq_some_iff.mp hi).1
  obtain ⟨d, d1, d2⟩ := S.tb.ere (h := H) (j := t.place.toList[i]) k2 (by rw [List.getElem?_map, hi, ← eH, ← q]; rfl) (List.getElem?_eq_getElem il)
  exact ⟨d, Nat.zero_le _, d1, by rw [d2]; exact List.getElem?_eq_getElem il⟩
end
end Pd
namespace Pd
open PySem PySem.Spec PyProof.Rows L2
section
variable {P : Program} {w : World} {A : Around} {E : Value → Shared → Prop} {s : Shared} {a : Addr} {L : List (Addr × List Int)} {es : Array (Int × Value)} {ep : Nat} {t : SetTable}
theorem relaying {o : Obj} (o1 : s.heap.get? a = some o) (o2 : o.ExactSet) (o3 : o.data = .set es ep t) (row : es.toList = rowsOf P w L) (T : Tb t (L.map fun p => thash P w p.2)) (le : L.length ≤ t.mask) (one : (L.map (·.2)).Nodup) (pln : t.plain = true) (led : w.params.followText "set-order" = true ∨ t.led = true)
    {wt M : Nat} (hw : SetTable.sizeAbove wt = M + 1) (R : Rnd M) (gap : L.length * 5 < M * 3) {Q : Unit → Shared → Prop} (q : ∀ h' L' es' ep' t', Heap.SameBut a s.heap h' → Sq P w h' a L' es' ep' t' → L'.Perm L → Q () { s with heap := h' }) : wpAny (model P w) A (setRelay a wt) Q E s := by
  have sz := rows_size row
  have top := R.top
  obtain ⟨t2, ord, e, pm, T2, m2, l2, p2⟩ := relaid_at t (hs := es.map (·.1)) (wt := wt) (by rw [hw]; rfl) R (by rw [Array.size_map, sz]; omega)
  rw [Array.size_map, sz] at pm
  obtain ⟨L2, r1, r2, r3⟩ := order_rows L es ord row pm
  rw [← r3] at T2
  have sz2 : (ord.filterMap (es[·]?)).size = es.size := by rw [rows_size r1, r2.length_eq, sz]
  rw [setRelay_eq]
  refine wpAny_bind (wpAny_setState_of o1 o3 (T.fits (by rw [List.length_map, sz]) (by rw [List.length_map]; exact le)) ?_)
  dsimp only
  refine wp_if_neg (by rw [hw, sizeLine_eq]; omega) ?_
  try refine wpAny_bind (wpAny_pure ?_)
  rw [e]
  dsimp only
  refine wpAny_bind (wp_if_neg (by rw [sz2]; simp) ?_)
  try refine wpAny_bind (wpAny_pure ?_)
  refine wpAny_pure ?_
  dsimp only
  refine wpAny_storeSet_of o1 o3 (q _ L2 _ (ep + 1) t2 (Heap.SameBut.update ..) ⟨⟨_, store_at o1 o3, ⟨o2.1, o2.2.1, o2.2.2⟩, rfl⟩, r1, T2, (r2.map (·.2)).nodup_iff.mpr one, p2.trans pln, led.imp id l2.trans, ?_⟩ r2) (by rw [sz2, sz, sizeLine_eq]; omega)
  rw [r2.length_eq, m2]
  exact gap
theorem grow5 : SetTable.sizeAbove (SetTable.grown 5) = 31 + 1 := by decide +kernel
theorem grow19 : SetTable.sizeAbove (SetTable.grown 19) = 127 + 1 := by decide +kernel
theorem grow77 : SetTable.sizeAbove (SetTable.grown 77) = 511 + 1 := by decide +kernel
theorem rnd_cases {m n : Nat} (R : Rnd m) (h1 : n * 5 < m * 3) (h2 : (n + 1) * 5 ≥ m * 3) (h3 : n < 300) : ∃ M, SetTable.sizeAbove (SetTable.grown (n + 1)) = M + 1 ∧ Rnd M ∧ (n + 1) * 5 < M * 3 := by
  rcases R.is with e | e | e | e <;> subst e
  · obtain rfl : n = 4 := by omega
    exact ⟨31, grow5, rnd31, by decide⟩
  · obtain rfl : n = 18 := by omega
    exact ⟨127, grow19, rnd127, by decide⟩
  · obtain rfl : n = 76 := by omega
    exact ⟨511, grow77, rnd511, by decide⟩
  · omega
end
end Pd
namespace Pd
open PySem PySem.Spec PyProof.Rows L2
section
variable {P : Program} {w : World} {A : Around} {E : Value → Shared → Prop} {s : Shared} {a : Addr} {L : List (Addr × List Int)} {es : Array (Int × Value)} {ep : Nat} {t : SetTable}
theorem Sq.add (S : Sq P w s.heap a L es ep t) (tp : ∀ p : Addr × List Int, p ∈ L → IsT P w s.heap p.2 p.1) {x : Addr} {k : List Int} (hx : IsT P w s.heap k x) (hu : A.units < cLine) (few : L.length < 300) {Q : Bool → Shared → Prop}
    (q : ∀ b h' L' es' ep' t', Heap.SameBut a s.heap h' → Sq P w h' a L' es' ep' t' → (k ∈ L.map (·.2) → L' = L) → (k ∉ L.map (·.2) → L'.Perm ((x, k) :: L)) → Q b { s with heap := h' }) : wpAny (model P w) A (setAddHashed a (.ref x) (thash P w k)) Q E s := by
  obtain ⟨o, o1, o2, o3⟩ := S.at_
  have gap := S.gap
  generalize eH : thash P w k = H
  unfold setAddHashed
  refine wpAny_holding ?_
  rw [show (100000 : Nat) = 99999 + 1 from rfl, setAddHashedIn_succ]
  refine wpAny_bind (wpAny_setState_of o1 o3 S.fits ?_)
  dsimp only
  refine wp_if_neg (by simp [byScan, Value.scannable]) ?_
  try refine wpAny_bind (wpAny_pure ?_)
  refine wpAny_bind (S.search tp hx hu eH (fun hm => ?_) fun K hm f1 f2 => ?_)
  · dsimp only
    exact wpAny_pure (q false s.heap L es ep t (Heap.SameBut.refl a s.heap) S (fun _ => rfl) fun z => absurd hm z)
  dsimp only
  refine wpAny_bind (wpAny_setState_of o1 o3 S.fits ?_)
  dsimp only
  generalize ej : way t.mask H K = j at f1
  generalize eq : SetTable.below t.place j = p
  obtain ⟨pl, t1, u1, u2, u3, u4, u5, u6⟩ := S.tb.more ej eq f1 f2
  rw [List.length_map] at pl u6
  rw [u1]
  dsimp only
  first
    | (refine wpAny_bind ?_; refine wp_if_pos (u5.trans S.pln) ?_; refine hashBy_tup hx ?_)
    | refine wp_if_pos (u5.trans S.pln) (wpAny_bind (hashBy_tup hx ?_))
  simp only [if_true]
  have perm := put_perm L p (x, k)
  have row1 : (SetTable.insertAt es p (H, Value.ref x)).toList = rowsOf P w (L.take p ++ (x, k) :: L.drop p) := by rw [SetTable.toList_insertAt, rows_put, S.row, eH]
  have tb1 : Tb t1 ((L.take p ++ (x, k) :: L.drop p).map fun p => thash P w p.2) := by
    rw [List.map_append, List.map_cons, List.map_take, List.map_drop]
    simp only [eH]
    exact u2
  have one1 : ((L.take p ++ (x, k) :: L.drop p).map (·.2)).Nodup := (perm.map (·.2)).nodup_iff.mpr (List.nodup_cons.mpr ⟨hm, S.one⟩)
  generalize L.take p ++ (x, k) :: L.drop p = L1 at perm row1 tb1 one1
  have len1 : L1.length = L.length + 1 := perm.length_eq
  have sz1 := rows_size row1
  generalize SetTable.insertAt es p (H, Value.ref x) = es1 at row1 sz1
  refine wpAny_bind (wpAny_storeSet_of o1 o3 ?_ (by rw [sz1, len1, sizeLine_eq]; omega))
  have sb : Heap.SameBut a s.heap (s.heap.update a (Obj.putSet es1 t1)) := Heap.SameBut.update ..
  have ob1 := store_at (es' := es1) (t' := t1) o1 o3
  generalize s.heap.update a (Obj.putSet es1 t1) = h1 at sb ob1
  have led1 := S.led.imp id (u4.trans ·)
  by_cases full : t1.tooFull = true
  · have more : (L.length + 1) * 5 ≥ t.mask * 3 := by
      unfold SetTable.tooFull at full
      rw [decide_eq_true_eq, u6, u3] at full
      exact full
    obtain ⟨M, g1, g2, g3⟩ := rnd_cases S.tb.rn gap more few
    rw [rows_size S.row]
    have go := relaying (A := A) (E := E) (s := { s with heap := h1 }) ob1 ⟨o2.1, o2.2.1, o2.2.2⟩ rfl row1 tb1 (by rw [len1, u3]; rcases S.tb.rn.is with e | e | e | e <;> rw [e] at gap ⊢ <;> omega) one1 (u5.trans S.pln) led1 g1 g2 (by rw [len1]; exact g3) (Q := fun _ s' => wpAny (model P w) A (pure true) Q E s')
      fun h2 L2 es2 ep2 t2 sb2 S2 pm2 => wpAny_pure (q true h2 L2 es2 ep2 t2 (sb.trans sb2) S2 (fun z => absurd z hm) fun _ => pm2.trans perm)
    first
      | (refine wpAny_bind ?_; refine wp_if_pos (by simp [full]) ?_; exact go)
      | (refine wp_if_pos (by simp [full]) ?_; refine wpAny_bind ?_; exact go)
  · have less : (L.length + 1) * 5 < t.mask * 3 := by
      unfold SetTable.tooFull at full
      rw [decide_eq_true_eq, u6, u3] at full
      omega
    have fin : Q true { s with heap := h1 } := q true h1 L1 es1 (ep + 1) t1 sb ⟨⟨_, ob1, ⟨o2.1, o2.2.1, o2.2.2⟩, rfl⟩, row1, tb1, one1, u5.trans S.pln, led1, by rw [len1, u3]; exact less⟩ (fun z => absurd z hm) fun _ => perm
    first
      | (refine wp_if_neg (by simp [full]) ?_; exact wpAny_pure fin)
      | (refine wpAny_bind ?_; refine wp_if_neg (by simp [full]) ?_; refine wpAny_pure ?_; exact wpAny_pure fin)
theorem Sq.keep {h h' : Heap} (S : Sq P w h a L es ep t) (k : ∀ o, h.get? a = some o → h'.get? a = some o) : Sq P w h' a L es ep t := by
  obtain ⟨o, o1, o2⟩ := S.at_
  exact ⟨⟨o, k o o1, o2⟩, S.row, S.tb, S.one, S.pln, S.led, S.gap⟩
theorem sq_new {h : Heap} (o1 : h.get? a = some { cls := .type "set", dict := none, data := .set #[] 0 (.fresh 0 0 (!w.params.followText "set-order")) }) : Sq P w h a [] #[] 0 (.fresh 0 0 (!w.params.followText "set-order")) :=
  ⟨⟨_, o1, ⟨rfl, rfl, rfl⟩, rfl⟩, rfl, ⟨List.Pairwise.nil, rfl, rfl, rnd7, fun x hx => absurd hx (by simp [SetTable.fresh]), fun q hq => absurd hq (by simp)⟩, List.nodup_nil, rfl, by
    show _ ∨ (!w.params.followText "set-order") = true
    cases w.params.followText "set-order" <;> simp, by show 0 * 5 < 7 * 3; decide⟩
def SqO (P : Program) (w : World) (a : Addr) (L : List (Addr × List Int)) : HO := .ext fun h => ∃ es ep t, Sq P w h a L es ep t
theorem sqO_new {H : Hp} {h : Heap} (S : Sq P w h a L es ep t) : ObjOk P w H h a (SqO P w a L) :=
  ⟨⟨es, ep, t, S⟩, ⟨_, S.at_.choose_spec.1⟩, fun h1 h2 p k => by
    obtain ⟨es', ep', t', S'⟩ := p
    exact ⟨es', ep', t', S'.keep k⟩⟩
end
end Pd

namespace Pd
open PySem PySem.Spec PyProof.Rows L2
theorem pigeon : ∀ {l m : List (List Int)}, l.Nodup → (∀ x ∈ l, x ∈ m) → l.length ≤ m.length
  | [], _, _, _ => Nat.zero_le _
  | a :: l, m, n, s => by
    have n' := List.nodup_cons.mp n
    have am := s a List.mem_cons_self
    have := pigeon (l := l) (m := m.erase a) n'.2 fun y yl => (List.mem_erase_of_ne (fun q : y = a => n'.1 (by rw [← q]; exact yl))).2 (s y (List.mem_cons_of_mem _ yl))
    have e := List.length_erase_of_mem am
    have p := List.length_pos_of_mem am
    simp only [List.length_cons]
    omega
def Mid (P : Program) (w : World) (ks : List (Addr × List Int)) (S : Addr) (h0 h : Heap) (i : Nat) : Prop := (∀ b o, h0.get? b = some o → h.get? b = some o) ∧ ∃ L es ep t, Sq P w h S L es ep t ∧ Got ks i L
section
variable {P : Program} {w : World} {A : Around} {E : Value → Shared → Prop} {s : Shared}
theorem Mid.keep {ks : List (Addr × List Int)} {S : Addr} {h0 h h' : Heap} {i : Nat} (hk : ∀ p ∈ ks, IsT P w h0 p.2 p.1) (m : Mid P w ks S h0 h i) (k : ∀ b o, h0.get? b = some o → h'.get? b = some o) (kS : ∀ o, h.get? S = some o → h'.get? S = some o) : Mid P w ks S h0 h' i := by
  obtain ⟨_, L, es, ep, t, R, g⟩ := m
  exact ⟨k, L, es, ep, t, R.keep kS, g⟩
theorem Mid.put {ks : List (Addr × List Int)} {D : List (List Int)} {S : Addr} {h0 : Heap} {i : Nat} {p : Addr × List Int} (hk : ∀ p ∈ ks, IsT P w h0 p.2 p.1) (hS : h0.get? S = none) (hd : D.length < 300) (hD : ∀ p ∈ ks, p.2 ∈ D) (hu : A.units < cLine) (hp : ks[i]? = some p)
    {Q : Bool → Shared → Prop} (m : Mid P w ks S h0 s.heap i) (q : ∀ b h' tk, s.toks ≤ tk → Heap.SameBut S s.heap h' → Mid P w ks S h0 h' (i + 1) → Q b { s with heap := h', toks := tk }) : wpAny (model P w) A (setAdd S (.ref p.1)) Q E s := by
  obtain ⟨k, L, es, ep, t, R, g⟩ := m
  have hx : IsT P w s.heap p.2 p.1 := isT_keep (hk p (List.mem_of_getElem? hp)) k
  have hl : L.length ≤ D.length := by
    have := pigeon (l := L.map (·.2)) (m := D) R.one fun x hx => by
      obtain ⟨q, qL, rfl⟩ := List.mem_map.mp hx
      exact hD q (List.mem_of_mem_take (g.sub q qL))
    rwa [List.length_map] at this
  unfold setAdd
  refine wpAny_holding (wpAny_bind (wpAny_pyHash_tuple hu hx (Sq.add (s := ⟨s.heap, s.gens, s.drawn, s.toks + (p.2.length + 1), s.os⟩) R (fun q qL => isT_keep (hk q (List.mem_of_mem_take (g.sub q qL))) k) hx hu (by omega) fun b h' L' es' ep' t' sb R' c1 c2 => q b h' _ (Nat.le_add_right _ _) sb ⟨fun c o e => (sb.2 c fun z => by rw [z, hS] at e; cases e).trans (k c o e), L', es', ep', t', R', ?_⟩)))
  by_cases c : p.2 ∈ L.map (·.2)
  · rw [c1 c]; exact g.same hp c
  · exact g.more hp (c2 c)
theorem fills {I : Addr} {fp wr : List Addr} {G : Array GenState → Array GenState → Prop} {Pv : Nat → Value → Prop} {St : Nat → Shared → Prop} {R : Result → Shared → Prop} {ks : List (Addr × List Int)} {D : List (List Int)} {S : Addr} {h0 : Heap}
    (W : WalksS P w A.in1 I fp wr G ks.length Pv St) (Sf : S ∉ fp) (val : ∀ i v, Pv i v → ∃ p, ks[i]? = some p ∧ v = .ref p.1) (hk : ∀ p ∈ ks, IsT P w h0 p.2 p.1) (hS : h0.get? S = none) (hw : ∀ b ∈ wr, h0.get? b = none) (hd : D.length < 300) (hD : ∀ p ∈ ks, p.2 ∈ D) (hu : A.in1.units < cLine) :
    ∀ (k i : Nat) (s : Shared), ks.length - i = k → i ≤ ks.length → St i s → Mid P w ks S h0 s.heap i → (∀ s', Moved (S :: wr) G s s' → Mid P w ks S h0 s'.heap ks.length → R (.ok (.ret .none)) s') → codeAny (model P w) A (.builtin "set.update.loop" ⟨[.ref S, .ref I], []⟩) R s := by
  have Sw : S ∉ wr := fun z => Sf (W.sub _ z)
  have up : ∀ b ∈ wr, b ∈ S :: wr := fun _ z => List.mem_cons_of_mem _ z
  have old : ∀ {s s' : Shared} {i : Nat}, Moved wr G s s' → Mid P w ks S h0 s.heap i → Mid P w ks S h0 s'.heap i := fun mv m => m.keep hk (fun b o e => mv.heap b o (fun z => by rw [hw b z] at e; cases e) (m.1 b o e)) fun o e => mv.heap S o Sw e
  intro k
  induction k with
  | zero =>
    intro i s ek le st m hR; obtain rfl : i = ks.length := by omega
    refine codeAny_builtin F.entry_set_update_loop (?_ : wpAny _ _ _ _ _ _); rw [Around.under_plainId F.plain_set_update_loop _]
    exact wpAny_bind (m := pyNext (.ref I)) (W.done s _ _ st fun s' mv => wpAny_pure (hR s' (mv.mono up) (old mv m)))
  | succ k ih =>
    intro i s ek le st m hR; have lt : i < ks.length := by omega
    refine codeAny_builtin F.entry_set_update_loop (?_ : wpAny _ _ _ _ _ _); rw [Around.under_plainId F.plain_set_update_loop _]
    refine wpAny_bind (m := pyNext (.ref I)) (W.item i s _ _ lt st fun v s' pv st' mv => ?_)
    obtain ⟨p, hp, rfl⟩ := val i v pv
    refine wpAny_bind (m := holding [Value.ref p.1] (setAdd S (.ref p.1))) (wpAny_holding ((old mv m).put hk hS hd hD hu hp fun b h' tk ht sb m' => ?_))
    refine wpAny_pure ⟨plainId_quiet F.plain_set_update_loop _, ih (i + 1) _ (by omega) lt (W.frame _ s' _ _ st' ht fun b bf o e => (sb.2 b fun z => Sf (z ▸ bf)).trans e) m' fun s'' mv' m'' => hR s'' (Moved.trans W.gtrans ((mv.mono up).then_heap ht fun b o nb e => (sb.2 b fun z => nb (by rw [z]; exact List.mem_cons_self)).trans e) mv') m''⟩

abbrev mtS (w : World) : Obj := { cls := .type "set", dict := none, data := .set #[] 0 (.fresh 0 0 (!w.params.followText "set-order")) }
abbrev itL (l : Addr) : Obj := { cls := .type "list_iterator", data := .fields #[.ref l, .int 0 0] }
theorem call_set_any {l : Addr} {items : Array Value} {ks : List (Addr × List Int)} {D : List (List Int)} {Q : Value → Shared → Prop} (hh : A.handled = none) (hl : s.heap.IsList l items) (hit : items.toList = ks.map fun p => Value.ref p.1) (hk : ∀ p ∈ ks, IsT P w s.heap p.2 p.1)
    (hd : D.length < 300) (hD : ∀ p ∈ ks, p.2 ∈ D) (hu : A.units + 3 < cLine) (q : ∀ (h' : Heap) (tk : Nat), Mid P w ks s.heap.objs.size s.heap h' ks.length → Q (.ref s.heap.objs.size) { s with heap := h', toks := tk }) : wpAny (model P w) A (call (.type "set") [.ref l]) Q E s := by
  have sz : items.size = ks.length := by rw [← Array.length_toList, hit, List.length_map]
  have lS : l < s.heap.objs.size := by obtain ⟨o, ho, _⟩ := hl; exact Heap.lt_size ho
  have z1 : (s.heap.push (mtS w)).objs.size = s.heap.objs.size + 1 := Heap.size_push ..
  have out : ∀ b, s.heap.objs.size ≤ b → s.heap.get? b = none := fun b hb => by
    cases e : s.heap.get? b with
    | none => rfl
    | some o => exact (Nat.lt_irrefl _ (Nat.lt_of_lt_of_le (Heap.lt_size e) hb)).elim
  have gS : (s.heap.push (mtS w)).get? s.heap.objs.size = some (mtS w) := Heap.get?_push_size _ rfl
  have l1 : (s.heap.push (mtS w)).IsList l items := hl.push _
  have val : ∀ (i : Nat) (v : Value), items[i]? = some v → ∃ p, ks[i]? = some p ∧ v = .ref p.1 := fun i v hv => by
    have e : (ks.map fun p => Value.ref p.1)[i]? = some v := by rw [← hit, Array.getElem?_toList]; exact hv
    rw [List.getElem?_map] at e
    obtain ⟨p, e1, e2⟩ := Option.map_eq_some_iff.mp e
    exact ⟨p, e1, e2.symm⟩
  -- the filling
  have run : ∀ (B : Around) (R : Result → Shared → Prop), B.in1.handled = none → B.in1.units < cLine → (∀ h' tk, Mid P w ks s.heap.objs.size s.heap h' ks.length → R (.ok (.ret .none)) { s with heap := h', toks := tk }) →
      codeAny (model P w) B (.builtin "set.update.loop" ⟨[.ref s.heap.objs.size, .ref (s.heap.push (mtS w)).objs.size], []⟩) R { s with heap := (s.heap.push (mtS w)).push (itL l) } := fun B R hb ub hR => by
    have W := (Walks.list (prog := P) (w := w) hb (s.heap.push (mtS w)).objs.size l (by rw [z1]; exact Nat.ne_of_lt (Nat.lt_succ_of_lt lS)) items).toS
    rw [sz] at W
    refine fills W (S := s.heap.objs.size) (h0 := s.heap) (D := D) ?_ val hk (out _ (Nat.le_refl _)) (fun b hb => out b (by rw [List.mem_singleton.mp hb, z1]; exact Nat.le_succ _)) hd hD ub ks.length 0 _ (Nat.sub_zero _) (Nat.zero_le _) ⟨⟨_, Heap.get?_push_size _ rfl, rfl, rfl⟩, l1.push _⟩ ⟨fun b o e => Heap.get?_push_of_some _ (Heap.get?_push_of_some _ e), [], #[], 0, _, sq_new (Heap.get?_push_of_some _ gS), Got.zero ks⟩ fun s' mv m => ?_
    · rw [z1]; simp only [List.mem_cons, List.not_mem_nil, or_false, not_or]; exact ⟨Nat.ne_of_lt (Nat.lt_succ_self _), Nat.ne_of_gt lS⟩
    · have := hR s'.heap s'.toks m
      have e : s' = { s with heap := s'.heap, toks := s'.toks } := by
        have e1 := mv.gens; have e2 := mv.drawn; have e3 := mv.os
        cases s'; cases s; simp only at e1 e2 e3; subst e1; subst e2; subst e3; rfl
      rw [e]; exact this
  obtain ⟨c, tl, hmro⟩ := F.called_set.mro
  have k1 := F.called_set.made; have k2 := F.called_set.sub; have k3 := F.called_set.notType; have k4 := F.called_set.canCreate; have k5 := F.typeCall_set_1 (.ref l)
  refine wpAny_call (codeAny_of_tree (?_ : wpAny _ _ (callAny (.type "set") _) _ _ _)); refine wpAny_pure ⟨Code.quiet_builtin _ (by decide +kernel), codeAny_builtin F.entry_type_call ?_⟩
  rw [Around.under_plain (weight_type_call_type "set" [.ref l] []) rfl]; repeat (any_goals (first | assumption | wp_step))
  refine codeAny_mono (code_set_led1 (.ref l) (E := E) (Q₁ := fun v s₁ => v = .ref s.heap.objs.size ∧ s₁ = { s with heap := s.heap.push (mtS w) }) ⟨rfl, rfl⟩) fun r s₁ hr => ?_
  match r, hr with
  | .error e, hr => exact hr
  | .ok (.ret v), ⟨e1, e2⟩ =>
    subst e1; subst e2
    have T : Shared.TypeIs { s with heap := s.heap.push (mtS w) } (.ref s.heap.objs.size) "set" := ⟨_, gS, rfl⟩
    have k6 := F.called_set.init.lookup; have k7 := F.called_set.init.bind (.ref s.heap.objs.size)
    repeat (any_goals (first | assumption | wp_step))
    refine codeAny_mono (codeAny_call_builtin (R := wants (fun v s₂ => v = .none ∧ ∃ h' tk, s₂ = { s with heap := h', toks := tk } ∧ Mid P w ks s.heap.objs.size s.heap h' ks.length) E) F.called_set.init.plain F.entry_set_init (check_set_init_1 T ?_)) fun r₂ s₂ hr₂ => ?_
    · obtain ⟨⟨oc, od, oD, os⟩, ho, c1, nl, d1⟩ := hl
      simp only at c1 d1; subst c1; subst d1
      have ho' : (s.heap.push (mtS w)).get? l = some { cls := .type "list", dict := od, data := .seq items nl, slots := os } := Heap.get?_push_of_some _ ho
      have s1 := F.sub_list_set; have s2 := F.sub_list_frozenset; have s3 : (Value.type "list" == Value.type "dict") = false := by decide
      unfold Builtin.«set.__init__» noKeywords Builtin.Frozenset.updateFrom; generalize g : pyIter = PI
      wp_walk
      subst g
      refine wpAny_pyIter_list l1 (wpAny_bind (wpAny_runValue (run _ _ ?_ hu fun h' tk m => ?_)))
      · simp [hh]
      · exact wpAny_pure (wpAny_pure ⟨rfl, h', tk, rfl, m⟩)
    · match r₂, hr₂ with
      | .error e, hr₂ => exact hr₂
      | .ok (.ret v), ⟨e1, h', tk, e2, m⟩ =>
        subst e1; subst e2
        repeat (any_goals (first | assumption | wp_step))
        exact q _ _ m
end
end Pd
namespace Pd
open PySem PySem.Spec PyProof.Rows L2 SrtO
section
variable {P : Program} {w : World} {A : Around} {E : Value → Shared → Prop} {s : Shared}
theorem sorted_set_any {a : Addr} {L : List (Addr × List Int)} {es : Array (Int × Value)} {ep : Nat} {t : SetTable} {Q : Value → Shared → Prop} (R : Sq P w s.heap a L es ep t) (tp : ∀ p : Addr × List Int, p ∈ L → IsT P w s.heap p.2 p.1) (hh : A.handled = none) (ne : ∀ p ∈ L, p.2 ≠ [])
    (q : ∀ s' p c (L' : List (Addr × List Int)), (∀ b o, s.heap.get? b = some o → s'.heap.get? b = some o) → s'.gens = s.gens → s'.os = s.os → s.heap.objs.size ≤ p → s'.heap.get? p = some (seqObj "list" (L'.map fun q => Value.ref q.1).toArray c) → L'.Perm L → Srtd HT.lexLt (L'.map (·.2)) → Q (.ref p) s') :
    wpAny (model P w) A (call (.builtin "sorted") [.ref a]) Q E s := by
  obtain ⟨o, ho, hex, hd⟩ := R.at_
  have hsz := rows_size R.row; have few := R.few
  refine Calls.call_function_entry kind_sorted plain_sorted entry_sorted (args_sorted1 _) ?_; unfold Builtin.«sorted»
  refine wpAny_bind (m := checkCount "sorted" 1 1 _) (wpAny_pure (wpAny_bind (collect_set (A := A.in1) hh ⟨o, ho, hex.1, hd⟩ R.fits (by unfold scanBound; omega) R.tb.up R.led fun s1 vs k1 hz g1 o1 pm => ?_)))
  have e0 : es.toList.map (·.2) = L.map fun q => Value.ref q.1 := by
    rw [R.row]; unfold rowsOf
    rw [List.map_map]; rfl
  rw [e0] at pm
  have vl : vs.length = L.length := by rw [pm.length_eq, List.length_map]
  refine wpAny_bind (wpAny_newList ?_ (by rw [sizeLine_eq, vl]; omega))
  have T : ∀ q ∈ L, TS.TupInts (s1.heap.push (seqObj "list" vs.toArray 0)) (.ref q.1) q.2 := fun q hq => tupInts_of (P := P) (w := w) (isT_keep (tp q hq) fun b u e => Heap.get?_push_of_some _ (k1 b u e))
  have at_ : (s1.heap.push (seqObj "list" vs.toArray 0)).get? s1.heap.objs.size = some (seqObj "list" vs.toArray 0) := Heap.get?_push_size _ rfl
  have K : ∀ v ∈ vs, TS.TupInts (s1.heap.push (seqObj "list" vs.toArray 0)) v (TS.intsOf (s1.heap.push (seqObj "list" vs.toArray 0)) v) ∧ TS.intsOf (s1.heap.push (seqObj "list" vs.toArray 0)) v ≠ [] := fun v hv => by
    obtain ⟨q, hq, rfl⟩ := List.mem_map.mp (pm.mem_iff.mp hv)
    rw [(T q hq).ints]
    exact ⟨T q hq, ne q hq⟩
  refine wpAny_bind (wpAny_holding (wpAny_call_entry slot_list_sort ⟨_, at_, rfl⟩ entry_list_sort (list_sort_ord (s := { s1 with heap := s1.heap.push (seqObj "list" vs.toArray 0) }) (lex_swo (TS.intsOf (s1.heap.push (seqObj "list" vs.toArray 0)))) at_ (by rw [sizeLine_eq, vl]; omega)
    (fun h2 => tups_sortableO (s := { s1 with heap := s1.heap.push (seqObj "list" vs.toArray 0) }) (by omega) K fun o e => ?_) fun out h1 h2 => ⟨_, rfl, ?_⟩) (args_list_sort _)))
  · rw [at_] at e
    cases e
    intro c
    exact absurd (Value.type.inj c) (by decide)
  -- what came out
  have back : ∀ l : List Value, (∀ v ∈ l, v ∈ L.map fun q => Value.ref q.1) → ∃ L1 : List (Addr × List Int), l = L1.map (fun q => Value.ref q.1) ∧ ∀ q ∈ L1, q ∈ L := by
    intro l
    induction l with
    | nil => exact fun _ => ⟨[], rfl, fun q hq => absurd hq (by simp)⟩
    | cons v l ih =>
      intro hv
      obtain ⟨q, hq, e⟩ := List.mem_map.mp (hv v List.mem_cons_self)
      obtain ⟨L1, e1, s1⟩ := ih fun u hu => hv u (List.mem_cons_of_mem _ hu)
      exact ⟨q :: L1, by rw [List.map_cons, e, e1], fun r hr => (List.mem_cons.mp hr).elim (fun z => z ▸ hq) (s1 r)⟩
  obtain ⟨L', e1, e2⟩ := back out fun v hv => pm.mem_iff.mp (h2.perm.mem_iff.mp hv)
  have inj : ∀ q ∈ L, ∀ r ∈ L, q.1 = r.1 → q = r := fun q hq r hr e => by
    have a1 := tp q hq; have a2 := tp r hr
    rw [e] at a1
    exact Prod.ext e (a1.inj a2)
  have nv : (L.map fun q => Value.ref q.1).Nodup := List.pairwise_map.mpr (List.Pairwise.imp_of_mem (fun {q r} hq hr n e => n (inj q hq r hr (Value.ref.inj e))) (nodup_of_map R.one))
  have pL : L'.Perm L := by
    have p1 : (L'.map fun q => Value.ref q.1).Perm (L.map fun q => Value.ref q.1) := by rw [← e1]; exact h2.perm.trans pm
    refine (List.perm_ext_iff_of_nodup (nodup_of_map (p1.nodup_iff.mpr nv)) (nodup_of_map R.one)).mpr fun q => ⟨e2 q, fun hq => ?_⟩
    obtain ⟨r, hr, e⟩ := List.mem_map.mp (p1.mem_iff.mpr (List.mem_map.mpr ⟨q, hq, rfl⟩))
    rw [← inj r (e2 r hr) q hq (Value.ref.inj e)]
    exact hr
  have sr : Srtd HT.lexLt (L'.map (·.2)) := by
    have z := SrtO.srtd_map h1
    rw [e1, List.map_map] at z
    have e3 : (L'.map ((TS.intsOf (s1.heap.push (seqObj "list" vs.toArray 0))) ∘ fun q => Value.ref q.1)) = L'.map (·.2) := List.map_congr_left fun q hq => (T q (e2 q hq)).ints
    rwa [e3] at z
  obtain ⟨c, hc⟩ := sortedHeap_at (vs := vs) (out := out.toArray) at_
  refine wpAny_pure ⟨_, rfl, q _ s1.heap.objs.size c L' (fun b u e => ?_) g1 o1 hz (hc.trans (congrArg (fun z => some (seqObj "list" z.toArray c)) e1)) pL sr⟩
  have z := k1 b u e
  have lt := Heap.lt_size z
  show (sortedHeap (s1.heap.push (seqObj "list" vs.toArray 0)) s1.heap.objs.size vs out.toArray).get? b = some u
  rw [sortedHeap_old (Nat.ne_of_lt lt) (by rw [size_push']; exact Nat.lt_succ_of_lt lt)]
  exact Heap.get?_push_of_some _ z
end
end Pd
namespace Pd
open PySem PySem.Spec PyProof.Rows L2 SrtO
def rSetMany (K : PySem.W.Frag) (P : Program) (w : World) : List V → Hp → VK → Prop := fun xs H Q => ∃ (l : Addr) (ks : List (Addr × List Int)) (D : List (List Int)), xs = [V.ref l] ∧ SqL K H l (ks.map fun p => V.ref p.1) ∧ (∀ p ∈ ks, SqT K H p.1 (p.2.map V.int)) ∧ D.length < 300 ∧ (∀ p ∈ ks, p.2 ∈ D) ∧
  ∀ a L, H a = none → (∀ p ∈ L, p ∈ ks) → (∀ p ∈ ks, p.2 ∈ L.map (·.2)) → Q (.ref a) (upd H a (SqO P w a L))
def rSortedMany (K : PySem.W.Frag) (P : Program) (w : World) : List V → Hp → VK → Prop := fun vs H Q => ∃ (a : Addr) (L : List (Addr × List Int)), vs = [V.ref a] ∧ H a = some (SqO P w a L) ∧ (∀ p ∈ L, SqT K H p.1 (p.2.map V.int)) ∧ (∀ p ∈ L, p.2 ≠ []) ∧
  ∀ (L' : List (Addr × List Int)) (p : Addr), L'.Perm L → (L'.map (·.2)).Nodup → Srtd HT.lexLt (L'.map (·.2)) → H p = none → Q (.ref p) (upd H p (.lst (L'.map fun q => V.ref q.1)))
section
variable {X : Cx}
theorem cr_setMany (hc : X.calm = true) (hu : X.A.units + 64 < cLine) : CallR X (.type "set") (rSetMany X.K X.prog X.w) := by
  intro pins s σ H xs us Q I r h
  obtain ⟨l, ks, D, rfl, hl, hk, hd, hD, q⟩ := h
  rw [Vals.ref1 r]
  obtain ⟨its, rv, pl, hz⟩ := I.list hl
  refine call_set_any (P := X.prog) (w := X.w) (D := D) (I.ok.hd hc) pl.isList (by simpa using refs_of_vals rv) (fun p hp => I.isT (hk p hp)) hd hD (by omega) fun h' tk ⟨k, L, es, ep, t, R, g⟩ => ?_
  exact ⟨.ref s.heap.objs.size, _, I.laid (t' := tk) k (Nat.le_refl _) (sqO_new R), rfl, q _ L (I.hok.fresh (Nat.le_refl _)) (fun p hp => List.mem_of_mem_take (g.sub p hp)) fun p hp => g.all p (by rw [List.take_length]; exact hp)⟩
theorem cr_sortedMany (hc : X.calm = true) : CallR X (.builtin "sorted") (rSortedMany X.K X.prog X.w) := by
  intro pins s σ H vs us Q I r h
  obtain ⟨a, L, rfl, ha, hk, ne, q⟩ := h
  obtain ⟨es, ep, t, R⟩ : ∃ es ep t, Sq X.prog X.w s.heap a L es ep t := (I.hok a _ ha).1
  rw [Vals.ref1 r]
  refine sorted_set_any R (fun p hp => I.isT (hk p hp)) (I.ok.hd hc) ne fun s' p c L' k g o hp hg pm sr => ?_
  have few := R.few; rw [← pm.length_eq] at few
  have hn : H p = none := I.hok.fresh hp
  have J : Inv X pins σ (upd H p (.lst (L'.map fun q => V.ref q.1))) { s with heap := s'.heap, gens := s'.gens, drawn := s'.drawn, toks := s'.toks } :=
    I.call (ch := []) (Un.laid k hp hn) (I.hok.laid k hp ⟨by rw [List.length_map, sizeLine_eq]; omega, _, c, by simpa using vals_of_refs L', hg⟩) (by rw [g]; exact I.bare) (fun _ z => nomatch z)
  have e : s' = { s with heap := s'.heap, gens := s'.gens, drawn := s'.drawn, toks := s'.toks } := by cases s'; cases s; cases o; rfl
  rw [e]
  exact ⟨.ref p, _, J, rfl, q L' p pm ((pm.map (·.2)).nodup_iff.mpr R.one) sr hn⟩
end
def ddp : List (List Int) → List (List Int)
  | [] => []
  | x :: r => if r.elem x then ddp r else x :: ddp r
theorem ddp_mem : ∀ {l : List (List Int)} {x : List Int}, x ∈ ddp l ↔ x ∈ l
  | [], x => Iff.rfl
  | y :: r, x => by
    unfold ddp
    by_cases c : r.elem y = true
    · rw [if_pos c, ddp_mem, List.mem_cons]
      exact ⟨.inr, fun z => z.elim (fun e => e ▸ List.elem_iff.mp c) id⟩
    · rw [if_neg c, List.mem_cons, List.mem_cons, ddp_mem]
theorem ddp_nodup : ∀ l : List (List Int), (ddp l).Nodup
  | [] => List.nodup_nil
  | y :: r => by
    unfold ddp
    by_cases c : r.elem y = true
    · rw [if_pos c]; exact ddp_nodup r
    · rw [if_neg c]
      exact List.nodup_cons.mpr ⟨fun z => c (List.elem_iff.mpr (ddp_mem.mp z)), ddp_nodup r⟩
def dSortSet (a : D) (h : Ph) : R D := R.opt (lstOf a h) fun xs => R.opt (tupsOf xs) fun ns => if (ddp ns).length < 300 then .ok (.lst ((sortS HT.lexLt (ddp ns)).map tupZ)) h else .bad
def sSortSet (f : SE) : SE := fun e h => (f e h).bind dSortSet
section
variable {ι : Type} {Z : Cz} {Y : ι → Cy} {W : WX}
theorem unpair {K : PySem.W.Frag} {mg : Str → Option Value} {w : Wd} : ∀ {L : List (V × List Int)}, (∀ p ∈ L, p.2 ≠ [] ∧ (∃ t, p.1 = V.ref t ∧ SqT K w.G t (p.2.map V.int)) ∧ Rep K mg w (tupZ p.2) p.1) → ∃ ks : List (Addr × List Int), L = ks.map (fun p => (V.ref p.1, p.2)) ∧ ∀ p ∈ ks, p.2 ≠ [] ∧ SqT K w.G p.1 (p.2.map V.int) ∧ Rep K mg w (tupZ p.2) (.ref p.1)
  | [], _ => ⟨[], rfl, fun p hp => absurd hp (by simp)⟩
  | (v, n) :: L, h => by
    obtain ⟨ks, e, k⟩ := unpair (L := L) fun p hp => h p (List.mem_cons_of_mem _ hp)
    obtain ⟨h1, ⟨t, h2, h3⟩, h4⟩ := h _ List.mem_cons_self
    simp only at h2; subst h2
    exact ⟨(t, n) :: ks, by rw [e]; rfl, fun p hp => (List.mem_cons.mp hp).elim (fun z => by subst z; exact ⟨h1, h3, h4⟩) (k p)⟩
theorem reps_keys {K : PySem.W.Frag} {mg : Str → Option Value} {w : Wd} : ∀ {L : List (Addr × List Int)}, (∀ p ∈ L, Rep K mg w (tupZ p.2) (.ref p.1)) → Reps K mg w ((L.map (·.2)).map tupZ) (L.map fun p => V.ref p.1)
  | [], _ => .nil
  | p :: L, h => .cons (h p List.mem_cons_self) (reps_keys fun q hq => h q (List.mem_cons_of_mem _ hq))
theorem ei_sortset {x y : Str} {a : Expr} {fa : SE} {p pos p2 pos2 : Pos} (hr : CallF Z Y (.type "set") (rSetMany Z.K Z.P Z.w)) (hr2 : CallF Z Y (.builtin "sorted") (rSortedMany Z.K Z.P Z.w)) (hg : GlF Y x) (hm : Z.mg x = none) (hv : bootBuiltins x = some (.type "set")) (hg2 : GlF Y y) (hm2 : Z.mg y = none) (hv2 : bootBuiltins y = some (.builtin "sorted")) (ha : EI Z Y W a fa)
    (hn : x ≠ "__name__" := by decide) (hdb : (x == ("__debug__" : Str)) = false := by decide) (hn2 : y ≠ "__name__" := by decide) (hdb2 : (y == ("__debug__" : Str)) = false := by decide)
    (he : ∀ i, starEach [a] (Y i).env = [(false, eval a (Y i).env)] := by intro _; rfl) (he2 : ∀ i, starEach [.Call (.Name x p) [a] [] pos] (Y i).env = [(false, eval (.Call (.Name x p) [a] [] pos) (Y i).env)] := by intro _; rfl) :
    EI Z Y W (.Call (.Name y p2) [.Call (.Name x p) [a] [] pos] [] pos2) (sSortSet fa) := by
  obtain ⟨t, pa, s⟩ := ha
  refine ⟨_, fun i => pe_callB (hr2 i) (hg2 i) hm2 hv2 (pa_cons (pe_callTy (hr i) (hg i) hm hv (pa_cons (pa i) pa_nil (he i)) hn hdb (he i) rfl) pa_nil (he2 i)) hn2 hdb2 (he2 i) rfl, fun σ e w h H Q E L hp => s σ e w h H _ E L (Po.bind (Rp := Rep Z.K Z.mg) hp fun d h1 w1 H1 x _ st1 L1 r1 hp1 => ?_)⟩
  unfold dSortSet at hp1
  obtain ⟨xs, e1, hp1⟩ := Po.some hp1
  obtain ⟨ns, e2, hp1⟩ := Po.some hp1
  obtain ⟨b, vs, rfl, hb, rs⟩ := lstOf_ok L1 e1 r1
  obtain ⟨M, m1, m2, m3⟩ := tupsOf_ok e2 rs
  by_cases c : (ddp ns).length < 300
  · rw [if_pos c] at hp1
    obtain ⟨ks, rfl, k2⟩ := unpair m3
    have ek : ks.map (·.2) = ns := by rw [← m2, List.map_map]; rfl
    refine ⟨b, ks, ddp ns, rfl, by rw [← m1, List.map_map] at hb; exact hb, fun p hp => SqT.ex L1 (k2 p hp).2.1, c, fun p hp => ddp_mem.mpr (by rw [← ek]; exact List.mem_map_of_mem hp), fun a0 S hn0 s1 s2 => ?_⟩
    obtain ⟨l1, l2, l3⟩ := L1.lay hn0 (SqO Z.P Z.w a0 S)
    have ex1 : Evl.Ex H1 (upd H1 a0 (SqO Z.P Z.w a0 S)) := Evl.Ex.new hn0
    refine ⟨a0, S, rfl, upd_same, fun p hp => Evl.ex_t ex1 (SqT.ex L1 (k2 p (s1 p hp)).2.1), fun p hp => (k2 p (s1 p hp)).1, fun S' p pm nd sr hp0 => ?_⟩
    have e3 : S'.map (·.2) = sortS HT.lexLt (ddp ns) := by
      refine srtd_one (lex_swo id) (fun x y h1 h2 => lex_conn h1 h2) sr (sortS_srt (lex_swo id) _) ?_
      refine ((List.perm_ext_iff_of_nodup nd (ddp_nodup ns)).mpr fun x => ?_).trans (sortS_perm _).symm
      rw [(pm.map (·.2)).mem_iff, ddp_mem, ← ek]
      constructor
      · intro hx
        obtain ⟨q, hq, rfl⟩ := List.mem_map.mp hx
        exact List.mem_map_of_mem (s1 q hq)
      · intro hx
        obtain ⟨q, hq, rfl⟩ := List.mem_map.mp hx
        exact s2 q hq
    rw [← e3] at hp1
    exact Po.lst l1 (reps_keys fun q hq => ((k2 q (s1 q (pm.mem_iff.mp hq))).2.2).mono l3) (Po.step l2 hp1) hp0
  · rw [if_neg c] at hp1
    exact hp1.elim
end
end Pd

namespace Pd
open PySem PySem.Spec PyProof.Rows L2 LamX Evl
section
variable {X : Cx} {pins : List (Addr × Obj)} {σ : L2.St} {H : Hp} {s : Shared}
end

inductive WHs (K : PySem.W.Frag) (mg : Str → Option Value) (sg : Scope) : List ExceptHandler → List (Str × Str) → Prop
  | nil : WHs K mg sg [] []
  | cons {C s : Str} {j : Nat} {np p5 p6 pos' : Pos} {hds : List ExceptHandler} {hs : List (Str × Str)} (hn : sg.names.lookup C = some .globalImplicit) (hm : mg C = some (.ref (He.ga K C))) (r : WHs K mg sg hds hs) (hd : (C == ("__debug__" : Str)) = false := by decide) :
      WHs K mg sg (.ExceptHandler (some (.Name C np)) none [.Return (some (.Constant (.str s) j p5)) p6] pos' :: hds) ((C, s) :: hs)
def relLk : List (Str × Str × Bool) → Str → Str → Option Bool
  | [], _, _ => none
  | (c, C, b) :: r, x, X => if c = x ∧ C = X then some b else relLk r x X
def RelOk (K : PySem.W.Frag) (mg : Str → Option Value) (rel : List (Str × Str × Bool)) : Prop := ∀ p ∈ rel, mg p.1 = some (.ref (He.ga K p.1)) ∧ PySem.W.exmOne K (.ref (He.ga K p.1)) (.ref (He.ga K p.2.1)) = some p.2.2
theorem RelOk.at {K : PySem.W.Frag} {mg : Str → Option Value} : ∀ {rel : List (Str × Str × Bool)}, RelOk K mg rel → ∀ {c C : Str} {b : Bool}, relLk rel c C = some b → mg c = some (.ref (He.ga K c)) ∧ PySem.W.exmOne K (.ref (He.ga K c)) (.ref (He.ga K C)) = some b
  | [], _, _, _, _, e => nomatch e
  | (c0, C0, b0) :: r, h, c, C, b, e => by
    unfold relLk at e
    by_cases z : c0 = c ∧ C0 = C
    · rw [if_pos z] at e
      obtain ⟨rfl, rfl⟩ := z
      cases e
      exact h _ List.mem_cons_self
    · rw [if_neg z] at e
      exact RelOk.at (fun p hp => h p (List.mem_cons_of_mem _ hp)) e
abbrev lamCy (Z : Cz) (y : Cy) (scope : Scope) (A : Around) (outer : List Env) (s : Shared) (H : Hp) (E : XK) (f c' : Addr) : Cy where
  A := A.deeper (lamEnv (cx Z y) scope s.heap.objs.size f c')
  s_0 := s
  H_0 := H
  env := lamEnv (cx Z y) scope s.heap.objs.size f c'
  outer := outer
  stack := lamEnv (cx Z y) scope s.heap.objs.size f c' :: outer
  ex := []
  fn := (lamCx (cx Z y) A outer s H E scope f c').fn
  calm := true
  pn := []
  xe := (lamCx (cx Z y) A outer s H E scope f c').xe
structure LJ (Z : Cz) {ι : Type} (Y : ι → Cy) (scope : Scope) (k : Nat) where
  i : ι
  A : Around
  outer : List Env
  s : Shared
  H : Hp
  f : Addr
  c' : Addr
  hr : Room k (A.deeper (lamEnv (cx Z (Y i)) scope s.heap.objs.size f c'))
structure WordDef (B : Cb) (x a : Str) (hs : List (Str × Str)) (fine : Str) : Prop where
  ex : ∃ (oc : Value) (od : Option Addr) (osl : Array (Option Value)) (pg : Arguments) (sg : Scope) (dV kV doc pm : Value) (an : Option Addr) (cdv ct : Value) (Ng : List Str) (j : Nat) (h0 : ExceptHandler) (hds : List ExceptHandler) (p1 p2 p3 p4 p5 p6 : Pos),
    B.K.lookup (He.ga B.K x) = some ⟨oc, od, .func (PySem.W.fnOf x x pg [.Try [.Expr (.Call (.Name a p1) [] [] p2) p3] (h0 :: hds) [] [] p4, .Return (some (.Constant (.str fine) j p5)) p6] sg dV kV doc pm an cdv ct), osl⟩ ∧ PySem.W.codeIn B.K cdv x = true ∧
    L2.Binds B.K (PySem.W.fnOf x x pg [.Try [.Expr (.Call (.Name a p1) [] [] p2) p3] (h0 :: hds) [] [] p4, .Return (some (.Constant (.str fine) j p5)) p6] sg dV kV doc pm an cdv ct) [a] [] ∧ FnScope Ng [a] sg ∧ Ng[0]? = some a ∧ Vis sg a ∧ WHs B.K B.mg sg (h0 :: hds) hs ∧ ∀ f : Addr, (L2.start Ng [V.ref f])[0]? = some (some (V.ref f))
  hm : B.mg x = some (.ref (He.ga B.K x))
  hk : PySem.W.keepIn B.K (.ref (He.ga B.K x)) = true
section
variable {ι : Type} {B : Cb} {N : List Str} {Y : ι → Cy} {W : WX}
end
end Pd

namespace Pd
open PySem PySem.Spec PyProof.Rows L2 LamX Evl
section
variable {ι : Type} {Z : Cz} {Y : ι → Cy} {W : WX}
structure ExcCls (K : PySem.W.Frag) (mg : Str → Option Value) (x : Str) : Prop where
  m : mg x = some (.ref (He.ga K x))
  q : PySem.W.excIn K (He.ga K x) He.veBase "ValueError.__new__" = true
  k : PySem.W.keepIn K (.ref (He.ga K x)) = true
  s : PySem.W.subIn K (.ref (He.ga K x)) (.type "BaseException") = some true
  t : PySem.W.typeIn K (.ref (He.ga K x)) = some (.type "type")
end
theorem WordDef.mk' {B : Cb} {x a fine : Str} {params : Arguments} {sg : Scope} {Ng : List Str} {fd : FuncData} {j : Nat} {h0 : ExceptHandler} {hds : List ExceptHandler} {hs : List (Str × Str)} {p1 p2 p3 p4 p5 p6 : Pos}
    (F : FunD B.K x x params [.Try [.Expr (.Call (.Name a p1) [] [] p2) p3] (h0 :: hds) [] [] p4, .Return (some (.Constant (.str fine) j p5)) p6] sg [] [] (He.ga B.K x) fd) (hm : B.mg x = some (.ref (He.ga B.K x))) (S : FnScope Ng [a] sg)
    (hbi : ∀ (kV doc pm : Value) (an : Option Addr) (cdv ct : Value) (us : List Value), us.length = [a].length → bindArgs (PySem.W.fnOf x x params [.Try [.Expr (.Call (.Name a p1) [] [] p2) p3] (h0 :: hds) [] [] p4, .Return (some (.Constant (.str fine) j p5)) p6] sg .none kV doc pm an cdv ct) ⟨us, []⟩ = pure ([a].zip us))
    (hNg : Ng[0]? = some a) (hva : Vis sg a) (hst : ∀ f : Addr, (L2.start Ng [V.ref f])[0]? = some (some (V.ref f))) (hw : WHs B.K B.mg sg (h0 :: hds) hs) : WordDef B x a hs fine := by
  have hbn := F.bindsN hbi
  obtain ⟨oc, od, dV, kV, doc, pm, an, cdv, ct, osl, rfl, lk, hcd, _, _⟩ := F.ex
  exact ⟨⟨oc, od, osl, params, sg, dV, kV, doc, pm, an, cdv, ct, Ng, j, h0, hds, p1, p2, p3, p4, p5, p6, lk, hcd, hbn, S, hNg, hva, hw, hst⟩, hm, F.kp⟩
def apart (tf : List Str) (K : PySem.W.Frag) : Bool := decide (tf.map fun y => tabAd K y).Nodup && tf.all fun y => !decide (mainGlobals = tabAd K y)
structure SaysW (fa : List FaX) (fn : List He.DefD) (tf : List Str) (h : Heap) (K : PySem.W.Frag) : Prop where
  x : SaysX fa fn K
  ap : apart tf K = true
  hd : ∀ y ∈ tf, PySem.W.codeHdIn K (He.cT K (tabKey y)).1 (tabAd K y) = true
  out : ∀ y ∈ tf, K.lookup (tabAd K y) = none
  empty : ∀ y ∈ tf, h.get? (tabAd K y) = some { cls := .none, data := .fields #[] }
def obsW (n : Nat) (fa : List FaX) (fn : List He.DefD) (tf : List Str) (g : Addr → Option Obj) : He.AlD × Bool := (obsX fa fn (He.frT g (He.asD g n)), apart tf (He.frT g (He.asD g n)) && He.tabsB g (tf.map tabKey) (He.frT g (He.asD g n)))
theorem saysW_of {n : Nat} {fa : List FaX} {fn : List He.DefD} {tf : List Str} {h : Heap} (e : obsW n fa fn tf h.get? = (He.valD fn, true)) : SaysW fa fn tf h (He.frT h.get? (He.asD h.get? n)) := by
  have e1 : obsX fa fn (He.frT h.get? (He.asD h.get? n)) = He.valD fn := congrArg Prod.fst e
  have e2 : (apart tf (He.frT h.get? (He.asD h.get? n)) && He.tabsB h.get? (tf.map tabKey) (He.frT h.get? (He.asD h.get? n))) = true := congrArg Prod.snd e
  obtain ⟨h1, h2⟩ := He.ba e2
  have key : ∀ y ∈ tf, PySem.W.codeHdIn (He.frT h.get? (He.asD h.get? n)) (He.cT (He.frT h.get? (He.asD h.get? n)) (tabKey y)).1 (tabAd (He.frT h.get? (He.asD h.get? n)) y) = true ∧ ∃ o, h.get? (tabAd (He.frT h.get? (He.asD h.get? n)) y) = some o ∧ He.emptyTab o = true := fun y hy => by
    obtain ⟨h3, h4⟩ := He.ba (List.all_eq_true.mp h2 (tabKey y) (List.mem_map.mpr ⟨y, hy, rfl⟩))
    refine ⟨h3, ?_⟩
    show ∃ o, h.get? (He.cT (He.frT h.get? (He.asD h.get? n)) (tabKey y)).2 = some o ∧ _
    cases q : h.get? (He.cT (He.frT h.get? (He.asD h.get? n)) (tabKey y)).2 with
    | none => rw [q] at h4; cases h4
    | some o => rw [q] at h4; exact ⟨o, rfl, h4⟩
  exact ⟨e1, h1, fun y hy => (key y hy).1, fun y hy => by
    obtain ⟨_, o, q, z⟩ := key y hy
    exact He.frT_none q z, fun y hy => by
    obtain ⟨_, o, q, z⟩ := key y hy
    rw [q, He.emptyTab_eq z]⟩
def hookW (n : Nat) (fa : List FaX) (fn : List He.DefD) (tf : List Str) : PySem.W.Hook where
  α := He.AlD × Bool
  obs := fun s => obsW n fa fn tf s.heap.get?
  val := fun _ => (He.valD fn, true)
  says := fun _ h => ∃ K : PySem.W.Frag, K.In h ∧ SaysW fa fn tf h K
  of := fun _ _ e => ⟨_, He.frT_in, saysW_of e⟩
  keeps := fun _ _ _ ⟨K, hK, c⟩ k => ⟨K, PySem.W.Frag.In.keeps hK k, ⟨c.x, c.ap, c.hd, c.out, fun y hy => k _ _ (c.empty y hy)⟩⟩
theorem RelOk.cons {K : PySem.W.Frag} {mg : Str → Option Value} {c C : Str} {b : Bool} {rel : List (Str × Str × Bool)} (h1 : mg c = some (.ref (He.ga K c))) (h2 : PySem.W.exmOne K (.ref (He.ga K c)) (.ref (He.ga K C)) = some b) (r : RelOk K mg rel) : RelOk K mg ((c, C, b) :: rel) := fun p hp => by
  rcases List.mem_cons.mp hp with rfl | hp
  · exact ⟨h1, h2⟩
  · exact r p hp
end Pd

namespace Pd
open PySem L2 Evl
def keysOf : List D → Option (List Key)
  | [] => some []
  | d :: r => match keyOf d with
    | some k => (keysOf r).map (k :: ·)
    | none => none
theorem keysOf_ok {K : PySem.W.Frag} {mg : Str → Option Value} {w : Wd} : ∀ {ds : List D} {ks : List Key} {vs : List V}, keysOf ds = some ks → Reps K mg w ds vs → vs = ks.map kV
  | [], _, _, e, .nil => by cases e; rfl
  | d :: r, ks, _, e, .cons h t => by
    unfold keysOf at e
    cases z : keyOf d with
    | none => rw [z] at e; cases e
    | some k =>
      rw [z] at e
      obtain ⟨l, e1, rfl⟩ := Option.map_eq_some_iff.mp e
      rw [keyOf_ok z h, keysOf_ok e1 t]
      rfl
def dtOf (d : D) (h : Ph) : Option (Nat × List (List Key × D)) := match d with
  | .ref n => match h[n]? with
    | some (.dT kvs) => some (n, kvs)
    | _ => none
  | _ => none
theorem dtOf_ok {K : PySem.W.Frag} {mg : Str → Option Value} {w : Wd} {H : Hp} {h : Ph} (L : Lk K mg w h H) {d : D} {v : V} {n : Nat} {kvs : List (List Key × D)} (e : dtOf d h = some (n, kvs)) (r : Rep K mg w d v) : ∃ a vs, d = .ref n ∧ v = .ref a ∧ w.ms[n]? = some a ∧ h[n]? = some (.dT kvs) ∧ H a = some (.dT vs) ∧ RepK K mg w kvs vs := by
  cases r with
  | ref q =>
    obtain ⟨o, u, h1, h2, r'⟩ := L.there q
    unfold dtOf at e
    simp only [h1] at e
    cases r' with
    | dT r' => cases e; exact ⟨_, _, rfl, rfl, q, h1, h2, r'⟩
    | _ => cases e
  | _ => cases e
def setDT (o x : D) (ks : List D) (h : Ph) : R Unit := R.opt (dtOf o h) fun p => R.opt (keysOf ks) fun k => if ks.length ≤ mostL ∧ p.2.length < mostL then .ok () (h.set p.1 (.dT (putD p.2 k x))) else .bad
def sPutT (f fo : SE) (fa : SA) : SS := fun e h => (f e h).toF e fun x h1 => (fo e h1).toF e fun o h2 => (fa e h2).toF e fun ks h3 => (setDT o x ks h3).toF e fun _ h4 => .nx e h4
section
variable {ι : Type} {Z : Cz} {Y : ι → Cy} {W : WX}
theorem sn_bool {K : PySem.W.Frag} {mg : Str → Option Value} {t : TE} {f : SE} (s : SnE K mg W t f) (hb : ∀ e h a h', f e h = .ok a h' → ∃ b, a = .bl b) : SnT K mg W (tB t) (sTst f) := fun σ e w h H Q E L hp => s σ e w h H _ E L (by
  unfold sTst at hp
  cases q : f e h with
  | ok a h' =>
    obtain ⟨b, rfl⟩ := hb _ _ _ _ q
    rw [q] at hp
    exact fun w' H' v st L' r => by cases r; exact ⟨b, rfl, hp w' H' b st L' rfl⟩
  | exc c fs h' => rw [q] at hp; exact hp
  | bad => rw [q] at hp; exact hp.elim)
theorem si_putT {o v : Expr} {es : List Expr} {f fo : SE} {fa : SA} {kk : Nat} {tpos p2 pos : Pos} (hu : ∀ i, (Y i).A.units + 1 < cLine) (hf : EI Z Y W v f) (ho : EI Z Y W o fo) (ha : AI Z Y W es fa) (hs : ∀ j, swapsWith v (some (.Subscript o (.Tuple es kk tpos) p2)) pos.line (Y j).env = pure false := by intro _; rfl) :
    SI Z Y W (.Assign [.Subscript o (.Tuple es kk tpos) p2] v pos) (sPutT f fo fa) := by
  obtain ⟨tv, pv', sv⟩ := hf
  obtain ⟨to, po, so⟩ := ho
  obtain ⟨ta, pa, sa⟩ := ha
  refine ⟨_, fun j => ps_dput (X := cx Z (Y j)) (hu j) (po j) (pe_tup (pa j)) (pv' j) (hs j), fun σ e w h H D E L hp => sv σ e w h H _ E L (Po.toF (Rp := Rep Z.K Z.mg) E hp fun x h1 w1 H1 xv _ st1 L1 r1 hp1 =>
    so σ e w1 h1 H1 _ (E.mono st1.le) L1 (Po.toF (Rp := Rep Z.K Z.mg) (E.mono st1.le) hp1 fun o1 h2 w2 H2 ov _ st2 L2 r2 hp2 => sa σ e w2 h2 H2 _ (E.mono (st1.le.trans st2.le)) L2 (Po.toF (Rp := Reps Z.K Z.mg) (E.mono (st1.le.trans st2.le)) hp2 fun ks h3 w3 H3 vs _ st3 L3 r3 hp3 => ?_)))⟩
  have E3 := E.mono ((st1.le.trans st2.le).trans st3.le)
  unfold setDT at hp3
  cases e1 : dtOf o1 h3 with
  | none => rw [e1] at hp3; exact hp3.elim
  | some p =>
    obtain ⟨n, kvs⟩ := p
    cases e2 : keysOf ks with
    | none => rw [e1, e2] at hp3; exact hp3.elim
    | some k =>
      rw [e1, e2] at hp3
      have hq : PoF Z.K Z.mg W w3 H3 ((if ks.length ≤ mostL ∧ kvs.length < mostL then R.ok () (h3.set n (.dT (putD kvs k x))) else .bad).toF e fun _ h4 => .nx e h4) D := hp3
      clear hp3
      by_cases hl : ks.length ≤ mostL ∧ kvs.length < mostL
      · rw [if_pos hl] at hq
        have hq : PoF Z.K Z.mg W w3 H3 (.nx e (h3.set n (.dT (putD kvs k x)))) D := hq
        refine ⟨by rw [← r3.length]; exact mostL_le hl.1, fun q nq => ?_⟩
        obtain ⟨ad, us, rfl, rfl, qm, q2, q3, rk⟩ := dtOf_ok L3 e1 (r2.mono st3.le)
        obtain rfl := keysOf_ok e2 r3
        obtain ⟨l4, s4, le4⟩ := L3.lay nq (.tup (k.map kV))
        have ne : ad ≠ q := ne_of_none q3 nq
        obtain ⟨l5, s5⟩ := l4.put qm q2 (by intro z; cases z) (.dT (putD kvs k x)) (.dT (putK us k xv)) (.dT ((rk.mono le4).put ((r1.mono (st2.le.trans st3.le)).mono le4) k))
        refine ⟨ad, _, rfl, DPut.t (by rw [upd_ne ne]; exact q3) upd_same (by rw [← rk.length]; exact Nat.lt_of_lt_of_le hl.2 (mostL_le (Nat.le_refl _))), hq _ _ σ (s4.trans s5) l5 (E3.mono le4)⟩
      · rw [if_neg hl] at hq; exact hq.elim
end
end Pd

namespace Pd
open PySem PySem.Spec PyProof.Rows L2 Evl
section
variable {X : Cx} {pins : List (Addr × Obj)} {σ : L2.St} {H : Hp} {s : Shared} {a : Addr} {y v d : V} {u r : Value} {o : Option V} {A : Around} {E : Value → Shared → Prop}
def DS (K : PySem.W.Frag) (H : Hp) (a : Addr) (y : V) (o : Option V) : Prop := ∃ us k b, Rd H a (.dT us) ∧ y = .ref b ∧ SqT K H b (k.map kV) ∧ o = valV us k
theorem inv_key {ks : List Key} {b : Addr} (I : Inv X pins σ H s) (h : SqT X.K H b (ks.map kV)) : (tupleKind (mixKind X.prog X.w)).is s.heap ks b := by
  obtain ⟨its, r, ⟨o, h1, h2, n, h3⟩, _⟩ := I.tuple h
  exact ⟨o, its.toArray, n, h1, h2, h3, by simpa using items_are r⟩
theorem ds_getItem {Q : Value → Shared → Prop} (hu : A.units + 1 < cLine) (I : Inv X pins σ H s) (g : DS X.K H a y (some v)) (ry : RelV y u) (h : ∀ w' s', Inv X pins σ H s' → RelV v w' → Q w' s') : wpAny (model X.prog X.w) A (getItem (.ref a) u) Q E s := by
  obtain ⟨us, k, b, e, ey, eb, l⟩ := g
  subst ey
  cases (show u = Value.ref b from ry)
  obtain ⟨z, hd, xs, rel, dd⟩ := dt_rd I.hok e
  obtain ⟨w', hw, rw'⟩ := RelO.some_of (v := v) (o := (atKey xs k).map (·.2)) (by rw [l]; exact rel.val k)
  obtain ⟨p, hp, hp2⟩ := Option.map_eq_some_iff.mp hw
  refine wpAny_getItem_heap (tupleKind_room_in1 hu) (inv_key I eb) dd hp ?_
  rw [hp2]
  exact h w' _ (I.tok _) rw'
theorem ds_notIn {Q : Value → Shared → Prop} (hu : A.units + 1 < cLine) (I : Inv X pins σ H s) (g : DS X.K H a y o) (ry : RelV y u) (h : ∀ s', Inv X pins σ H s' → Q (.bool (!o.isSome)) s') : wpAny (model X.prog X.w) A (compareOp .NotIn u (.ref a)) Q E s := by
  obtain ⟨us, k, b, e, ey, eb, l⟩ := g
  subst ey
  cases (show u = Value.ref b from ry)
  obtain ⟨z, hd, xs, rel, dd⟩ := dt_rd I.hok e
  refine wpAny_notIn_heap (tupleKind_room_in1 hu) (inv_key I eb) hd dd ?_
  have q := (rel.val k).isSome_eq
  rw [Option.isSome_map] at q
  rw [← q, ← l]
  exact h _ (I.tok _)
end
def tTGet (K : PySem.W.Frag) (td ty : TE) : TE := fun σ H Q => td σ H fun x H1 => ty σ H1 fun y H2 => ∃ a v, x = .ref a ∧ DS K H2 a y (some v) ∧ Q v H2
def tTNotIn (K : PySem.W.Frag) (ty td : TE) : TE := fun σ H Q => ty σ H fun y H1 => td σ H1 fun x H2 => ∃ a o, x = .ref a ∧ DS K H2 a y o ∧ Q (.bl (!o.isSome)) H2
section
variable {X : Cx} {o i e : Expr} {pos apos cpos : Pos} {td ty : TE}
theorem pe_tget (hu : X.A.units + 1 < cLine) (ho : PE X o td) (hi : PE X i ty) (hs : NoSl i) : PE X (.Subscript o i pos) (tTGet X.K td ty) := by
  refine ⟨fun pins s σ H Q I h => subD_of PySem.F.slot_dict_getitem.lookup hs (thn (ho.run pins s σ H _ I h) fun u s1 ⟨x, H1, I1, rx, q1⟩ => thn (hi.run pins s1 σ H1 _ I1 q1) fun iv s2 ⟨y, H2, I2, ry, a, v, ex, g, q2⟩ => ?_)⟩
  subst ex
  obtain rfl : u = Value.ref a := rx
  obtain ⟨us, k, b, e1, _⟩ := id g
  exact ⟨(isD_at I2 (.inr ⟨us, e1⟩)).1, ds_getItem hu I2 g ry fun w' s3 I3 rw' => ⟨v, H2, I3, rw', q2⟩⟩
theorem pc_tnotin (hu : X.A.units + 1 < cLine) (hi : PE X i ty) (ho : PE X o td) : PC X .NotIn i o (tTNotIn X.K ty td) := by
  refine ⟨fun pins s σ H Q I h => thn (hi.run pins s σ H _ I h) fun iv s1 ⟨y, H1, I1, ry, q1⟩ => thn (ho.run pins s1 σ H1 _ I1 q1) fun u s2 ⟨x, H2, I2, rx, a, ov, ex, g, q2⟩ => ?_⟩
  subst ex
  obtain rfl : u = Value.ref a := rx
  exact ds_notIn hu I2 g ry fun s3 I3 => ⟨.bl (!ov.isSome), H2, I3, rfl, q2⟩
end
def dtR (d : D) (h : Ph) : Option (List (List Key × D)) := match d with
  | .dcT ks vs => some (ks.zip vs)
  | .ref n => match h[n]? with
    | some (.dT kvs) => some kvs
    | _ => none
  | _ => none
theorem repK_zip {K : PySem.W.Frag} {mg : Str → Option Value} {w : Wd} : ∀ {ks : List (List Key)} {xs : List D} {vs : List V}, Reps K mg w xs vs → RepK K mg w (ks.zip xs) (ks.zip vs)
  | [], _, _, _ => .nil
  | _ :: _, [], _, .nil => .nil
  | k :: ks, _ :: _, _, .cons h t => .cons h (repK_zip t)
theorem dtR_ok {K : PySem.W.Frag} {mg : Str → Option Value} {w : Wd} {H : Hp} {h : Ph} (L : Lk K mg w h H) {d : D} {v : V} {kvs : List (List Key × D)} (e : dtR d h = some kvs) (r : Rep K mg w d v) : ∃ a us, v = .ref a ∧ Rd H a (.dT us) ∧ RepK K mg w kvs us := by
  cases r with
  | ref q =>
    obtain ⟨o, u, h1, h2, r'⟩ := L.there q
    unfold dtR at e
    simp only [h1] at e
    cases r' with
    | dT r' => cases e; exact ⟨_, _, rfl, .inl h2, r'⟩
    | _ => cases e
  | dcT q le r => cases e; exact ⟨_, _, rfl, .inr ⟨_, L.ex _ _ q⟩, repK_zip r⟩
  | _ => cases e
def kT (d : D) : Option (List Key) := match d with
  | .tup xs => keysOf xs
  | _ => none
theorem kT_ok {K : PySem.W.Frag} {mg : Str → Option Value} {w : Wd} {H : Hp} {h : Ph} (L : Lk K mg w h H) {d : D} {v : V} {k : List Key} (e : kT d = some k) (r : Rep K mg w d v) : ∃ b, v = .ref b ∧ SqT K H b (k.map kV) := by
  cases r with
  | tup q r =>
    obtain rfl := keysOf_ok e r
    exact ⟨_, rfl, SqT.ex L q.sq⟩
  | _ => cases e
def dTGet (o k : D) (h : Ph) : R D := R.opt (dtR o h) fun kvs => R.opt (kT k) fun ks => R.opt (valD kvs ks) fun v => .ok v h
def dTNotIn (k o : D) (h : Ph) : R D := R.opt (dtR o h) fun kvs => R.opt (kT k) fun ks => .ok (.bl (!(valD kvs ks).isSome)) h
def sTGet1 (fo fk : SE) : SE := fun e h => (fo e h).bind fun o h1 => R.opt (dtR o h1) fun _ => (fk e h1).bind fun k h2 => R.opt (dtR o h2) fun kvs => R.opt (kT k) fun ks => .ok ((valD kvs ks).getD .non) h2
def dTLen (o : D) (h : Ph) : R D := R.opt (dtR o h) fun kvs => .ok (.int kvs.length) h
def sFrzT (f : SE) : SE := fun e h => (f e h).bind fun o h1 => R.opt (dtOf o h1) fun p => .ok (.dcT (p.2.map (·.1)) (p.2.map (·.2))) (h1.set p.1 .dead)
def kTD (k : List Key) : D := .tup (k.map kD)
def iKeysT (f : SE) : SIt := fun e h => (f e h).bind fun o h1 => match o with
  | .dcT ks vs => .ok (ks.map kTD) h1
  | _ => .bad
section
variable {ι : Type} {Z : Cz} {Y : ι → Cy} {W : WX}
theorem ei_tget {o i : Expr} {fo fi : SE} {pos : Pos} (hu : ∀ i, (Y i).A.units + 1 < cLine) (ho : EI Z Y W o fo) (hi : EI Z Y W i fi) (hs : NoSl i) : EI Z Y W (.Subscript o i pos) (sBin dTGet fo fi) := by
  obtain ⟨to, po, so⟩ := ho
  obtain ⟨ta, pa, sa⟩ := hi
  refine ⟨tTGet Z.K to ta, fun i => pe_tget (X := cx Z (Y i)) (hu i) (po i) (pa i) hs, fun σ e w h H Q E L hp => so σ e w h H _ E L (Po.bind (Rp := Rep Z.K Z.mg) hp fun a1 h1 w1 H1 x _ st1 L1 r1 hp1 => sa σ e w1 h1 H1 _ (E.mono st1.le) L1 (Po.bind (Rp := Rep Z.K Z.mg) hp1 fun k h2 w2 H2 y _ st2 L2 r2 hp2 => ?_))⟩
  unfold dTGet at hp2
  obtain ⟨kvs, e1, hA⟩ := Po.some hp2
  obtain ⟨ks, e2, hB⟩ := Po.some hA
  obtain ⟨d, e3, hq⟩ := Po.some hB
  clear hp2 hA hB
  obtain ⟨a, us, rfl, ra, rk⟩ := dtR_ok L2 e1 (r1.mono st2.le)
  obtain ⟨b, rfl, sb⟩ := kT_ok L2 e2 r2
  rcases rk.val ks with ⟨d', v, z1, z2, z3⟩ | ⟨z1, _⟩
  · rw [e3] at z1
    cases z1
    exact ⟨a, v, rfl, ⟨us, ks, b, ra, rfl, sb, z2.symm⟩, Po.here L2 z3 hq⟩
  · rw [e3] at z1
    cases z1
theorem sBin_bool {g : D → D → Ph → R D} {fa fb : SE} {e : Pe} {h h' : Ph} {a : D} (hg : ∀ x y h a h', g x y h = .ok a h' → ∃ b, a = .bl b) (q : sBin g fa fb e h = .ok a h') : ∃ b, a = .bl b := by
  unfold sBin at q
  cases z : fa e h with
  | ok x h1 =>
    rw [z] at q
    have q : (fb e h1).bind (fun b h2 => g x b h2) = R.ok a h' := q
    cases z2 : fb e h1 with
    | ok y h2 => rw [z2] at q; exact hg _ _ _ _ _ q
    | exc _ _ _ => rw [z2] at q; cases q
    | bad => rw [z2] at q; cases q
  | exc _ _ _ => rw [z] at q; cases q
  | bad => rw [z] at q; cases q
theorem dTNotIn_bool {x y : D} {h h' : Ph} {a : D} (q : dTNotIn x y h = .ok a h') : ∃ b, a = .bl b := by
  unfold dTNotIn at q
  cases z : dtR y h with
  | none => rw [z] at q; cases q
  | some p =>
    rw [z] at q
    have q : (R.opt (kT x) fun ks => R.ok (D.bl (!(valD p ks).isSome)) h) = R.ok a h' := q
    cases z2 : kT x with
    | none => rw [z2] at q; cases q
    | some k => rw [z2] at q; cases q; exact ⟨_, rfl⟩
theorem sn_tnotin {K : PySem.W.Frag} {mg : Str → Option Value} {ta tb : TE} {fa fb : SE} (sa : SnE K mg W ta fa) (sb : SnE K mg W tb fb) : SnE K mg W (tTNotIn K ta tb) (sBin dTNotIn fa fb) := by
  refine fun σ e w h H Q E L hp => sa σ e w h H _ E L (Po.bind (Rp := Rep K mg) hp fun a1 h1 w1 H1 x _ st1 L1 r1 hp1 => sb σ e w1 h1 H1 _ (E.mono st1.le) L1 (Po.bind (Rp := Rep K mg) hp1 fun b1 h2 w2 H2 y _ st2 L2 r2 hp2 => ?_))
  unfold dTNotIn at hp2
  obtain ⟨kvs, e1, hA⟩ := Po.some hp2
  obtain ⟨ks, e2, hq⟩ := Po.some hA
  clear hp2 hA
  obtain ⟨ad, us, rfl, ra, rk⟩ := dtR_ok L2 e1 r2
  obtain ⟨b, rfl, sb⟩ := kT_ok L2 e2 (r1.mono st2.le)
  refine ⟨ad, valV us ks, rfl, ⟨us, ks, b, ra, rfl, sb, rfl⟩, ?_⟩
  have : (valD kvs ks).isSome = (valV us ks).isSome := by rcases rk.val ks with ⟨d', v, z1, z2, z3⟩ | ⟨z1, z2⟩ <;> rw [z1, z2] <;> rfl
  rw [← this]
  exact Po.here L2 (.bl _) hq
theorem ti_tnotin {a b : Expr} {fa fb : SE} {pos : Pos} (hu : ∀ i, (Y i).A.units + 1 < cLine) (ha : EI Z Y W a fa) (hb : EI Z Y W b fb) (hm : behindInMarks .NotIn b = false := by rfl) : TI Z Y W (.Compare a [.NotIn] [b] pos) (sTst (sBin dTNotIn fa fb)) := by
  obtain ⟨ta, pa, sa⟩ := ha
  obtain ⟨tb, pb, sb⟩ := hb
  exact ⟨tB (tTNotIn Z.K ta tb), fun i => pt_cmp (pc_tnotin (X := cx Z (Y i)) (hu i) (pa i) (pb i)) hm, sn_bool (sn_tnotin sa sb) fun e h a h' q => sBin_bool (fun x y h a h' q => dTNotIn_bool q) q⟩
def rLenR : List V → Hp → VK → Prop := fun xs H Q => ∃ (p : Addr) (kvs : List (List Key × V)), xs = [.ref p] ∧ Rd H p (.dT kvs) ∧ Q (.int ((kvs.length : Nat) : Int)) H
theorem call_lenR {X : Cx} : CallR X (.builtin "len") rLenR := by
  intro pins s σ H xs us Q I r h
  obtain ⟨p, kvs, rfl, hp, q⟩ := h
  obtain ⟨u, rfl, rx⟩ := vals1 r
  obtain rfl : u = .ref p := rx
  obtain ⟨z, hd, ys, rel, dd⟩ := dt_rd I.hok hp
  have hl : kvs.length = ys.length := Paired.length rel
  refine call_len_dictH hd dd (by rw [← hl]; rw [sizeLine_eq] at z; omega) ?_
  rw [← hl]
  exact ⟨.int ((kvs.length : Nat) : Int), H, I.tok _, ⟨_, rfl⟩, q⟩
theorem ci_lenR {K : PySem.W.Frag} {mg : Str → Option Value} : CallI K mg rLenR (g1 dTLen) := ci_1 fun W σ w h H a x Q L ra hp => by
  unfold dTLen at hp
  obtain ⟨kvs, e1, hq⟩ := Po.some hp
  obtain ⟨ad, us, rfl, ra', rk⟩ := dtR_ok L e1 ra
  refine ⟨ad, us, rfl, ra', ?_⟩
  rw [← rk.length]
  exact Po.here L (.int _) hq
theorem repK_keys {K : PySem.W.Frag} {mg : Str → Option Value} {w : Wd} {κ : Type} {ds : List (κ × D)} {vs : List (κ × V)} (r : RepK K mg w ds vs) : vs.map (·.1) = ds.map (·.1) ∧ Reps K mg w (ds.map (·.2)) (vs.map (·.2)) := by
  induction r with
  | nil => exact ⟨rfl, .nil⟩
  | cons h _ ih => exact ⟨by rw [List.map_cons, List.map_cons, ih.1], .cons h ih.2⟩
theorem zip_parts {α β : Type} : ∀ l : List (α × β), (l.map (·.1)).zip (l.map (·.2)) = l
  | [] => rfl
  | x :: r => by rw [List.map_cons, List.map_cons, List.zip_cons_cons, zip_parts r]
theorem ei_frzT {e : Expr} {f : SE} (hf : EI Z Y W e f) : EI Z Y W e (sFrzT f) := by
  obtain ⟨t, pa, s⟩ := hf
  refine ⟨_, fun i => pe_pin (pa i), fun σ e w h H Q E L hp => s σ e w h H _ E L (Po.bind (Rp := Rep Z.K Z.mg) hp fun o h1 w1 H1 x _ st1 L1 r1 hp1 => ?_)⟩
  obtain ⟨⟨n, kvs⟩, e1, hq⟩ := Po.some hp1
  clear hp1
  obtain ⟨ad, vs, rfl, rfl, q, q2, q3, rk⟩ := dtOf_ok L1 e1 r1
  refine ⟨ad, _, rfl, q3, trivial, fun od => ?_⟩
  obtain ⟨l1, l2, l3⟩ := L1.pin (u := .frz od (.dT vs)) q q2 (by intro z; cases z)
  obtain ⟨k1, k2⟩ := repK_keys (rk.mono l3)
  refine hq _ _ _ l2 l1 (.dcT (vs := vs.map (·.2)) (od := od) ?_ ?_ k2)
  · rw [← k1, zip_parts]; exact upd_same
  · rw [← k1, List.length_map, List.length_map]
theorem Lk.learn {K : PySem.W.Frag} {mg : Str → Option Value} {w : Wd} {h : Ph} {H : Hp} (L : Lk K mg w h H) {b : Addr} {xs : List V} (hb : H b = some (.tup xs)) : ∃ w', Lk K mg w' h H ∧ Step w H w' H ∧ w'.G b = some (.tup xs) := by
  cases e : w.G b with
  | some u =>
    have := L.ex b u e
    rw [hb] at this
    cases this
    exact ⟨w, L, Step.refl _ _, e⟩
  | none =>
    have le : Le w ⟨w.ms, upd w.G b (.tup xs)⟩ := ⟨⟨[], by simp⟩, Ex.new e⟩
    refine ⟨⟨w.ms, upd w.G b (.tup xs)⟩, ⟨fun a u q => ?_, L.len, fun n a o e1 e2 => ?_, L.inj, fun n a o e1 e2 e3 => ?_⟩, ⟨le, fun a o q _ => q, fun a q => .inl q, fun a _ _ nt => ?_⟩, upd_same⟩
    · by_cases z : a = b
      · subst z
        rw [show (⟨w.ms, upd w.G a (.tup xs)⟩ : Wd).G a = some (.tup xs) from upd_same] at q
        rw [hb]; exact q
      · rw [show (⟨w.ms, upd w.G b (.tup xs)⟩ : Wd).G a = w.G a from upd_ne z] at q
        exact L.ex a u q
    · obtain ⟨u, hu, r⟩ := L.obj n a o e1 e2
      exact ⟨u, hu, r.mono le⟩
    · obtain ⟨u, hu, r⟩ := L.obj n a o e1 e2
      show upd w.G b (.tup xs) a = Option.none
      rw [upd_ne fun z => r.no_tup e3 xs (by rw [z, hb] at hu; exact (Option.some.inj hu).symm)]
      exact L.out n a o e1 e2 e3
    · show upd w.G b (.tup xs) a = w.G a
      exact upd_ne fun z => nt xs (by rw [z]; exact hb)
theorem kTD_rep {K : PySem.W.Frag} {mg : Str → Option Value} {w : Wd} {b : Addr} {k : List Key} (h : w.G b = some (.tup (k.map kV))) : Rep K mg w (kTD k) (.ref b) := by
  have go : ∀ k : List Key, Reps K mg w (k.map kD) (k.map kV) := by
    intro k
    induction k with
    | nil => exact .nil
    | cons x r ih => exact .cons kD_ok ih
  exact .tup (.inl h) (go k)
theorem itOk_keysT {K : PySem.W.Frag} {mg : Str → Option Value} {w : Wd} {a : Addr} {o : Obj} {ks : List (List Key)} {vs : List V} (q : w.G a = some (.frz o (.dT (ks.zip vs)))) (hl : ks.length = vs.length) : ItOk K mg w (Itkt a o (ks.zip vs)) (ks.map kTD) where
  go := fun w' h' H' i d le L e => by
    rw [List.getElem?_map] at e
    cases e1 : ks[i]? with
    | none => rw [e1] at e; cases e
    | some k =>
      rw [e1] at e
      cases e
      have il := (List.getElem?_eq_some_iff.mp e1).1
      have hz : (ks.zip vs)[i]? = some (k, vs[i]'(hl ▸ il)) := List.getElem?_zip_eq_some.mpr ⟨e1, List.getElem?_eq_getElem _⟩
      refine ⟨⟨L.ex _ _ (le.ex _ _ q), (List.getElem?_eq_some_iff.mp hz).1⟩, fun z H'' hy => ?_⟩
      obtain ⟨rfl, k', v', b, y1, rfl, y2⟩ := hy
      rw [hz] at y1
      cases y1
      obtain ⟨w2, l1, l2, l3⟩ := L.learn y2
      exact ⟨w2, l2, l1, kTD_rep l3⟩
  stop := fun w' h' H' i le L hi => by
    rw [List.length_map] at hi
    exact ⟨L.ex _ _ (le.ex _ _ q), by rw [List.length_zip, hl, Nat.min_self, ← hl]; exact hi⟩
theorem ii_keysT {tg a : Expr} {f : SE} (ha : EI Z Y W a f) : II Z Y W tg a (iKeysT f) := by
  obtain ⟨t, pa, s⟩ := ha
  refine ⟨_, fun i => pi_keys (X := cx Z (Y i)) (pa i), fun σ e w h H Q E L hp => s σ e w h H _ E L (Po.bind (Rp := Rep Z.K Z.mg) (Rq := fun w xs J => ItOk Z.K Z.mg w J xs) hp fun a1 h1 w1 H1 x _ st1 L1 r1 hp1 => ?_)⟩
  cases r1 with
  | @dcT ad od ks vs xs q le r =>
    refine ⟨ad, od, rfl, .inr ⟨_, L1.ex _ _ q, ?_⟩⟩
    exact hp1 _ _ _ (Step.refl _ _) L1 (itOk_keysT q le)
  | _ => exact hp1.elim
end
end Pd

namespace Pd
open PySem PySem.Spec PyProof.Rows L2 Evl
section
variable {X : Cx}
end
end Pd

namespace Pd
open PySem PySem.Spec PyProof.Rows L2 Evl
structure TJ {ι : Type} (Z : Cz) (Y : ι → Cy) (W : WX) where
  i : ι
  pn : List (Addr × Obj)
  xe : Value → Shared → Prop
  tk : Takes (cx Z { Y i with pn := pn, xe := xe }) W
section
variable {ι : Type} {Z : Cz} {Y : ι → Cy} {W : WX}
end
end Pd

namespace Pd
open PySem PySem.Spec PyProof.Rows L2
section
variable {P : Program} {w : World} {A : Around} {E : Value → Shared → Prop} {s : Shared}
end
end Pd
namespace Pd
open PySem PySem.Spec PyProof.Rows L2 SrtO
section
variable {X : Cx}
end
section
variable {ι : Type} {Z : Cz} {Y : ι → Cy} {W : WX}
end
section
variable {ι : Type} {Z : Cz} {Y : ι → Cy} {W : WX}
end
end Pd

namespace Pd
open PySem PySem.Spec PyProof.Rows L2 Evl
section
variable {prog : Program} {w : World} {A : Around} {R : Result → Shared → Prop} {s : Shared} {kx vx t0 i0 t1 i1 : Expr} {f0 f1 : List Expr} {scope : Scope} {pos : Pos} {it acc : Value} {D : Addr} {env : Env}
end
section
variable {X : Cx} {pins : List (Addr × Obj)} {σ : L2.St} {H : Hp} {s : Shared} {E : Value → Shared → Prop}
end
section
variable {X : Cx}
structure DcB (X : Cx) (scope : Scope) (own : List (Str × Nat)) (kx vx t0 t1 i1 : Expr) (f0 f1 : List Expr) (g : TG) (tt : TT) (wi1 : L2.TI) (g1 : TG) (tt1 : TT) (tk tv : TE) : Prop where
  g : ∀ (s : Shared) (H : Hp) (C : Addr) (cl : List (Str × Addr)) (fp : List Addr), PG (X.blk s H scope (compEnvC scope cl C X.env) fp) t0 g
  t : ∀ (s : Shared) (H : Hp) (C : Addr) (cl : List (Str × Addr)) (fp : List Addr), PTs (X.blk s H scope (compEnvC scope cl C X.env) fp) f0 tt
  i1 : ∀ (s : Shared) (H : Hp) (C : Addr) (cl : List (Str × Addr)) (fp : List Addr), L2.PI (X.blk s H scope (compEnvC scope cl C X.env) fp) t1 i1 wi1
  g1 : ∀ (s : Shared) (H : Hp) (C : Addr) (cl : List (Str × Addr)) (fp : List Addr), PG (X.blk s H scope (compEnvC scope cl C X.env) fp) t1 g1
  t1 : ∀ (s : Shared) (H : Hp) (C : Addr) (cl : List (Str × Addr)) (fp : List Addr), PTs (X.blk s H scope (compEnvC scope cl C X.env) fp) f1 tt1
  k : ∀ (s : Shared) (H : Hp) (C : Addr) (cl : List (Str × Addr)) (fp : List Addr), PE (X.blk s H scope (compEnvC scope cl C X.env) fp) kx tk
  v : ∀ (s : Shared) (H : Hp) (C : Addr) (cl : List (Str × Addr)) (fp : List Addr), PE (X.blk s H scope (compEnvC scope cl C X.env) fp) vx tv
end
section
variable {K : PySem.W.Frag} {mg : Str → Option Value} {W : WX}
structure AccD (K : PySem.W.Frag) (mg : Str → Option Value) (w1 : Wd) (H1 : Hp) (n : Nat) (Dl : Addr) (w : Wd) (h : Ph) (H : Hp) : Prop where
  stp : Step w1 H1 w H
  L : Lk K mg w h H
  o : Rep K mg w (.ref n) (.ref Dl)
theorem AccD.go {w1 w w' : Wd} {H1 H H' : Hp} {n : Nat} {Dl : Addr} {h h' : Ph} (a : AccD K mg w1 H1 n Dl w h H) (st : Step w H w' H') (L : Lk K mg w' h' H') : AccD K mg w1 H1 n Dl w' h' H' := ⟨a.stp.trans st, L, a.o.mono st.le⟩
end
section
variable {ι : Type} {Z : Cz} {Y : ι → Cy} {W : WX}
end
end Pd

namespace Pd
open PySem PySem.Spec PyProof.Rows L2 Evl
theorem Reps.erase {K : PySem.W.Frag} {mg : Str → Option Value} {w : Wd} : ∀ {xs : List D} {vs : List V} (k : Nat), Reps K mg w xs vs → Reps K mg w (xs.eraseIdx k) (vs.eraseIdx k)
  | _, _, _, .nil => .nil
  | _, _, 0, .cons _ r => r
  | _, _, k + 1, .cons a r => .cons a (Reps.erase k r)
theorem Reps.at {K : PySem.W.Frag} {mg : Str → Option Value} {w : Wd} : ∀ {xs : List D} {vs : List V} (k : Nat) {y : D}, Reps K mg w xs vs → xs[k]? = some y → ∃ v, vs[k]? = some v ∧ Rep K mg w y v
  | _, _, _, _, .nil, e => nomatch e
  | _, _, 0, _, .cons a r, e => by cases e; exact ⟨_, rfl, a⟩
  | _, _, k + 1, _, .cons a r, e => Reps.at k r e
def dPopAt (o a : D) (h : Ph) : R D := onLst o h fun n xs => match a with
  | .int i => if -(2 ^ 63) ≤ i ∧ i < 2 ^ 63 then R.opt (seqIndex? i xs.length) fun k => R.opt xs[k]? fun y => .ok y (h.set n (.lst (xs.eraseIdx k))) else .bad
  | _ => .bad
section
variable {ι : Type} {Z : Cz} {Y : ι → Cy} {W : WX}
theorem ei_popAt {o a : Expr} {fo fa : SE} {apos cpos : Pos} (ho : EI Z Y W o fo) (ha : EI Z Y W a fa) (hb : ∀ i, attributeBase o "pop" (Y i).env (eval o (Y i).env) = eval o (Y i).env := by intro _; rfl)
    (hfew : ∀ i, ((backTo cpos (starEach [a] (Y i).env)).all (fun x => !x.1) && (backToKw cpos (keywordEach [] (Y i).env)).all (fun x => x.1.isSome)
      && decide (([a] : List Expr).length + ([] : List Keyword).length + (if ([] : List Keyword).isEmpty then 0 else 1) < 30)) = true := by intro _; rfl)
    (hline : (apos.endLine == cpos.line) = true := by rfl) (hs : ∀ i, starEach [a] (Y i).env = (false, eval a (Y i).env) :: starEach [] (Y i).env := by intro _; rfl) (hpl : ∀ i, (backTo cpos (starEach [] (Y i).env)).any (·.1) = false := by intro _; rfl) :
    EI Z Y W (.Call (.Attribute o "pop" apos) [a] [] cpos) (sMeth1 dPopAt fo fa) := by
  obtain ⟨to, po, so⟩ := ho
  obtain ⟨ta, pa, sa⟩ := ha
  refine ⟨tBM Z.K "list" rPopAt to (tCons ta tNil), fun i => pe_bm (X := cx Z (Y i)) PySem.F.plainAttrs_list PySem.F.slot_list_pop PySem.F.type_list_pop mt_popAt (po i) (pa_cons (pa i) pa_nil (hs i)) (hb i) (hfew i) hline (hs i) (hpl i), fun σ e w h H Q E L hp => so σ e w h H _ E L (Po.bind (Rp := Rep Z.K Z.mg) hp fun o1 h1 w1 H1 x _ st1 L1 r1 hp1 => ?_)⟩
  obtain ⟨xs, e1, hp1⟩ := Po.some hp1
  obtain ⟨a1, vs, rfl, hl, rl⟩ := lsOf_ok L1 e1 r1
  refine ⟨.inl ⟨rfl, vs, .inl (.inl hl)⟩, sa σ e w1 h1 H1 _ (E.mono st1.le) L1 (Po.bind (Rp := Rep Z.K Z.mg) hp1 fun a h2 w2 H2 y _ st2 L2 r2 hp2 => ?_)⟩
  obtain ⟨n, a2, ys, us, rfl, e2, q, k1, k2, k3, hp2⟩ := onLst_ok L2 (r1.mono st2.le) hp2
  cases e2
  cases r2 with
  | int i =>
    obtain ⟨⟨c1, c2⟩, hp2⟩ := Po.ite hp2
    obtain ⟨k, e3, hp2⟩ := Po.some hp2
    obtain ⟨z, e4, hp2⟩ := Po.some hp2
    obtain ⟨v, e5, rv⟩ := Reps.at k k3 e4
    exact ⟨a1, us, i, k, v, rfl, rfl, k2, c1, c2, by rw [← k3.length]; exact e3, e5, po_put L2 q k1 (Reps.erase k k3) rv hp2⟩
  | _ => exact hp2.elim
end
def rLenSetM (P : Program) (w : World) : List V → Hp → VK → Prop := fun vs H Q => ∃ (a : Addr) (L : List (Addr × List Int)), vs = [V.ref a] ∧ H a = some (SqO P w a L) ∧ ((L.map (·.2)).Nodup → Q (.int (L.length : Nat)) H)
section
variable {X : Cx}
theorem Sq.size {P : Program} {w : World} {h : Heap} {a : Addr} {L : List (Addr × List Int)} {es : Array (Int × Value)} {ep : Nat} {t : SetTable} (R : Sq P w h a L es ep t) : es.size = L.length := by
  have := congrArg List.length R.row
  rw [Array.length_toList] at this
  rw [this]
  unfold rowsOf
  simp
theorem cr_lenSetM : CallR X (.builtin "len") (rLenSetM X.prog X.w) := by
  intro pins s σ H vs us Q I r h
  obtain ⟨a, L, rfl, ha, q⟩ := h
  obtain ⟨es, ep, t, R⟩ : ∃ es ep t, Sq X.prog X.w s.heap a L es ep t := (I.hok a _ ha).1
  rw [Vals.ref1 r]
  obtain ⟨o, ho, hex, hd⟩ := R.at_
  have ln : t.place.size = L.length := by have := R.tb.len; rw [Array.length_toList, List.length_map] at this; exact this
  have ft : t.fits es.size = true := by
    unfold SetTable.fits
    rw [Bool.and_eq_true, beq_iff_eq, decide_eq_true_eq]
    refine ⟨by rw [ln, R.size], ?_⟩
    have g := R.gap
    unfold SetTable.fill
    rw [R.tb.nod]
    simp
    omega
  refine call_len_set ho hex hd ft (by rw [R.size]; have := R.few; omega) ⟨.int (L.length : Nat), H, I.tok _, ⟨_, by rw [R.size]⟩, q R.one⟩
end
def dLenSet (a : D) (h : Ph) : R D := R.opt (lstOf a h) fun xs => R.opt (tupsOf xs) fun ns => if (ddp ns).length < 300 then .ok (.int ((ddp ns).length : Nat)) h else .bad
def sLenSet (f : SE) : SE := fun e h => (f e h).bind dLenSet
section
variable {ι : Type} {Z : Cz} {Y : ι → Cy} {W : WX}
theorem ei_lenset {x y : Str} {a : Expr} {fa : SE} {p pos p2 pos2 : Pos} (hr : CallF Z Y (.type "set") (rSetMany Z.K Z.P Z.w)) (hr2 : CallF Z Y (.builtin "len") (rLenSetM Z.P Z.w)) (hg : GlF Y x) (hm : Z.mg x = none) (hv : bootBuiltins x = some (.type "set")) (hg2 : GlF Y y) (hm2 : Z.mg y = none) (hv2 : bootBuiltins y = some (.builtin "len")) (ha : EI Z Y W a fa)
    (hn : x ≠ "__name__" := by decide) (hdb : (x == ("__debug__" : Str)) = false := by decide) (hn2 : y ≠ "__name__" := by decide) (hdb2 : (y == ("__debug__" : Str)) = false := by decide)
    (he : ∀ i, starEach [a] (Y i).env = [(false, eval a (Y i).env)] := by intro _; rfl) (he2 : ∀ i, starEach [.Call (.Name x p) [a] [] pos] (Y i).env = [(false, eval (.Call (.Name x p) [a] [] pos) (Y i).env)] := by intro _; rfl) :
    EI Z Y W (.Call (.Name y p2) [.Call (.Name x p) [a] [] pos] [] pos2) (sLenSet fa) := by
  obtain ⟨t, pa, s⟩ := ha
  refine ⟨_, fun i => pe_callB (hr2 i) (hg2 i) hm2 hv2 (pa_cons (pe_callTy (hr i) (hg i) hm hv (pa_cons (pa i) pa_nil (he i)) hn hdb (he i) rfl) pa_nil (he2 i)) hn2 hdb2 (he2 i) rfl, fun σ e w h H Q E L hp => s σ e w h H _ E L (Po.bind (Rp := Rep Z.K Z.mg) hp fun d h1 w1 H1 x _ st1 L1 r1 hp1 => ?_)⟩
  unfold dLenSet at hp1
  obtain ⟨xs, e1, hp1⟩ := Po.some hp1
  obtain ⟨ns, e2, hp1⟩ := Po.some hp1
  obtain ⟨b, vs, rfl, hb, rs⟩ := lstOf_ok L1 e1 r1
  obtain ⟨M, m1, m2, m3⟩ := tupsOf_ok e2 rs
  obtain ⟨c, hp1⟩ := Po.ite hp1
  obtain ⟨ks, rfl, k2⟩ := unpair m3
  have ek : ks.map (·.2) = ns := by rw [← m2, List.map_map]; rfl
  refine ⟨b, ks, ddp ns, rfl, by rw [← m1, List.map_map] at hb; exact hb, fun p hp => SqT.ex L1 (k2 p hp).2.1, c, fun p hp => ddp_mem.mpr (by rw [← ek]; exact List.mem_map_of_mem hp), fun a0 S hn0 s1 s2 => ?_⟩
  obtain ⟨l1, l2, l3⟩ := L1.lay hn0 (SqO Z.P Z.w a0 S)
  refine ⟨a0, S, rfl, upd_same, fun nd => ?_⟩
  have el : (ddp ns).length = S.length := by
    have pm : (S.map (·.2)).Perm (ddp ns) := (List.perm_ext_iff_of_nodup nd (ddp_nodup ns)).mpr fun x => by
      rw [ddp_mem, ← ek]
      constructor
      · intro hx
        obtain ⟨q, hq, rfl⟩ := List.mem_map.mp hx
        exact List.mem_map_of_mem (s1 q hq)
      · intro hx
        obtain ⟨q, hq, rfl⟩ := List.mem_map.mp hx
        exact s2 q hq
    have := pm.length_eq
    rw [List.length_map] at this
    exact this.symm
  rw [el] at hp1
  exact Po.here l1 (.int _) (Po.step l2 hp1)
end
end Pd

namespace Pd
open PySem L2 Evl
theorem nr {α : Sort _} {a b : α} (q : a = b) : a = b := by subst q; exact rfl
section
variable {α β : Type} {e : Pe} {h : Ph}
def RT (k : α → Ph → R β) : Type := R α
def bnd (k : α → Ph → R β) (r : RT k) : R β := R.bind r k
theorem R.bind_bnd {r : R α} {k : α → Ph → R β} : r.bind k = bnd k r := nr rfl
theorem bnd_ok {k : α → Ph → R β} {a : α} : bnd k (R.ok a h) = k a h := nr rfl
def bdn (k : α → Ph → R β) (r : RT k) : R β := R.bd r k
theorem R.bd_bdn {r : R α} {k : α → Ph → R β} : r.bd k = bdn k r := nr rfl
theorem bdn_ok {k : α → Ph → R β} {a : α} : bdn k (R.ok a h) = k a h := nr rfl
def RF (k : α → Ph → F) : Type := R α
def tof (k : α → Ph → F) (e : Pe) (r : RF k) : F := R.toF r e k
theorem R.toF_tof {r : R α} {k : α → Ph → F} : r.toF e k = tof k e r := nr rfl
theorem tof_ok {k : α → Ph → F} {a : α} : tof k e (R.ok a h) = k a h := nr rfl
def FT (k : Pe → Ph → F) : Type := F
def sqn (k : Pe → Ph → F) (r : FT k) : F := F.seq r k
theorem F.seq_sqn {r : F} {k : Pe → Ph → F} : r.seq k = sqn k r := nr rfl
theorem sqn_nx {k : Pe → Ph → F} : sqn k (F.nx e h) = k e h := nr rfl
theorem sqn_ret {k : Pe → Ph → F} {d : D} : sqn k (F.ret d h) = F.ret d h := nr rfl
theorem sqn_cnt {k : Pe → Ph → F} : sqn k (F.cnt e h) = F.cnt e h := nr rfl
theorem sqn_brk {k : Pe → Ph → F} : sqn k (F.brk e h) = F.brk e h := nr rfl
def trn (k : Pe → Ph → F) (r : FT k) : F := F.turn r k
theorem F.turn_trn {r : F} {k : Pe → Ph → F} : r.turn k = trn k r := nr rfl
theorem trn_nx {k : Pe → Ph → F} : trn k (F.nx e h) = k e h := nr rfl
theorem trn_ret {k : Pe → Ph → F} {d : D} : trn k (F.ret d h) = F.ret d h := nr rfl
theorem trn_cnt {k : Pe → Ph → F} : trn k (F.cnt e h) = k e h := nr rfl
theorem trn_brk {k : Pe → Ph → F} : trn k (F.brk e h) = F.nx e h := nr rfl
theorem g1_ap {g : D → Ph → R D} {a : D} : g1 g [a] h = g a h := nr rfl
theorem g2_ap {g : D → D → Ph → R D} {a b : D} : g2 g [a, b] h = g a b h := nr rfl
end
theorem sVar_ap {i : Nat} {e : Pe} {h : Ph} : sVar i e h = (match e[i]? with
  | some (some d) => .ok d h
  | _ => .bad) := nr rfl
theorem sC_ap {d : D} {v0 : Pe} {h : Ph} : sC d v0 h = (.ok d h) := nr rfl
theorem sBin_ap {g : D → D → Ph → R D} {fa fb : SE} {e : Pe} {h : Ph} : sBin g fa fb e h = ((fa e h).bind fun a h1 => (fb e h1).bind fun b h2 => g a b h2) := nr rfl
theorem sNeg_ap {f : SE} {e : Pe} {h : Ph} : sNeg f e h = ((f e h).bind fun a h1 => match a with
  | .int i => .ok (.int (-i)) h1
  | _ => .bad) := nr rfl
theorem sAnd_ap {fa fb : SE} {e : Pe} {h : Ph} : sAnd fa fb e h = ((fa e h).bind fun a h1 => a.br (fb e h1) (.ok (.bl false) h1)) := nr rfl
theorem sOr_ap {fa fb : SE} {e : Pe} {h : Ph} : sOr fa fb e h = ((fa e h).bind fun a h1 => a.br (.ok (.bl true) h1) (fb e h1)) := nr rfl
theorem sNot_ap {fa : SE} {e : Pe} {h : Ph} : sNot fa e h = ((fa e h).bind fun a h1 => a.neg h1) := nr rfl
theorem sIf_ap {c : ST} {fa fb : SE} {e : Pe} {h : Ph} : sIf c fa fb e h = ((c e h).bind fun b h1 => br b (fa e h1) (fb e h1)) := nr rfl
theorem sTst_ap {f : SE} {e : Pe} {h : Ph} : sTst f e h = ((f e h).bind fun a h1 => a.tst h1) := nr rfl
theorem qAnd_ap {fa fb : ST} {e : Pe} {h : Ph} : qAnd fa fb e h = ((fa e h).bind fun a h1 => br a (fb e h1) (.ok false h1)) := nr rfl
theorem qOr_ap {fa fb : ST} {e : Pe} {h : Ph} : qOr fa fb e h = ((fa e h).bind fun a h1 => br a (.ok true h1) (fb e h1)) := nr rfl
theorem qNot_ap {fa : ST} {e : Pe} {h : Ph} : qNot fa e h = ((fa e h).bind fun a h1 => .ok (!a) h1) := nr rfl
theorem qYes_ap {v0 : Pe} {h : Ph} : qYes  v0 h = (.ok true h) := nr rfl
theorem sChain_ap {g g' : D → D → Ph → R D} {fa fb fc : SE} {e : Pe} {h : Ph} : sChain g g' fa fb fc e h = ((fa e h).bind fun a h1 => (fb e h1).bind fun b h2 => (g a b h2).bind fun z h3 => z.br ((fc e h3).bind fun c h4 => g' b c h4) (.ok (.bl false) h3)) := nr rfl
theorem sChain3_ap {g g' g'' : D → D → Ph → R D} {fa fb fc fd : SE} {e : Pe} {h : Ph} : sChain3 g g' g'' fa fb fc fd e h = ((fa e h).bind fun a h1 => (fb e h1).bind fun b h2 => (g a b h2).bind fun z h3 => z.br ((fc e h3).bind fun c h4 => (g' b c h4).bind fun z' h5 => z'.br ((fd e h5).bind fun d h6 => g'' c d h6) (.ok (.bl false) h5)) (.ok (.bl false) h3)) := nr rfl
theorem sNil_ap {v0 : Pe} {h : Ph} : sNil  v0 h = (.ok [] h) := nr rfl
theorem sCons_ap {f : SE} {g : SA} {e : Pe} {h : Ph} : sCons f g e h = ((f e h).bind fun a h1 => (g e h1).bind fun r h2 => .ok (a :: r) h2) := nr rfl
theorem sTup_ap {f : SA} {e : Pe} {h : Ph} : sTup f e h = ((f e h).bind fun xs h1 => if xs.length ≤ mostL then .ok (.tup xs) h1 else .bad) := nr rfl
theorem sLst_ap {f : SA} {e : Pe} {h : Ph} : sLst f e h = ((f e h).bind fun xs h1 => if xs.length ≤ mostL then .ok (.lst xs) h1 else .bad) := nr rfl
theorem sLstM_ap {f : SA} {e : Pe} {h : Ph} : sLstM f e h = ((f e h).bind fun xs h1 => if xs.length ≤ mostL then .ok (.ref h1.length) (h1 ++ [.lst xs]) else .bad) := nr rfl
theorem sCall_ap {g : List D → Ph → R D} {f : SA} {e : Pe} {h : Ph} : sCall g f e h = ((f e h).bind fun as h1 => g as h1) := nr rfl
theorem sFn_ap {fn : Fn} {f : SA} {e : Pe} {h : Ph} : sFn fn f e h = ((f e h).bind fun as h1 => fn as h1) := nr rfl
theorem sAsg_ap {f : SE} {g : SG} {e : Pe} {h : Ph} : sAsg f g e h = ((f e h).toF e fun x h1 => (g x e h1).toG) := nr rfl
theorem gNm_ap {i : Nat} {x : D} {e : Pe} {h : Ph} : gNm i x e h = (.ok (e.set i (some x)) h) := nr rfl
theorem gTp_ap {n : Nat} {gs : SGs} {x : D} {e : Pe} {h : Ph} : gTp n gs x e h = (match x with
  | .tup xs => if xs.length = n then gs xs e h else .bad
  | _ => .bad) := nr rfl
theorem gConsS_ap {g : SG} {gs : SGs} {xs : List D} {e : Pe} {h : Ph} : gConsS g gs xs e h = (match xs with
  | x :: r => (g x e h).bind fun e1 h1 => gs r e1 h1
  | [] => .bad) := nr rfl
theorem gNilS_ap {xs : List D} {e : Pe} {h : Ph} : gNilS  xs e h = (match xs with
  | [] => .ok e h
  | _ => .bad) := nr rfl
theorem sPar_ap {i j : Nat} {f : SA} {e : Pe} {h : Ph} : sPar i j f e h = ((f e h).toF e fun xs h1 => match xs with
  | [x, y] => .nx ((e.set i (some x)).set j (some y)) h1
  | _ => .bad) := nr rfl
theorem sPar3_ap {i j l : Nat} {f : SA} {e : Pe} {h : Ph} : sPar3 i j l f e h = ((f e h).toF e fun xs h1 => match xs with
  | [x, y, z] => .nx (((e.set i (some x)).set j (some y)).set l (some z)) h1
  | _ => .bad) := nr rfl
theorem sRet_ap {f : SE} {e : Pe} {h : Ph} : sRet f e h = ((f e h).toF e fun x h1 => .ret x h1) := nr rfl
theorem sRetN_ap {v0 : Pe} {h : Ph} : sRetN  v0 h = (.ret .non h) := nr rfl
theorem sNx_ap {e : Pe} {h : Ph} : sNx  e h = (.nx e h) := nr rfl
theorem sBrk_ap {e : Pe} {h : Ph} : sBrk  e h = (.brk e h) := nr rfl
theorem sCnt_ap {e : Pe} {h : Ph} : sCnt  e h = (.cnt e h) := nr rfl
theorem sSeq_ap {f g : SS} {e : Pe} {h : Ph} : sSeq f g e h = ((f e h).seq g) := nr rfl
theorem sIte_ap {c : ST} {f g : SS} {e : Pe} {h : Ph} : sIte c f g e h = ((c e h).toF e fun b h1 => br b (f e h1) (g e h1)) := nr rfl
theorem sDrop_ap {f : SE} {e : Pe} {h : Ph} : sDrop f e h = ((f e h).toF e fun _ h1 => .nx e h1) := nr rfl
theorem sFrz_ap {f : SE} {e : Pe} {h : Ph} : sFrz f e h = ((f e h).bind fun d h1 => .ok (frzD d h1).1 (frzD d h1).2) := nr rfl
theorem sAug_ap {i : Nat} {g : D → D → Ph → R D} {f : SE} {e : Pe} {h : Ph} : sAug i g f e h = (match e[i]? with
  | some (some a) => (f e h).toF e fun b h1 => (g a b h1).toF e fun c h2 => .nx (e.set i (some c)) h2
  | _ => .bad) := nr rfl
theorem iRange1_ap {f : SA} {e : Pe} {h : Ph} : iRange1 f e h = ((f e h).bind fun as h1 => match as with
  | [.int n] => if -(2 ^ 62) ≤ n ∧ n < 2 ^ 62 then .ok (rangeD 0 n.toNat) h1 else .bad
  | _ => .bad) := nr rfl
theorem iRange2_ap {f : SA} {e : Pe} {h : Ph} : iRange2 f e h = ((f e h).bind fun as h1 => match as with
  | [.int m, .int n] => if -(2 ^ 62) ≤ m ∧ m < 2 ^ 62 ∧ -(2 ^ 62) ≤ n ∧ n < 2 ^ 62 then .ok (rangeD m (n - m).toNat) h1 else .bad
  | _ => .bad) := nr rfl
theorem iSeq_ap {f : SE} {e : Pe} {h : Ph} : iSeq f e h = ((f e h).bind fun a h1 => match a with
  | .lst xs => .ok xs h1
  | .seq xs => .ok xs h1
  | .tup xs => .ok xs h1
  | _ => .bad) := nr rfl
theorem sFor_ap {it : SIt} {g : SG} {f : SS} {e : Pe} {h : Ph} : sFor it g f e h = ((it e h).toF e fun xs h1 => forGo g f xs e h1) := nr rfl
theorem sLc_ap {it : SIt} {g : SG} {tt : ST} {te : SE} {vs : List Nat} {e : Pe} {h : Ph} : sLc it g tt te vs e h = ((it e h).bind fun xs h1 => if xs.length ≤ mostL then (compGo g tt te xs (wipeD e vs) h1).bd fun ys h2 => .ok (.lst ys) h2 else .bad) := nr rfl
theorem sSetL_ap {f fo fi : SE} {e : Pe} {h : Ph} : sSetL f fo fi e h = ((f e h).toF e fun x h1 => (fo e h1).toF e fun o h2 => (fi e h2).toF e fun i h3 => match setIx o i x h3 with
  | .ok _ h4 => .nx e h4
  | _ => .bad) := nr rfl
theorem sMeth1_ap {g : D → D → Ph → R D} {fo : SE} {fa : SE} {e : Pe} {h : Ph} : sMeth1 g fo fa e h = ((fo e h).bind fun o h1 => R.opt (lsOf o h1) fun _ => (fa e h1).bind fun a h2 => g o a h2) := nr rfl
theorem sDict0_ap {v0 : Pe} {h : Ph} : sDict0  v0 h = (.ok (.ref h.length) (h ++ [.dK []])) := nr rfl
theorem sSl_ap {g : D → Option Int → Option Int → Ph → R D} {f : SE} {lo hi : ScO} {e : Pe} {h : Ph} : sSl g f lo hi e h = ((f e h).bind fun a h1 => (lo e h1).bind fun l h2 => (hi e h2).bind fun u h3 => g a l u h3) := nr rfl
theorem sRev_ap {f : SE} {e : Pe} {h : Ph} : sRev f e h = ((f e h).bind fun a h1 => dRev a h1) := nr rfl
theorem oNo_ap {v0 : Pe} {h : Ph} : oNo  v0 h = (.ok none h) := nr rfl
theorem oPart_ap {f : SE} {e : Pe} {h : Ph} : oPart f e h = ((f e h).bind fun a h1 => match a with
  | .int i => .ok (some i) h1
  | _ => .bad) := nr rfl
theorem runDef_ap {n : Nat} {body : SS} {as : List D} {h : Ph} : runDef n body as h = ((body (as.map some ++ List.replicate (n - as.length) none) h).end) := nr rfl
theorem sLc2_ap {it : SIt} {g : SG} {tt : ST} {it1 : SIt} {g1 : SG} {tt1 : ST} {te : SE} {vs vs1 : List Nat} {e : Pe} {h : Ph} : sLc2 it g tt it1 g1 tt1 te vs vs1 e h = ((it e h).bind fun xs h1 => (compGo2 g tt it1 g1 tt1 te vs1 xs (wipeD e vs) h1).bd fun ys h2 => if ys.length ≤ mostL then .ok (.lst ys) h2 else .bad) := nr rfl
theorem sStar_ap {f : SE} {g : SA} {e : Pe} {h : Ph} : sStar f g e h = ((f e h).bind fun a h1 => R.opt (seqOf a h1) fun xs => (g e h1).bind fun r h2 => .ok (xs ++ r) h2) := nr rfl
theorem sDGet1_ap {fo fk : SE} {e : Pe} {h : Ph} : sDGet1 fo fk e h = ((fo e h).bind fun o h1 => R.opt (dkOf o h1) fun _ => (fk e h1).bind fun k h2 => R.opt (dkOf o h2) fun p => R.opt (keyOf k) fun k => .ok ((valD p.2 k).getD .non) h2) := nr rfl
theorem sDGet2_ap {fo fk fx : SE} {e : Pe} {h : Ph} : sDGet2 fo fk fx e h = ((fo e h).bind fun o h1 => R.opt (dkOf o h1) fun _ => (fk e h1).bind fun k h2 => (fx e h2).bind fun x h3 => R.opt (dkOf o h3) fun p => R.opt (keyOf k) fun k => .ok ((valD p.2 k).getD x) h3) := nr rfl
theorem sPutD_ap {f fo fi : SE} {e : Pe} {h : Ph} : sPutD f fo fi e h = ((f e h).toF e fun x h1 => (fo e h1).toF e fun o h2 => (fi e h2).toF e fun i h3 => (setD o i x h3).toF e fun _ h4 => .nx e h4) := nr rfl
theorem iItemsD_ap {f : SE} {e : Pe} {h : Ph} : iItemsD f e h = ((f e h).bind fun o h1 => R.opt (dkOf o h1) fun p => .ok (itemsD p.2) (h1.set p.1 .dead)) := nr rfl
theorem iValsD_ap {f : SE} {e : Pe} {h : Ph} : iValsD f e h = ((f e h).bind fun o h1 => R.opt (dkOf o h1) fun p => .ok (valsD p.2) (h1.set p.1 .dead)) := nr rfl
theorem iKeysD_ap {f : SE} {e : Pe} {h : Ph} : iKeysD f e h = ((f e h).bind fun o h1 => R.opt (dkOf o h1) fun p => .ok (keysD p.2) (h1.set p.1 .dead)) := nr rfl
theorem sDict0T_ap {v0 : Pe} {h : Ph} : sDict0T  v0 h = (.ok (.ref h.length) (h ++ [.dT []])) := nr rfl
theorem sPutT_ap {f fo : SE} {fa : SA} {e : Pe} {h : Ph} : sPutT f fo fa e h = ((f e h).toF e fun x h1 => (fo e h1).toF e fun o h2 => (fa e h2).toF e fun ks h3 => (setDT o x ks h3).toF e fun _ h4 => .nx e h4) := nr rfl
theorem sTGet1_ap {fo fk : SE} {e : Pe} {h : Ph} : sTGet1 fo fk e h = ((fo e h).bind fun o h1 => R.opt (dtR o h1) fun _ => (fk e h1).bind fun k h2 => R.opt (dtR o h2) fun kvs => R.opt (kT k) fun ks => .ok ((valD kvs ks).getD .non) h2) := nr rfl
theorem sFrzT_ap {f : SE} {e : Pe} {h : Ph} : sFrzT f e h = ((f e h).bind fun o h1 => R.opt (dtOf o h1) fun p => .ok (.dcT (p.2.map (·.1)) (p.2.map (·.2))) (h1.set p.1 .dead)) := nr rfl
theorem iKeysT_ap {f : SE} {e : Pe} {h : Ph} : iKeysT f e h = ((f e h).bind fun o h1 => match o with
  | .dcT ks vs => .ok (ks.map kTD) h1
  | _ => .bad) := nr rfl
end Pd

namespace Pd
open PySem L2 Evl
structure Kls (K : PySem.W.Frag) (mg : Str → Option Value) (c : Nat) : Prop where
  mgC : mg (nm c) = some (.ref (He.ga K (nm c)))
  sc : SlX.SCls K (He.ga K (nm c))
  si : SlX.SIsi K (He.ga K (nm c))
theorem Kls.at {K : PySem.W.Frag} {mg : Str → Option Value} {c : Nat} (k : Kls K mg c) {C : Addr} (h : mg (nm c) = some (.ref C)) : C = He.ga K (nm c) := by
  rw [k.mgC] at h
  cases h; rfl
section
variable {K : PySem.W.Frag} {mg : Str → Option Value} {W : WX} {σ : St} {w w' : Wd} {h : Ph} {H : Hp} {Q : VK}
def slotD (vs : List (Option D)) (i : Nat) : Option D := match vs[i]? with
  | some (some v) => some v
  | _ => none
theorem RepS.get : ∀ {d : List (Option D)} {v : List (Option V)} {i : Nat} {x : D}, RepS K mg w d v → slotD d i = some x → ∃ y, v[i]? = some (some y) ∧ Rep K mg w x y
  | _, _, _, _, .nil, e => by simp [slotD] at e
  | _, _, 0, _, .non _, e => by simp [slotD] at e
  | _, _, 0, _, .som h _, e => by
    simp [slotD] at e; subst e; exact ⟨_, rfl, h⟩
  | _, _, i + 1, x, .non r, e => by
    obtain ⟨y, h1, h2⟩ := RepS.get (i := i) (x := x) r (by simpa [slotD] using e)
    exact ⟨y, by simpa using h1, h2⟩
  | _, _, i + 1, x, .som _ r, e => by
    obtain ⟨y, h1, h2⟩ := RepS.get (i := i) (x := x) r (by simpa [slotD] using e)
    exact ⟨y, by simpa using h1, h2⟩
theorem RepS.length : ∀ {d : List (Option D)} {v : List (Option V)}, RepS K mg w d v → d.length = v.length
  | _, _, .nil => rfl
  | _, _, .non r => by rw [List.length_cons, List.length_cons, RepS.length r]
  | _, _, .som _ r => by rw [List.length_cons, List.length_cons, RepS.length r]
theorem RepS.nones : ∀ n : Nat, RepS K mg w (List.replicate n none) (List.replicate n none)
  | 0 => .nil
  | n + 1 => by rw [List.replicate_succ, List.replicate_succ]; exact .non (RepS.nones n)
theorem RepS.append : ∀ {d d' : List (Option D)} {v v' : List (Option V)}, RepS K mg w d v → RepS K mg w d' v' → RepS K mg w (d ++ d') (v ++ v')
  | _, _, _, _, .nil, s => s
  | _, _, _, _, .non r, s => .non (RepS.append r s)
  | _, _, _, _, .som h r, s => .som h (RepS.append r s)
theorem RepS.set {x : D} {y : V} (h : Rep K mg w x y) : ∀ {d : List (Option D)} {v : List (Option V)} (i : Nat), RepS K mg w d v → RepS K mg w (d.set i (some x)) (v.set i (some y))
  | _, _, _, .nil => .nil
  | _, _, 0, .non r => .som h r
  | _, _, 0, .som _ r => .som h r
  | _, _, i + 1, .non r => .non (RepS.set h i r)
  | _, _, i + 1, .som q r => .som q (RepS.set h i r)
def putSD (i : Nat) (x : D) (vs : List (Option D)) : List (Option D) := (vs ++ List.replicate (i + 1 - vs.length) none).set i (some x)
theorem RepS.put {x : D} {y : V} (h : Rep K mg w x y) {d : List (Option D)} {v : List (Option V)} (i : Nat) (r : RepS K mg w d v) : RepS K mg w (putSD i x d) (SlX.putS i y v) := by
  unfold putSD SlX.putS
  rw [r.length]
  exact RepS.set h i (r.append (RepS.nones _))
end
inductive Att where
  | slot (i : Nat)
  | prop (fn : Fn)
structure DefA (B : Cb) (k : Nat) (a : Addr) (n : Nat) (fn : Fn) (fd : FuncData) (ps : List Str) : Prop where
  F : FnOk B.P B.w B.K B.mg B.base (L2.CX B.P B.w) k a fd ps (spI B.K B.mg n fn)
  kp : PySem.W.keepIn B.K (.ref a) = true
section
variable {ι : Type} {B : Cb} {N : List Str} {Y : ι → Cy} {W : WX}
end
end Pd

namespace Pd
open PySem L2 Evl
section
variable {K : PySem.W.Frag} {mg : Str → Option Value} {W : WX} {σ : St} {w w' : Wd} {h : Ph} {H : Hp}
end
structure SlotOk (B : Cb) (f : Str) (c i : Nat) : Prop where
  k : Kls B.K B.mg c
  s : ∃ p, SlX.Slot1 B.K (He.ga B.K (nm c)) f p i
section
variable {ι : Type} {B : Cb} {N : List Str} {Y : ι → Cy} {W : WX}
end
section
open PyProof.Rows
variable {X : Cx} {CX : CXT} {k : Nat} {f C : Addr} {fd : FuncData} {ps : List Str} {ds : List Value} {dvs : List V} {sp : Sp}
end
structure MakeOk (B : Cb) (k : Nat) (c : Nat) (n : Nat) (ini : Fn) (dvs : List D) : Prop where
  kl : Kls B.K B.mg c
  ex : ∃ (f : Addr) (fd : FuncData) (ps : List Str) (ds : List Value) (dV : List V), Mk B.K (He.ga B.K (nm c)) f ∧ FnOk B.P B.w B.K B.mg B.base (L2.CX B.P B.w) k f fd ps (spI B.K B.mg n ini) ∧ Binds B.K fd ps ds ∧ Vals dV ds ∧ ∀ w, Reps B.K B.mg w dvs dV
section
variable {K : PySem.W.Frag} {mg : Str → Option Value} {w w' : Wd} {h : Ph} {H : Hp}
end
section
variable {ι : Type} {B : Cb} {N : List Str} {Y : ι → Cy} {W : WX}
end
end Pd

namespace Pd
open PySem L2 Evl
structure IsiOk (K : PySem.W.Frag) (mg : Str → Option Value) (x : Str) (tb : List (String × Bool)) (tc : List (Nat × Bool)) : Prop where
  m : mg x = some (.ref (He.ga K x))
  b : ∀ p ∈ tb, PySem.W.kitOne K (.type p.1) (.ref (He.ga K x)) = some p.2
  c : ∀ p ∈ tc, Kls K mg p.1 ∧ PySem.W.kitOne K (.ref (He.ga K (nm p.1))) (.ref (He.ga K x)) = some p.2
end Pd

namespace Pd
open PySem PySem.Spec PyProof.Rows PySem.W
section
variable {prog : Program} {w : World} {A A₀ : Around} {E : Value → Shared → Prop} {s : Shared} {K : Frag} {x C L f : Addr} {h₀ : Heap} {m : Str → Option Value} {ox : Obj} {od : Option Obj} {b tb : Value}
end
end Pd
namespace Pd
open PySem L2 Evl
structure EqOk (B : Cb) (k : Nat) (c : Nat) (fn : Fn) (with_ : List Nat) : Prop where
  kl : Kls B.K B.mg c
  ne : PySem.W.findIn B.K (.ref (He.ga B.K (nm c))) "__ne__" = some (some (.builtin "object.__ne__"))
  ob : PySem.W.mroIn B.K (He.ga B.K (nm c)) (.type "object") = some true
  ex : ∃ g, PySem.W.findIn B.K (.ref (He.ga B.K (nm c))) "__eq__" = some (some (.ref g)) ∧ PySem.W.isFn B.K (.ref g) = true ∧ L2.FnR B.P B.w B.K B.mg B.base (L2.CX B.P B.w) k g (spI B.K B.mg 2 fn)
  nf : ∀ c' ∈ with_, Kls B.K B.mg c' ∧ PySem.W.notFirst B.K (He.ga B.K (nm c)) (.ref (He.ga B.K (nm c'))) = true
section
variable {B : Cb} {k c : Nat} {cs : List Nat} {fn : Fn}
end
end Pd

namespace Pd
open PySem L2 Evl
end Pd

namespace Pd
open PySem PySem.Spec PyProof.Rows
section
variable {prog : Program} {w : World} {A : Around} {E : Value → Shared → Prop} {s : Shared} {K : PySem.W.Frag} {x C g : Addr} {oi : Obj} {oo : Option Obj}
end
end Pd
namespace Pd
open PySem L2 Evl
structure StrOk (B : Cb) (k c : Nat) (fn : Fn) : Prop where
  kl : Kls B.K B.mg c
  ex : ∃ g, PySem.W.findIn B.K (.ref (He.ga B.K (nm c))) "__str__" = some (some (.ref g)) ∧ PySem.W.isFn B.K (.ref g) = true ∧ L2.FnR B.P B.w B.K B.mg B.base (L2.CX B.P B.w) k g (spI B.K B.mg 1 fn)
section
variable {B : Cb} {k c : Nat} {fn : Fn}
end
section
variable {ι : Type} {Z : Cz} {Y : ι → Cy} {W : WX}
inductive EIs (Z : Cz) (Y : ι → Cy) (W : WX) : List Expr → List SE → Prop
  | nil : EIs Z Y W [] []
  | cons {e : Expr} {f : SE} {es : List Expr} {fs : List SE} : EI Z Y W e f → EIs Z Y W es fs → EIs Z Y W (e :: es) (f :: fs)
end
section
variable {B : Cb} {k c : Nat} {cs : List Nat} {fn : Fn} {r' : R2} {g : D → D → Ph → R D}
variable {N : List Str} {ι : Type} {Y : ι → Cy}
end
structure Mth (B : Cb) (k c : Nat) (m : Str) (n : Nat) (fn : Fn) : Prop where
  kl : Kls B.K B.mg c
  ex : ∃ g, Meth B.K (He.ga B.K (nm c)) m g ∧ L2.FnR B.P B.w B.K B.mg B.base (L2.CX B.P B.w) k g (spI B.K B.mg n fn)
section
variable {X : Cx} {CX : CXT} {k : Nat} {g C : Addr} {sp : Sp} {E : L2.St → XK}
variable {o e : Expr} {es : List Expr} {m : Str} {pos apos : Pos} {ta : TE} {t : TA} {pl : Sem Bool}
end
section
variable {ι : Type} {B : Cb} {N : List Str} {Y : ι → Cy} {W : WX} {k n : Nat} {m : Str} {o : Expr} {es : List Expr} {fo : SE} {f : SA} {apos pos : Pos}
end
end Pd
namespace Pd
open PySem L2 Evl
section
variable {ι : Type} {B : Cb} {N : List Str} {Y : ι → Cy} {W : WX}
theorem PoE.iso {K : PySem.W.Frag} {mg : Str → Option Value} {σ : L2.St} {w : Wd} {h : Ph} {H : Hp} {Q : VK} {as : List D} {vs : List V} {fn : Fn} (L : Lk K mg w h H) (r : Reps K mg w as vs) (hp : PoE K mg W σ w H (Pd.iso fn as h) Q) :
    ∃ w0 h0, Lk K mg w0 h0 H ∧ Reps K mg w0 as vs ∧ PoE K mg W σ w0 H (fn as h0) Q := by
  obtain ⟨w0, h0, L0, r0, q⟩ := PoC.iso (E := fun C d H' => W C d σ H') (Q := Q) L r (by
    cases z : Pd.iso fn as h with
    | ok d h' => rw [z] at hp; exact hp
    | exc c fs h' => rw [z] at hp; exact hp
    | bad => rw [z] at hp; exact hp)
  refine ⟨w0, h0, L0, r0, ?_⟩
  cases z : fn as h0 with
  | ok d h' => rw [z] at q; exact q
  | exc c fs h' => rw [z] at q; exact q
  | bad => rw [z] at q; exact q
end
theorem Mth.iso {B : Cb} {k c : Nat} {m : Str} {n : Nat} {fn : Fn} (d : Mth B k c m n fn) : Mth B k c m n (iso fn) := by
  obtain ⟨g, hm, F⟩ := d.ex
  refine ⟨d.kl, g, hm, F.imp fun vs H Q E z => ?_⟩
  obtain ⟨w, h, as, e, L, r, hp⟩ := z
  obtain ⟨w0, h0, L0, r0, q⟩ := PoC.iso L r hp
  exact ⟨w0, h0, as, e, L0, r0, q⟩
end Pd

namespace Pd
open PySem PySem.Spec PyProof.Rows L2 Evl
section
variable {X : Cx}
structure ScB (X : Cx) (scope : Scope) (el tg : Expr) (fs : List Expr) (g : TG) (tt : TT) (te : TE) : Prop where
  g : ∀ (s : Shared) (H : Hp) (C : Addr) (cl : List (Str × Addr)) (fp : List Addr), PG (X.blk s H scope (compEnvC scope cl C X.env) fp) tg g
  t : ∀ (s : Shared) (H : Hp) (C : Addr) (cl : List (Str × Addr)) (fp : List Addr), PTs (X.blk s H scope (compEnvC scope cl C X.env) fp) fs tt
  e : ∀ (s : Shared) (H : Hp) (C : Addr) (cl : List (Str × Addr)) (fp : List Addr), PE (X.blk s H scope (compEnvC scope cl C X.env) fp) el te
end
section
variable {X : Cx}
end
def addD (ns : List Int) (k : Int) : List Int := if k ∈ ns then ns else ns ++ [k]
def ddI (ns : List Int) : List Int := ns.foldl addD []
theorem addD_mem {ns : List Int} {k j : Int} : j ∈ addD ns k ↔ j ∈ ns ∨ j = k := by
  unfold addD
  by_cases c : k ∈ ns
  · rw [if_pos c]; exact ⟨.inl, fun h => h.elim id fun e => e ▸ c⟩
  · rw [if_neg c, List.mem_append, List.mem_singleton]
theorem addD_nodup {ns : List Int} {k : Int} (h : ns.Nodup) : (addD ns k).Nodup := by
  unfold addD
  by_cases c : k ∈ ns
  · rw [if_pos c]; exact h
  · rw [if_neg c]
    exact List.nodup_append.mpr ⟨h, by simp, fun x hx y hy => by rw [List.mem_singleton.mp hy]; exact fun z => c (z ▸ hx)⟩
section
variable {K : PySem.W.Frag} {mg : Str → Option Value} {W : WX}
theorem keepS {wa wb : Wd} {Ha Hb : Hp} {u : HO} {a : Addr} (nt : ∀ xs, u ≠ .tup xs) (s : Step wa Ha wb Hb) (k1 : a ∉ wa.ms) (k2 : wa.G a = none) (k3 : Ha a = some u) : a ∉ wb.ms ∧ wb.G a = none ∧ Hb a = some u :=
  ⟨fun z => (s.newM a z).elim k1 fun q => (by rw [k3] at q; cases q), by rw [s.newG a (by rw [k3]; simp) k1 (fun xs z => by rw [k3] at z; exact nt xs (Option.some.inj z))]; exact k2, s.frm a _ k3 k1⟩
structure AccS (K : PySem.W.Frag) (mg : Str → Option Value) (w0 : World) (w1 : Wd) (H1 : Hp) (a : Addr) (w : Wd) (h : Ph) (H : Hp) (ns : List Int) : Prop where
  stp : Step w1 H1 w H
  L : Lk K mg w h H
  nm : a ∉ w.ms
  ng : w.G a = none
  us : ∃ S, H a = some (SetO w0 a S ns.length) ∧ (∀ k, S k = true ↔ k ∈ ns) ∧ ns.Nodup
theorem setO_nt {w0 : World} {a : Addr} {S : Int → Bool} {n : Nat} : ∀ xs, SetO w0 a S n ≠ .tup xs := fun xs z => by unfold SetO at z; cases z
theorem AccS.go {w0 : World} {w1 w w' : Wd} {H1 H H' : Hp} {a : Addr} {h h' : Ph} {ns : List Int} (A : AccS K mg w0 w1 H1 a w h H ns) (st : Step w H w' H') (L : Lk K mg w' h' H') : AccS K mg w0 w1 H1 a w' h' H' ns := by
  obtain ⟨S, e, r, nd⟩ := A.us
  obtain ⟨b1, b2, b3⟩ := keepS setO_nt st A.nm A.ng e
  exact ⟨A.stp.trans st, L, b1, b2, S, b3, r, nd⟩
theorem AccS.add {w0 : World} {w1 w : Wd} {H1 H : Hp} {a : Addr} {h : Ph} {ns : List Int} (A : AccS K mg w0 w1 H1 a w h H ns) (np : H1 a = none) (k : Int) : ∃ S n, H a = some (SetO w0 a S n) ∧ n = ns.length ∧ AccS K mg w0 w1 H1 a w h (upd H a (SetO w0 a (fun j => S j || decide (j = k)) (if S k = true then n else n + 1))) (addD ns k) := by
  obtain ⟨S, e, r, nd⟩ := A.us
  refine ⟨S, ns.length, e, rfl, A.stp.aside np _, A.L.aside A.nm A.ng _, A.nm, A.ng, (fun j => S j || decide (j = k)), ?_, fun j => ?_, addD_nodup nd⟩
  · rw [upd_same]
    have : (if S k = true then ns.length else ns.length + 1) = (addD ns k).length := by
      unfold addD
      by_cases c : k ∈ ns
      · rw [if_pos c, if_pos ((r k).mpr c)]
      · rw [if_neg c, if_neg fun z => c ((r k).mp z), List.length_append]; rfl
    rw [this]
  · rw [Bool.or_eq_true, decide_eq_true_eq, r j, addD_mem]
end
section
variable {ι : Type} {Z : Cz} {Y : ι → Cy} {W : WX}
end
end Pd

namespace Pd
open PySem PySem.Spec PyProof.Rows L2 LamX Evl NdefX
structure SupB (B newId initId : String) (bmB : List Value) : Prop where
  F : ExcBaseFacts B newId initId bmB
  KF : PySem.W.KxsFacts B initId
  pass : ∀ self : Value, refuseLoop self "__setattr__" bmB = pure ()
  obj : bmB.contains (.type "object") = true
  al : ∀ K : PySem.W.Frag, PySem.W.alongIn K "__init__" bmB = some (some (.builtin initId))
structure OexS (K : PySem.W.Frag) (C : Addr) (B newId : String) (bmB : List Value) : Prop where
  cls : ∃ nm q N bs sn sub ab col dd k0 k1 k2 k3 k5, K.lookup C = some (excClassObj nm q C N bs bmB true sn sub ab col dd k0 k1 k2 k3 k5 newId)
  sa : PySem.W.findIn K (.ref C) "__setattr__" = some (some (.builtin "object.__setattr__"))
  exC : PySem.W.subIn K (.ref C) (.type "BaseException") = some true
  tyC : PySem.W.typeIn K (.ref C) = some (.type "type")
  kC : PySem.W.keepIn K (.ref C) = true
  sub : PySem.W.subIn K (.ref C) (.type B) = some true
  self : PySem.W.mroIn K C (.ref C) = some true
  op : PySem.W.nsIn K cStatics "thirdparty.any" = some none
section
open Builtin Builtin.ObjectAttr PySem.HandSPX
variable {prog : Program} {w : World} {A : Around} {E : Value → Shared → Prop} {R : Result → Shared → Prop} {hp : Heap} {g : Array GenState} {d : Drawn} {t : Nat} {os : OsState} {B newId initId : String} {bmB : List Value}
end
section
variable {X : Cx} {pins : List (Addr × Obj)} {σ : L2.St} {H : Hp} {s : Shared} {a C dx : Addr} {f : Str} {y : V} {u : Value} {fs : List (Str × V)} {Q : Unit → Shared → Prop} {E : Value → Shared → Prop} {A : Around} {B newId initId : String} {bmB : List Value}
theorem OexS.cl {K : PySem.W.Frag} (T : OexS K C B newId bmB) : ∃ cd, PySem.W.clsIn K C = some cd ∧ cd.mro = .ref C :: bmB ∧ cd.hasDict = true := by
  obtain ⟨nm, q, N, bs, sn, sub, ab, col, dd, k0, k1, k2, k3, k5, hC⟩ := T.cls
  refine ⟨{ name := nm, bases := bs, mro := .ref C :: bmB, ns := N, qualname := q, hasDict := true, slotNames := sn, subclasses := sub, abstract := ab, collection := col, hasDel := false }, ?_, rfl, rfl⟩
  unfold PySem.W.clsIn
  rw [hC] <;> rfl
end
section
open PySem.W PySem.Calls
variable {prog : Program} {w : World} {A : Around} {E : Value → Shared → Prop} {h : Heap} {g : Array GenState} {d : Drawn} {t : Nat} {os : OsState}
variable {nm q : Str} {C N : Addr} {bs bm bmB : List Value} {hdct : Bool} {sn : List Str} {sub : List Value} {ab : Bool} {col : Option Bool} {dd : Option Addr} {k0 k1 k2 k3 k5 : Option Value} {B newId initId : String}
end

structure SupI (P : Program) (K : PySem.W.Frag) (C : Addr) (f : Str) where
  fI : Addr
  c : Addr
  cc : Addr
  qual : Str
  params : Arguments
  scope : Scope
  self : Str
  val : Str
  msg : Str
  j : Nat
  p0 : Pos
  p1 : Pos
  p2 : Pos
  p3 : Pos
  p4 : Pos
  p5 : Pos
  p6 : Pos
  p7 : Pos
  p8 : Pos
  p9 : Pos
abbrev SupI.body {P : Program} {K : PySem.W.Frag} {C : Addr} {f : Str} (D : SupI P K C f) : List Stmt := [.Expr (.Call (.Attribute (.Call (.Name "super" D.p0) [] [] D.p1) "__init__" D.p2) [.Constant (.str D.msg) D.j D.p3] [] D.p4) D.p5, .Assign [.Attribute (.Name D.self D.p6) f D.p7] (.Name D.val D.p8) D.p9]
structure SupI.Ok {P : Program} {K : PySem.W.Frag} {C : Addr} {f : Str} (D : SupI P K C f) (mg : Str → Option Value) : Prop where
  lk : ∃ od dV kV doc pm an ct osl, K.lookup D.fI = some ⟨.type "function", od, .func (PySem.W.ksFn "__init__" D.qual D.params D.body D.scope dV kV doc pm an (.ref D.c) ct D.cc), osl⟩ ∧
    ∀ us : List Value, us.length = 2 → bindArgs (PySem.W.ksFn "__init__" D.qual D.params D.body D.scope dV kV doc pm an (.ref D.c) ct D.cc) ⟨us, []⟩ = pure ([D.self, D.val].zip us)
  hcd : PySem.W.codeIn K (.ref D.c) D.qual = true
  code : ∃ ccl cdd vs ccs file tf, K.lookup D.c = some ⟨ccl, cdd, .fields vs, ccs⟩ ∧ vs[2]? = some (.str file tf) ∧ ((P.main.file : Str) == file) = true
  cell : ∃ cl cld csl, K.lookup D.cc = some ⟨cl, cld, .cell (some (.ref C)), csl⟩
  S : NScope [D.self, D.val, "__class__"] [D.self, D.val] ["__class__"] D.scope
  sup : D.scope.names.lookup ("super" : Str) = some NameKind.globalImplicit
  ar : ∃ ar : Arg, (D.params.posonlyargs ++ D.params.args).head? = some ar ∧ ar.arg = D.self
  iC : PySem.W.findIn K (.ref C) "__init__" = some (some (.ref D.fI))
  no : PySem.W.findIn K (.ref C) f = some none
  hm : mg "super" = none
  hl : (D.p2.endLine == D.p4.line) = true
  top : (P.main.scope.names.lookup ("super" : Str)).isSome = false
  d1 : (D.self == ("__debug__" : Str)) = false ∧ (D.self == ("__classdict__" : Str)) = false
  d2 : (D.val == ("__debug__" : Str)) = false ∧ (D.val == ("__classdict__" : Str)) = false
section
variable {CX : CXT} {P : Program} {w : World} {K : PySem.W.Frag} {mg : Str → Option Value} {base : Heap} {B newId initId : String} {bmB : List Value} {C : Addr} {f : Str}
end

section
variable {X : Cx} {B newId initId : String} {bmB : List Value} {C : Addr} {f x : Str} {e : Expr} {te : TE} {p pos : Pos} {k : Nat}
end

structure SupF (B : Cb) (c f : Str) : Prop where
  ex : ∃ (bn newId initId : String) (bm : List Value) (D : SupI B.P B.K (He.ga B.K c) f), SupB bn newId initId bm ∧ OexS B.K (He.ga B.K c) bn newId bm ∧ D.Ok B.mg ∧ PySem.W.typeIn B.K (.ref D.fI) = some (.type "function")
  m : B.mg c = some (.ref (He.ga B.K c))
section
variable {ι : Type} {B : Cb} {N : List Str} {Y : ι → Cy} {W : WX}
end
end Pd

namespace Pd
open PySem PySem.Spec PyProof.Rows L2 Evl
def Shw (K : PySem.W.Frag) (H : Hp) (x : V) (t : Str) : Prop := (∃ d, Dp K H x d ∧ d.showable = true ∧ SeqAt.shaped d = true ∧ d.shown.length ≤ sizeLine ∧ t = d.shown) ∨ ∃ a, x = .ref a ∧ H a = some (.dK []) ∧ t = (PyData.dict []).shown
def rReprG (K : PySem.W.Frag) : List V → Hp → VK → Prop := fun xs H Q => ∃ x t, xs = [x] ∧ Shw K H x t ∧ Q (.str t) H
end Pd

namespace Pd
open PySem PySem.Spec PyProof.Rows L2 LamX Evl
abbrev Cl := Value × Option Nat × (Addr → Value → Option Addr → TS)
inductive HdsA (X : Cx) : List ExceptHandler → List Cl → Prop
  | nil : HdsA X [] []
  | cons {x : Str} {c : Value} {ts : Addr → Value → Option Addr → TS} {b₀ : Stmt} {suite : List Stmt} {np pos' : Pos} {hds : List ExceptHandler} {l : List Cl} (hc : Names X x c)
      (hsu : ∀ (a : Addr) (oe : Obj) (cls : Value) (d : Option Addr) (pn : List (Addr × Obj)), Zc cls d oe → (∃ vs, oe.data = .fields vs) → PSs (X.suite a ((a, oe) :: pn)) (b₀ :: suite) (ts a cls d)) (r : HdsA X hds l) :
      HdsA X (.ExceptHandler (some (.Name x np)) none (b₀ :: suite) pos' :: hds) ((c, none, ts) :: l)
  | as {x n : Str} {i : Nat} {c : Value} {ts : Addr → Value → Option Addr → TS} {b₀ : Stmt} {suite : List Stmt} {np pos' : Pos} {hds : List ExceptHandler} {l : List Cl} (hi : X.N[i]? = some n) (hln : X.env.kindOf n = some .local) (hc : Names X x c)
      (hsu : ∀ (a : Addr) (oe : Obj) (cls : Value) (d : Option Addr) (pn : List (Addr × Obj)), Zc cls d oe → (∃ vs, oe.data = .fields vs) → PSs (X.suite a ((a, oe) :: pn)) (b₀ :: suite) (ts a cls d)) (r : HdsA X hds l) :
      HdsA X (.ExceptHandler (some (.Name x np)) (some n) (b₀ :: suite) pos' :: hds) ((c, some i, ts) :: l)
section
variable {X : Cx} {body : List Stmt} {h₀ : ExceptHandler} {hds : List ExceptHandler} {l : List Cl} {pos : Pos} {tb : WX → TS} {Wout : WX}
end

inductive Wk where
  | w (s : Str)
  | v (s f : Str) (i : Nat)
  | r (s f : Str) (i : Nat)
def Wk.cl (K : PySem.W.Frag) (C : Str) : Wk → Cl
  | .w s => (.ref (He.ga K C), none, fun _ _ _ => tRet (tC (.str s)))
  | .v s f i => (.ref (He.ga K C), some i, fun a cls d => tRet (tTup (tCons (tC (.str s)) (tCons (tXf a cls d (He.ga K C) f (tVar i)) tNil))))
  | .r s f i => (.ref (He.ga K C), some i, fun a cls d => tRet (tOp (rAddAll K) (tC (.str s)) (tCB (rReprG K) (tCons (tXf a cls d (He.ga K C) f (tVar i)) tNil))))
structure XfF (K : PySem.W.Frag) (C f : Str) : Prop where
  x : XfC K (He.ga K C)
  no : PySem.W.findIn K (.ref (He.ga K C)) f = some none
inductive WHsA (K : PySem.W.Frag) (mg : Str → Option Value) (sg : Scope) (Ng : List Str) : List ExceptHandler → List (Str × Wk) → Prop
  | nil : WHsA K mg sg Ng [] []
  | cons {C s : Str} {j : Nat} {np p5 p6 pos' : Pos} {hds : List ExceptHandler} {hs : List (Str × Wk)} (hn : sg.names.lookup C = some .globalImplicit) (hm : mg C = some (.ref (He.ga K C))) (r : WHsA K mg sg Ng hds hs) (hd : (C == ("__debug__" : Str)) = false := by decide) :
      WHsA K mg sg Ng (.ExceptHandler (some (.Name C np)) none [.Return (some (.Constant (.str s) j p5)) p6] pos' :: hds) ((C, .w s) :: hs)
  | as {C s f n : Str} {i j x1 : Nat} {np p5 p6 p7 p8 p9 pos' : Pos} {hds : List ExceptHandler} {hs : List (Str × Wk)} (hn : sg.names.lookup C = some .globalImplicit) (hm : mg C = some (.ref (He.ga K C))) (T : XfF K C f) (hi : Ng[i]? = some n) (hl : sg.names.lookup n = some .local) (r : WHsA K mg sg Ng hds hs)
      (hd : (C == ("__debug__" : Str)) = false := by decide) (hd1 : (n == ("__debug__" : Str)) = false := by decide) (hd2 : (n == ("__classdict__" : Str)) = false := by decide) :
      WHsA K mg sg Ng (.ExceptHandler (some (.Name C np)) (some n) [.Return (some (.Tuple [.Constant (.str s) j p5, .Attribute (.Name n p7) f p8] x1 p9)) p6] pos' :: hds) ((C, .v s f i) :: hs)
  | rs {C s f n : Str} {i j : Nat} {np p5 p6 p7 p8 p9 p10 p11 pos' : Pos} {hds : List ExceptHandler} {hs : List (Str × Wk)} (hn : sg.names.lookup C = some .globalImplicit) (hm : mg C = some (.ref (He.ga K C))) (T : XfF K C f) (hi : Ng[i]? = some n) (hl : sg.names.lookup n = some .local) (hR : sg.names.lookup ("repr" : Str) = some .globalImplicit) (hRm : mg ("repr" : Str) = none) (r : WHsA K mg sg Ng hds hs)
      (hd : (C == ("__debug__" : Str)) = false := by decide) (hd1 : (n == ("__debug__" : Str)) = false := by decide) (hd2 : (n == ("__classdict__" : Str)) = false := by decide) :
      WHsA K mg sg Ng (.ExceptHandler (some (.Name C np)) (some n) [.Return (some (.BinOp (.Constant (.str s) j p5) .Add (.Call (.Name "repr" p7) [.Attribute (.Name n p8) f p9] [] p10) p11)) p6] pos' :: hds) ((C, .r s f i) :: hs)
structure WordDefA (B : Cb) (x a : Str) (hs : List (Str × Wk)) (fine : Str) : Prop where
  ex : ∃ (oc : Value) (od : Option Addr) (osl : Array (Option Value)) (pg : Arguments) (sg : Scope) (dV kV doc pm : Value) (an : Option Addr) (cdv ct : Value) (Ng : List Str) (j : Nat) (h0 : ExceptHandler) (hds : List ExceptHandler) (p1 p2 p3 p4 p5 p6 : Pos),
    B.K.lookup (He.ga B.K x) = some ⟨oc, od, .func (PySem.W.fnOf x x pg [.Try [.Expr (.Call (.Name a p1) [] [] p2) p3] (h0 :: hds) [] [] p4, .Return (some (.Constant (.str fine) j p5)) p6] sg dV kV doc pm an cdv ct), osl⟩ ∧ PySem.W.codeIn B.K cdv x = true ∧
    L2.Binds B.K (PySem.W.fnOf x x pg [.Try [.Expr (.Call (.Name a p1) [] [] p2) p3] (h0 :: hds) [] [] p4, .Return (some (.Constant (.str fine) j p5)) p6] sg dV kV doc pm an cdv ct) [a] [] ∧ FnScope Ng [a] sg ∧ Ng[0]? = some a ∧ Vis sg a ∧ WHsA B.K B.mg sg Ng (h0 :: hds) hs ∧ ∀ f : Addr, (L2.start Ng [V.ref f])[0]? = some (some (V.ref f))
  hm : B.mg x = some (.ref (He.ga B.K x))
  hk : PySem.W.keepIn B.K (.ref (He.ga B.K x)) = true
theorem WordDefA.mk' {B : Cb} {x a fine : Str} {params : Arguments} {sg : Scope} {Ng : List Str} {fd : FuncData} {j : Nat} {h0 : ExceptHandler} {hds : List ExceptHandler} {hs : List (Str × Wk)} {p1 p2 p3 p4 p5 p6 : Pos}
    (F : FunD B.K x x params [.Try [.Expr (.Call (.Name a p1) [] [] p2) p3] (h0 :: hds) [] [] p4, .Return (some (.Constant (.str fine) j p5)) p6] sg [] [] (He.ga B.K x) fd) (hm : B.mg x = some (.ref (He.ga B.K x))) (S : FnScope Ng [a] sg)
    (hbi : ∀ (kV doc pm : Value) (an : Option Addr) (cdv ct : Value) (us : List Value), us.length = [a].length → bindArgs (PySem.W.fnOf x x params [.Try [.Expr (.Call (.Name a p1) [] [] p2) p3] (h0 :: hds) [] [] p4, .Return (some (.Constant (.str fine) j p5)) p6] sg .none kV doc pm an cdv ct) ⟨us, []⟩ = pure ([a].zip us))
    (hNg : Ng[0]? = some a) (hva : Vis sg a) (hst : ∀ f : Addr, (L2.start Ng [V.ref f])[0]? = some (some (V.ref f))) (hw : WHsA B.K B.mg sg Ng (h0 :: hds) hs) : WordDefA B x a hs fine := by
  have hbn := F.bindsN hbi
  obtain ⟨oc, od, dV, kV, doc, pm, an, cdv, ct, osl, rfl, lk, hcd, _, _⟩ := F.ex
  exact ⟨⟨oc, od, osl, params, sg, dV, kV, doc, pm, an, cdv, ct, Ng, j, h0, hds, p1, p2, p3, p4, p5, p6, lk, hcd, hbn, S, hNg, hva, hw, hst⟩, hm, F.kp⟩
section
variable {ι : Type} {B : Cb} {N : List Str} {Y : ι → Cy} {W : WX}
end
end Pd

namespace Pd
open PySem PySem.Spec PyProof.Rows L2 LamX Evl NdefX
def oexB (K : PySem.W.Frag) (C : Addr) (bmB : List Value) (newId : String) : Bool := match K.lookup C with
  | some ⟨.type "type", _, .cls cd, sl⟩ => (match cd.mro, sl.toList with
    | .ref C' :: bm, [_, _, _, _, some (.builtin n), _] => C' == C && n == newId && !cd.hasDel && (cd.hasDict && bm == bmB)
    | _, _ => false)
  | _ => false
section
variable {K : PySem.W.Frag} {C : Addr} {bmB : List Value} {newId : String}
theorem oexB_ok (q : oexB K C bmB newId = true) : ∃ nm qn N bs sn sub ab col dd k0 k1 k2 k3 k5, K.lookup C = some (excClassObj nm qn C N bs bmB true sn sub ab col dd k0 k1 k2 k3 k5 newId) := by
  unfold oexB at q
  split at q
  · rename_i dd cd sl ho
    split at q
    · rename_i C' bm k0 k1 k2 k3 n k5 hm hs
      simp only [Bool.and_eq_true, beq_iff_eq, Bool.not_eq_true'] at q
      obtain ⟨⟨⟨rfl, rfl⟩, hdel⟩, hdc, rfl⟩ := q
      obtain ⟨nm, bs, mro, ns, qn, hd, sn, sub, ab, col, del⟩ := cd
      dsimp only at hm hdel hdc
      subst hm hdel hdc
      have hsl : sl = #[k0, k1, k2, k3, some (.builtin n), k5] := by
        obtain ⟨l⟩ := sl
        simp only at hs
        rw [hs]
      subst hsl
      exact ⟨nm, qn, ns, bs, sn, sub, ab, col, dd, k0, k1, k2, k3, k5, ho⟩
    · cases q
  · cases q
end
def initM (K : PySem.W.Frag) (C : Addr) (qual file : Str) : List (Str × Addr) → Value → Value → Bool
  | [(n, cc)], .ref k, .none => n == "__class__" && (PySem.W.codeIn K (.ref k) qual && ((match K.lookup k with
      | some ⟨_, _, .fields vs, _⟩ => (match (vs[2]? : Option Value) with | some (.str f _) => f == file | _ => false)
      | _ => false) && (match K.lookup cc with
      | some ⟨_, _, .cell (some (.ref C')), _⟩ => C' == C
      | _ => false)))
  | _, _, _ => false
def initB (K : PySem.W.Frag) (C I : Addr) (file : Str) : Bool := match K.lookup I with
  | some ⟨_, _, .func fd, _⟩ => initM K C fd.qualname file fd.closure fd.code fd.defaults
  | _ => false
abbrev miAd (K : PySem.W.Frag) (c : Str) : Addr := He.fAd K (c, some "__init__")
def faSup (c f : Str) (bn newId : String) (bmB : List Value) (file : Str) : FaX := fun K => oexB K (He.ga K c) bmB newId && (decide (PySem.W.findIn K (.ref (He.ga K c)) "__setattr__" = some (some (.builtin "object.__setattr__"))) && (decide (PySem.W.subIn K (.ref (He.ga K c)) (.type "BaseException") = some true) &&
  (decide (PySem.W.typeIn K (.ref (He.ga K c)) = some (.type "type")) && (PySem.W.keepIn K (.ref (He.ga K c)) && (decide (PySem.W.subIn K (.ref (He.ga K c)) (.type bn) = some true) && (decide (PySem.W.mroIn K (He.ga K c) (.ref (He.ga K c)) = some true) &&
  (decide (PySem.W.nsIn K cStatics "thirdparty.any" = some none) && (decide (PySem.W.findIn K (.ref (He.ga K c)) "__init__" = some (some (.ref (miAd K c)))) && (decide (PySem.W.findIn K (.ref (He.ga K c)) f = some none) && (decide (PySem.W.typeIn K (.ref (miAd K c)) = some (.type "function")) && initB K (He.ga K c) (miAd K c) file))))))))))
abbrev FnC : Type := Option (Str × Str × Arguments × FuncBody × Scope × Addr × List Str × Addr)
def fnC (K : PySem.W.Frag) (c : Str) : FnC := match K.lookup (miAd K c) with
  | some ⟨_, _, .func fd, _⟩ => some (fd.name, fd.qualname, fd.params, fd.body, fd.scope, fd.globals, fd.closure.map (·.1), fd.builtins)
  | _ => none
structure SupV where
  c : Str
  qual : Str
  params : Arguments
  body : List Stmt
  scope : Scope
def SupV.val (v : SupV) : FnC := some ("__init__", v.qual, v.params, .stmts v.body, v.scope, mainGlobals, ["__class__"], builtinsNs)
theorem SupF.mk' {B : Cb} {v : SupV} {f self val msg : Str} {bn newId initId : String} {bmB : List Value} {file : Str} {j : Nat} {ar : Arg} {p0 p1 p2 p3 p4 p5 p6 p7 p8 p9 : Pos} (SB : SupB bn newId initId bmB) (e : fnC B.K v.c = v.val) (b : faSup v.c f bn newId bmB file B.K = true) (hm : B.mg v.c = some (.ref (He.ga B.K v.c)))
    (hb : v.body = [.Expr (.Call (.Attribute (.Call (.Name "super" p0) [] [] p1) "__init__" p2) [.Constant (.str msg) j p3] [] p4) p5, .Assign [.Attribute (.Name self p6) f p7] (.Name val p8) p9]) (S : NScope [self, val, "__class__"] [self, val] ["__class__"] v.scope)
    (hsup : v.scope.names.lookup ("super" : Str) = some NameKind.globalImplicit) (har : (v.params.posonlyargs ++ v.params.args).head? = some ar) (hself : ar.arg = self)
    (hbi : ∀ (kV doc pm : Value) (an : Option Addr) (cdv ct : Value) (cc : Addr) (us : List Value), us.length = 2 → bindArgs (PySem.W.ksFn "__init__" v.qual v.params v.body v.scope .none kV doc pm an cdv ct cc) ⟨us, []⟩ = pure ([self, val].zip us))
    (hz : B.mg "super" = none) (hl : (p2.endLine == p4.line) = true) (hP : ((B.P.main.file : Str) == file) = true) (top : (B.P.main.scope.names.lookup ("super" : Str)).isSome = false)
    (d1 : (self == ("__debug__" : Str)) = false ∧ (self == ("__classdict__" : Str)) = false) (d2 : (val == ("__debug__" : Str)) = false ∧ (val == ("__classdict__" : Str)) = false) : SupF B v.c f := by
  obtain ⟨c, qual, params, body, scope⟩ := v
  dsimp only at *
  unfold faSup at b
  simp only [Bool.and_eq_true, decide_eq_true_eq] at b
  obtain ⟨b1, b2, b3, b4, b5, b6, b7, b8, b9, b10, b11, b12⟩ := b
  unfold initB at b12
  unfold fnC at e
  cases q : B.K.lookup (miAd B.K c) with
  | none => rw [q] at b12; cases b12
  | some o =>
    rw [q] at b12 e
    obtain ⟨oc, od, dt, osl⟩ := o
    cases dt with
    | func fd =>
      have hoc : oc = .type "function" := by
        have := b11
        unfold PySem.W.typeIn at this
        have z : (B.K.lookup (miAd B.K c)).map (·.cls) = some (.type "function") := this
        rw [q] at z
        exact Option.some.inj z
      subst hoc
      obtain ⟨n1, n2, n3, n4, n5, n6, n7, n8, n9, n10, n11, n12, n13, n14, n15⟩ := fd
      have e2 : (some (n1, n2, n3, n4, n5, n6, n7.map (·.1), n15) : FnC) = some (("__init__" : Str), qual, params, FuncBody.stmts body, scope, mainGlobals, [("__class__" : Str)], builtinsNs) := e
      simp only [Option.some.injEq, Prod.mk.injEq] at e2
      obtain ⟨h1, h2, h3, h4, h5, h6, h7, h8⟩ := e2
      subst h1 h2 h3 h4 h5 h6 h8
      have b12 : initM B.K (He.ga B.K c) n2 file n7 n13 n8 = true := b12
      unfold initM at b12
      split at b12
      · rename_i n cc k hx
        simp only [Bool.and_eq_true, beq_iff_eq] at b12
        obtain ⟨rfl, hk, hf, hc⟩ := b12
        have code : ∃ ccl cdd vs ccs tf, B.K.lookup k = some (⟨ccl, cdd, .fields vs, ccs⟩ : Obj) ∧ vs[2]? = some (.str file tf) := by
          split at hf
          · rename_i ccl cdd vs ccs ho
            split at hf
            · rename_i f' tf hv
              rw [beq_iff_eq] at hf
              subst hf
              exact ⟨_, _, _, _, _, ho, hv⟩
            · cases hf
          · cases hf
        have cell : ∃ cl cld csl, B.K.lookup cc = some (⟨cl, cld, .cell (some (.ref (He.ga B.K c))), csl⟩ : Obj) := by
          split at hc
          · rename_i cl cld C' csl ho
            rw [beq_iff_eq] at hc
            subst hc
            exact ⟨_, _, _, ho⟩
          · cases hc
        obtain ⟨ccl, cdd, vs, ccs, tf, e1, e2⟩ := code
        subst hb
        refine ⟨⟨bn, newId, initId, bmB, ⟨miAd B.K c, k, cc, n2, n3, n5, self, val, msg, j, p0, p1, p2, p3, p4, p5, p6, p7, p8, p9⟩, SB, ⟨oexB_ok b1, b2, b3, b4, b5, b6, b7, b8⟩, ?_, b11⟩, hm⟩
        exact ⟨⟨od, _, _, _, _, _, _, osl, q, fun us hl => hbi _ _ _ _ _ _ _ us hl⟩, hk, ⟨ccl, cdd, vs, ccs, file, tf, e1, e2, hP⟩, cell, S, hsup, ⟨ar, har, hself⟩, b9, b10, hz, hl, top, d1, d2⟩
      · cases b12
    | _ => cases b12
def seedA (g : Addr → Option Obj) (ms : List (Str × Str)) : List Addr := ms.flatMap fun p => He.growD g [He.ma (He.frT g (He.asD g 2)) (He.ga (He.frT g (He.asD g 2)) p.1) p.2]
abbrev frE (g : Addr → Option Obj) (n : Nat) (ms : List (Str × Str)) : PySem.W.Frag := He.frT g (cStatics :: (He.asD g n ++ seedA g ms))
structure SaysE (fa : List FaX) (fn : List He.DefD) (tf : List Str) (fs : List SupV) (h : Heap) (K : PySem.W.Frag) : Prop extends SaysW fa fn tf h K where
  sup : fs.map (fun v => fnC K v.c) = fs.map SupV.val
abbrev AlE : Type := (He.AlD × Bool) × List FnC
def obsE (n : Nat) (ms : List (Str × Str)) (fa : List FaX) (fn : List He.DefD) (tf : List Str) (fs : List SupV) (g : Addr → Option Obj) : AlE := ((obsX fa fn (frE g n ms), apart tf (frE g n ms) && He.tabsB g (tf.map tabKey) (frE g n ms)), fs.map fun v => fnC (frE g n ms) v.c)
theorem saysE_of {n : Nat} {ms : List (Str × Str)} {fa : List FaX} {fn : List He.DefD} {tf : List Str} {fs : List SupV} {h : Heap} (e : obsE n ms fa fn tf fs h.get? = ((He.valD fn, true), fs.map SupV.val)) : SaysE fa fn tf fs h (frE h.get? n ms) := by
  have e0 := congrArg Prod.fst e
  have e3 : fs.map (fun v => fnC (frE h.get? n ms) v.c) = fs.map SupV.val := congrArg Prod.snd e
  have e1 : obsX fa fn (frE h.get? n ms) = He.valD fn := congrArg Prod.fst e0
  have e2 : (apart tf (frE h.get? n ms) && He.tabsB h.get? (tf.map tabKey) (frE h.get? n ms)) = true := congrArg Prod.snd e0
  obtain ⟨h1, h2⟩ := He.ba e2
  have key : ∀ y ∈ tf, PySem.W.codeHdIn (frE h.get? n ms) (He.cT (frE h.get? n ms) (tabKey y)).1 (tabAd (frE h.get? n ms) y) = true ∧ ∃ o, h.get? (tabAd (frE h.get? n ms) y) = some o ∧ He.emptyTab o = true := fun y hy => by
    obtain ⟨h3, h4⟩ := He.ba (List.all_eq_true.mp h2 (tabKey y) (List.mem_map.mpr ⟨y, hy, rfl⟩))
    refine ⟨h3, ?_⟩
    show ∃ o, h.get? (He.cT (frE h.get? n ms) (tabKey y)).2 = some o ∧ _
    cases q : h.get? (He.cT (frE h.get? n ms) (tabKey y)).2 with
    | none => rw [q] at h4; cases h4
    | some o => rw [q] at h4; exact ⟨o, rfl, h4⟩
  exact ⟨⟨e1, h1, fun y hy => (key y hy).1, fun y hy => by
    obtain ⟨_, o, q, z⟩ := key y hy
    exact He.frT_none q z, fun y hy => by
    obtain ⟨_, o, q, z⟩ := key y hy
    rw [q, He.emptyTab_eq z]⟩, e3⟩
def hookE (n : Nat) (ms : List (Str × Str)) (fa : List FaX) (fn : List He.DefD) (tf : List Str) (fs : List SupV) : PySem.W.Hook where
  α := AlE
  obs := fun s => obsE n ms fa fn tf fs s.heap.get?
  val := fun _ => ((He.valD fn, true), fs.map SupV.val)
  says := fun _ h => ∃ K : PySem.W.Frag, K.In h ∧ SaysE fa fn tf fs h K
  of := fun _ _ e => ⟨_, He.frT_in, saysE_of e⟩
  keeps := fun _ _ _ ⟨K, hK, c⟩ k => ⟨K, PySem.W.Frag.In.keeps hK k, ⟨⟨c.x, c.ap, c.hd, c.out, fun y hy => k _ _ (c.empty y hy)⟩, c.sup⟩⟩
def faXf (c f : Str) : FaX := fun K => L2.xfB K (He.ga K c) && decide (PySem.W.findIn K (.ref (He.ga K c)) f = some none)
theorem XfF.mk' {K : PySem.W.Frag} {c f : Str} (h : faXf c f K = true) : XfF K c f := by
  unfold faXf at h
  rw [Bool.and_eq_true] at h
  exact ⟨L2.xfB_ok h.1, of_decide_eq_true h.2⟩
end Pd

namespace Pd
open PySem PySem.Spec PyProof.Rows L2 Evl
inductive Am (K : PySem.W.Frag) (H : Hp) : V → V → Prop
  | dat {v w : V} {p q : PyData} : Dp K H v p → Dp K H w q → SeqAt.shaped p = true → SeqAt.shaped q = true → PyData.eqv p q = true → Am K H v w
  | id {a : Addr} : Am K H (.ref a) (.ref a)
inductive Ams (K : PySem.W.Frag) (H : Hp) : List V → List V → Prop
  | nil : Ams K H [] []
  | cons {v w : V} {vs ws : List V} : Am K H v w → Ams K H vs ws → Ams K H (v :: vs) (w :: ws)
inductive Bm (K : PySem.W.Frag) (H : Hp) : V → V → Prop
  | at {v w : V} : Am K H v w → Bm K H v w
  | tup {a b : Addr} {vs ws : List V} : SqT K H a vs → SqT K H b ws → Ams K H vs ws → Bm K H (.ref a) (.ref b)
inductive Bms (K : PySem.W.Frag) (H : Hp) : List V → List V → Prop
  | nil : Bms K H [] []
  | cons {v w : V} {vs ws : List V} : Bm K H v w → Bms K H vs ws → Bms K H (v :: vs) (w :: ws)
section
variable {X : Cx} {pins : List (Addr × Obj)} {σ : L2.St} {H : Hp} {s : Shared}
end
section
variable {K : PySem.W.Frag} {mg : Str → Option Value} {w : Wd} {h : Ph} {H : Hp}
end
end Pd

namespace Pd
open PySem PySem.Spec PyProof.Rows L2 LamX Evl
structure FnOkG (P : Program) (w : World) (K : PySem.W.Frag) (mg : Str → Option Value) (base : Heap) (CX : CXT) (k : Nat) (f : Addr) (fd : FuncData) (ps : List Str) (sp : Sp) : Prop where
  len : ∀ vs H Q E, sp vs H Q E → vs.length = ps.length
  run : ∀ (A : Around) (outer : List Env) (s : Shared) (H : Hp) (args : Args) (us : List Value) (vs : List V) (Q : VK) (E : XK), Room k A → A.guards = some [] → Env0 P w K mg base A outer s H → BindsTo s fd args (ps.zip us) → Vals vs us → sp vs H Q E →
    codeAny (model P w) A (.call (.ref f) args) (CR CX outer P w H s Q E) s
theorem FnOk.g {P : Program} {w : World} {K : PySem.W.Frag} {mg : Str → Option Value} {base : Heap} {CX : CXT} {k : Nat} {f : Addr} {fd : FuncData} {ps : List Str} {sp : Sp} (F : FnOk P w K mg base CX k f fd ps sp) : FnOkG P w K mg base CX k f fd ps sp :=
  ⟨F.len, fun A outer s H args us vs Q E hr _ => F.run A outer s H args us vs Q E hr⟩
theorem fn_ofG {CX : CXT} {P : Program} {w : World} {K : PySem.W.Frag} {mg : Str → Option Value} {base : Heap} {k : Nat} {f : Addr} {name qual : Str} {params : Arguments} {body : List Stmt} {scope : Scope} {dV kV doc pm cdv ct oc : Value} {an od : Option Addr}
    {osl : Array (Option Value)} {N ps : List Str} {sp : Sp} (lk : K.lookup f = some ⟨oc, od, .func (PySem.W.fnOf name qual params body scope dV kV doc pm an cdv ct), osl⟩) (hcd : PySem.W.codeIn K cdv qual = true) (S : FnScope N ps scope)
    (len : ∀ vs H Q E, sp vs H Q E → vs.length = ps.length)
    (hbody : ∀ (A : Around) (outer : List Env) (s : Shared) (H : Hp) (vs : List V) (Q : VK) (E : XK), Room k (A.deeper (envOfC qual scope s.heap.objs.size f cdv)) → A.guards = some [] → sp vs H Q E →
      ∃ t, PSs (cxOf CX P w K mg base N qual scope f cdv A outer s H E) body t ∧ t { nx := fun _ H' => Q .non H', rt := Q } (L2.start N vs) H) :
    FnOkG P w K mg base CX (k + 1) f (PySem.W.fnOf name qual params body scope dV kV doc pm an cdv ct) ps sp := by
  refine ⟨len, fun A outer s H args us vs Q E hr hg e0 hb r hsp => ?_⟩
  exact run_ofS lk hcd S hr e0 hb r (len _ _ _ _ hsp) fun hr' => hbody A outer s H vs Q E hr' hg hsp
structure DefG (B : Cb) (k : Nat) (x : Str) (n : Nat) (fn : Fn) : Prop where
  ex : ∃ (a : Addr) (fd : FuncData) (ps : List Str), FnOkG B.P B.w B.K B.mg B.base (L2.CX B.P B.w) k a fd ps (spI B.K B.mg n fn) ∧ B.mg x = some (.ref a) ∧ PySem.W.keepIn B.K (.ref a) = true ∧ Binds B.K fd ps []
section
variable {B : Cb} {N : List Str}
theorem def_okG {x qual : Str} {params : Arguments} {sbody : List Stmt} {scope : Scope} {fd : FuncData} {ps : List Str} {k : Nat} {body : SS} (F : FunD B.K x qual params sbody scope [] [] (He.fAd B.K (x, none)) fd) (S : FnScope N ps scope)
    (hb : ∀ (A : Around) (outer : List Env) (s : Shared) (H : Hp) (E : XK), Room k (A.deeper (envOfC qual scope s.heap.objs.size (He.fAd B.K (x, none)) (.ref (He.cT B.K (x, none)).1))) → (A.deeper (envOfC qual scope s.heap.objs.size (He.fAd B.K (x, none)) (.ref (He.cT B.K (x, none)).1))).guards = some [] →
      BI (B.z N) (fun _ : Unit => cyOf (B.z N) qual scope (He.fAd B.K (x, none)) (.ref (He.cT B.K (x, none)).1) A outer s H E) (WE' E) sbody body) :
    FnOkG B.P B.w B.K B.mg B.base (L2.CX B.P B.w) (k + 1) (He.fAd B.K (x, none)) fd ps (spI B.K B.mg ps.length (runDef N.length body)) := by
  obtain ⟨oc, od, dV, kV, doc, pm, an, cdv, ct, osl, rfl, lk, hcd, _, _⟩ := F.ex
  obtain ⟨c, rfl⟩ := He.codeIn_ref hcd
  have ec : (He.cT B.K (x, none)).1 = c := He.codeOf_eq lk rfl
  refine fn_ofG lk hcd S (fun vs H Q E h => by obtain ⟨_, _, _, e, _⟩ := h; exact e) fun A outer s H vs Q E hr hg h => ?_
  obtain ⟨w, h, as, el, L, r, hp⟩ := h
  rw [ec] at hb
  obtain ⟨t, p, sn⟩ := hb A outer s H E hr hg
  refine ⟨t, p (), sn _ (as.map some ++ List.replicate (N.length - as.length) none) w h H _ (start_en r) L ?_⟩
  unfold runDef at hp
  cases q : body (as.map some ++ List.replicate (N.length - as.length) none) h with
  | nx e' h' => rw [q] at hp; exact fun w' H' σ' st L' E' => hp w' H' .non st L' .non
  | ret d h' => rw [q] at hp; exact hp
  | brk e' h' => rw [q] at hp; exact hp.elim
  | cnt e' h' => rw [q] at hp; exact hp.elim
  | exc c fs e' h' => rw [q] at hp; exact fun w' H' σ' C d st L' E' rx => hp w' H' C d st L' rx
  | bad => rw [q] at hp; exact hp.elim
end
section
variable {X : Cx} {CX : CXT} {k : Nat} {f : Addr} {fd : FuncData} {ps : List Str} {sp : Sp} {E : L2.St → XK} {x : Str} {p pos : Pos} {e : Expr} {es : List Expr} {t : TA}
end
section
variable {ι : Type} {B : Cb} {N : List Str} {Y : ι → Cy} {W : WX}
end
end Pd

namespace Pd
open PySem PySem.Spec PyProof.Rows L2 LamX Evl
section
variable {K : PySem.W.Frag} {cs : List (Addr × Addr)} {a b : Addr} {o : Obj} {vs : List V}
end
section
variable {P : Program} {w : World} {K : PySem.W.Frag} {mg mb : Str → Option Value} {CX : CXT} {fa a : Addr} {cs : List (Addr × Addr)} {s₁ : Shared} {vs : List Value} {ns : List Int}
end
theorem DefG.mk' {B : Cb} {N : List Str} {x qual : Str} {params : Arguments} {sbody : List Stmt} {scope : Scope} {fd : FuncData} {ps : List Str} {k : Nat} {body : SS} (F : FunD B.K x qual params sbody scope [] [] (He.fAd B.K (x, none)) fd) (hm : B.mg x = some (.ref (He.fAd B.K (x, none)))) (S : FnScope N ps scope)
    (hbi : ∀ (kV doc pm : Value) (an : Option Addr) (cdv ct : Value) (us : List Value), us.length = ps.length → bindArgs (PySem.W.fnOf x qual params sbody scope .none kV doc pm an cdv ct) ⟨us, []⟩ = pure (ps.zip us))
    (hb : ∀ (A : Around) (outer : List Env) (s : Shared) (H : Hp) (E : XK), Room k (A.deeper (envOfC qual scope s.heap.objs.size (He.fAd B.K (x, none)) (.ref (He.cT B.K (x, none)).1))) → (A.deeper (envOfC qual scope s.heap.objs.size (He.fAd B.K (x, none)) (.ref (He.cT B.K (x, none)).1))).guards = some [] →
      BI (B.z N) (fun _ : Unit => cyOf (B.z N) qual scope (He.fAd B.K (x, none)) (.ref (He.cT B.K (x, none)).1) A outer s H E) (WE' E) sbody body) :
    DefG B (k + 1) x ps.length (runDef N.length body) := ⟨_, fd, ps, def_okG F S hb, hm, F.kp, F.bindsN hbi⟩
end Pd

namespace Pd
open PySem PySem.Spec PyProof.Rows L2 LamX Evl NdefX
def pOb (K : PySem.W.Frag) (c f : Str) : Addr := match PySem.W.findIn K (.ref (He.ga K c)) f with
  | some (some (.ref p)) => p
  | _ => 0
def pAd (K : PySem.W.Frag) (c f : Str) : Addr := match PySem.W.recIn K (pOb K c f) "property" with
  | some (.ref g :: _) => g
  | _ => 0
def fnA (K : PySem.W.Frag) (a : Addr) : He.FnW := (K.lookup a).bind fun o => match o.data with
  | .func fd => some (fd.name, fd.qualname, fd.params, fd.body, fd.scope, fd.globals, fd.closure, fd.builtins)
  | _ => none
def okA (K : PySem.W.Frag) (q : Str) (a : Addr) : Bool := PySem.W.keepIn K (.ref a) && ((K.lookup a).bind fun o => match o.data with
  | .func fd => some (PySem.W.codeIn K fd.code q && decide (fd.defaults = .none))
  | _ => none) == some true
structure PropD where
  c : Str
  f : Str
  d : He.DefD
def PropD.ok (K : PySem.W.Frag) (p : PropD) : Bool := okA K p.d.qual (pAd K p.c p.f) && (decide (PySem.W.findIn K (.ref (He.ga K p.c)) p.f = some (some (.ref (pOb K p.c p.f)))) && (decide (PySem.W.specialIn K (.ref (pOb K p.c p.f)) "__get__" = some (some (.builtin "property.__get__"))) && (decide (PySem.W.takesIn K (.ref (pOb K p.c p.f)) = some true) && (match PySem.W.recIn K (pOb K p.c p.f) "property" with
  | some (.ref _ :: _) => true
  | _ => false))))
theorem fun_at {K : PySem.W.Frag} {d : He.DefD} {a : Addr} (e : fnA K a = d.val) (c : okA K d.qual a = true) : ∃ fd, FunD K d.name d.qual d.params d.body d.scope [] [] a fd := by
  unfold okA at c
  rw [Bool.and_eq_true] at c
  obtain ⟨kp, c⟩ := c
  unfold fnA at e
  cases lk : K.lookup a with
  | none => rw [lk] at e; cases e
  | some o =>
    rw [lk] at e c
    obtain ⟨oc, od, dt, sl⟩ := o
    cases dt with
    | func fd =>
      obtain ⟨a1, a2, a3, a4, a5, a6, a7, a8, a9, a10, a11, a12, a13, a14, a15⟩ := fd
      have c2 : (some (PySem.W.codeIn K a13 d.qual && decide (a8 = .none)) == some true) = true := c
      have c3 : (PySem.W.codeIn K a13 d.qual && decide (a8 = .none)) = true := by simpa using c2
      rw [Bool.and_eq_true, decide_eq_true_eq] at c3
      obtain ⟨c4, c5⟩ := c3
      have e2 : (some (a1, a2, a3, a4, a5, a6, a7, a15) : He.FnW) = some (d.name, d.qual, d.params, .stmts d.body, d.scope, mainGlobals, [], builtinsNs) := e
      simp only [Option.some.injEq, Prod.mk.injEq] at e2
      obtain ⟨z1, z2, z3, z4, z5, z6, z7, z8⟩ := e2
      subst z1 z2 z3 z4 z5 z6 z7 z8
      subst c5
      exact ⟨_, ⟨oc, od, .none, a9, a10, a11, a12, a13, a14, sl, rfl, lk, c4, .inl ⟨rfl, rfl⟩, .inl rfl⟩, kp⟩
    | _ => exact absurd e (by intro z; cases z)
def seedP (g : Addr → Option Obj) (ps : List PropD) : List Addr := ps.flatMap fun p => He.growD g (He.growD g [pOb (He.frT g (He.asD g 2)) p.c p.f])
def seedC (g : Addr → Option Obj) (cs : List Str) : List Addr := cs.flatMap fun c => He.growD g (He.growD g [He.ga (He.frT g (He.asD g 2)) c])
structure PPar where
  n : Nat
  ms : List (Str × Str)
  cs : List Str
  st : Bool
abbrev frP (g : Addr → Option Obj) (p : PPar) (ps : List PropD) : PySem.W.Frag := He.frT g ((match p.st with | true => [cStatics] | false => []) ++ (He.asD g p.n ++ (seedC g p.cs ++ (seedA g p.ms ++ seedP g ps))))
structure SaysP (fa : List FaX) (fn : List He.DefD) (tf : List Str) (fs : List SupV) (ps : List PropD) (h : Heap) (K : PySem.W.Frag) : Prop extends SaysE fa fn tf fs h K where
  pv : ps.map (fun p => fnA K (pAd K p.c p.f)) = ps.map fun p => p.d.val
  po : ps.all (PropD.ok K) = true
abbrev AlP : Type := AlE × (List He.FnW × Bool)
def obsP (q : PPar) (fa : List FaX) (fn : List He.DefD) (tf : List Str) (fs : List SupV) (ps : List PropD) (g : Addr → Option Obj) : AlP := (((obsX fa fn (frP g q ps), apart tf (frP g q ps) && He.tabsB g (tf.map tabKey) (frP g q ps)), fs.map fun v => fnC (frP g q ps) v.c), (ps.map fun p => fnA (frP g q ps) (pAd (frP g q ps) p.c p.f), ps.all (PropD.ok (frP g q ps))))
def valP (fn : List He.DefD) (fs : List SupV) (ps : List PropD) : AlP := (((He.valD fn, true), fs.map SupV.val), (ps.map fun p => p.d.val, true))
theorem saysP_of {q : PPar} {fa : List FaX} {fn : List He.DefD} {tf : List Str} {fs : List SupV} {ps : List PropD} {h : Heap} (e : obsP q fa fn tf fs ps h.get? = valP fn fs ps) : SaysP fa fn tf fs ps h (frP h.get? q ps) := by
  have e4 : ps.map (fun p => fnA (frP h.get? q ps) (pAd (frP h.get? q ps) p.c p.f)) = ps.map (fun p => p.d.val) := congrArg (fun z : AlP => z.2.1) e
  have e5 : ps.all (PropD.ok (frP h.get? q ps)) = true := congrArg (fun z : AlP => z.2.2) e
  have e3 : fs.map (fun v => fnC (frP h.get? q ps) v.c) = fs.map SupV.val := congrArg (fun z : AlP => z.1.2) e
  have e1 : obsX fa fn (frP h.get? q ps) = He.valD fn := congrArg (fun z : AlP => z.1.1.1) e
  have e2 : (apart tf (frP h.get? q ps) && He.tabsB h.get? (tf.map tabKey) (frP h.get? q ps)) = true := congrArg (fun z : AlP => z.1.1.2) e
  generalize hK : frP h.get? q ps = K at e1 e2 e3 e4 e5
  obtain ⟨h1, h2⟩ := He.ba e2
  have key : ∀ y ∈ tf, PySem.W.codeHdIn K (He.cT K (tabKey y)).1 (tabAd K y) = true ∧ ∃ o, h.get? (tabAd K y) = some o ∧ He.emptyTab o = true := fun y hy => by
    obtain ⟨h3, h4⟩ := He.ba (List.all_eq_true.mp h2 (tabKey y) (List.mem_map.mpr ⟨y, hy, rfl⟩))
    refine ⟨h3, ?_⟩
    show ∃ o, h.get? (He.cT K (tabKey y)).2 = some o ∧ _
    cases qq : h.get? (He.cT K (tabKey y)).2 with
    | none => rw [qq] at h4; cases h4
    | some o => rw [qq] at h4; exact ⟨o, rfl, h4⟩
  exact ⟨⟨⟨e1, h1, fun y hy => (key y hy).1, fun y hy => by
    obtain ⟨_, o, qq, z⟩ := key y hy
    rw [← hK] at qq ⊢
    exact He.frT_none qq z, fun y hy => by
    obtain ⟨_, o, qq, z⟩ := key y hy
    rw [qq, He.emptyTab_eq z]⟩, e3⟩, e4, e5⟩
def hookP (q : PPar) (fa : List FaX) (fn : List He.DefD) (tf : List Str) (fs : List SupV) (ps : List PropD) : PySem.W.Hook where
  α := AlP
  obs := fun s => obsP q fa fn tf fs ps s.heap.get?
  val := fun _ => valP fn fs ps
  says := fun _ h => ∃ K : PySem.W.Frag, K.In h ∧ SaysP fa fn tf fs ps h K
  of := fun _ _ e => ⟨_, He.frT_in, saysP_of e⟩
  keeps := fun _ _ _ ⟨K, hK, c⟩ k => ⟨K, PySem.W.Frag.In.keeps hK k, ⟨⟨⟨c.x, c.ap, c.hd, c.out, fun y hy => k _ _ (c.empty y hy)⟩, c.sup⟩, c.pv, c.po⟩⟩
section
variable {fa : List FaX} {fn : List He.DefD} {tf : List Str} {fs : List SupV} {ps : List PropD} {h : Heap} {K : PySem.W.Frag}
theorem SaysP.prop (c : SaysP fa fn tf fs ps h K) (i : Nat) {p : PropD} (hp : ps[i]? = some p := by rfl) : PropD.ok K p = true ∧ ∃ fd, FunD K p.d.name p.d.qual p.d.params p.d.body p.d.scope [] [] (pAd K p.c p.f) fd := by
  have o := List.all_eq_true.mp c.po p (List.mem_of_getElem? hp)
  refine ⟨o, fun_at ?_ (He.ba o).1⟩
  have e := congrArg (fun l : List He.FnW => l[i]?) c.pv
  simp only [List.getElem?_map, hp, Option.map_some] at e
  exact Option.some.inj e
end
def dfK (vs : List D) (fn : Fn) : Fn := fun as h => fn (as ++ vs) h
structure DefK (B : Cb) (k : Nat) (x : Str) (n : Nat) (fn : Fn) (vs : List D) : Prop where
  ex : ∃ (a : Addr) (fd : FuncData) (ps : List Str) (ds : List Value) (us : List V), FnOk B.P B.w B.K B.mg B.base (L2.CX B.P B.w) k a fd ps (spI B.K B.mg (n + vs.length) fn) ∧ B.mg x = some (.ref a) ∧ PySem.W.keepIn B.K (.ref a) = true ∧ Binds B.K fd ps ds ∧ Vals us ds ∧ ∀ w, Reps B.K B.mg w vs us
section
variable {ι : Type} {B : Cb} {N : List Str} {Y : ι → Cy} {W : WX}
end
end Pd

namespace Pd
open PySem L2 Evl
structure Nx (P : Program) (w : World) (it src : Addr) (At : Heap → Nat → Prop) (gv : Nat → Option Value) : Prop where
  far : ∀ {b : Addr} {h h' : Heap} {k : Nat}, At h k → Heap.ExtBut b h h' → it ≠ b → src ≠ b → At h' k
  more : ∀ {A : Around} {E Q : Value → Shared → Prop} {s : Shared} {k : Nat} {x : Value}, At s.heap k → gv k = some x →
    (∀ h', At h' (k + 1) → Heap.SameBut it s.heap h' → Q x { s with heap := h' }) → wpAny (model P w) A (Builtin.SmallTypes.nextOf (.ref it)) Q E s
  over : ∀ {A : Around} {E Q : Value → Shared → Prop} {s : Shared} {k : Nat}, A.handled = .none → At s.heap k → gv k = .none →
    (∀ h' e, Heap.ExtBut it s.heap h' → (∃ o, h'.get? e = some o ∧ o.cls = .type "StopIteration") → E (.ref e) { s with heap := h' }) → wpAny (model P w) A (Builtin.SmallTypes.nextOf (.ref it)) Q E s
section
variable {P : Program} {w : World}
abbrev AtL (it src : Addr) (xs : Array Value) (h : Heap) (k : Nat) : Prop := h.IsListIter it src k ∧ h.IsList src xs
abbrev AtT (it src : Addr) (xs : Array Value) (h : Heap) (k : Nat) : Prop := h.IsTupleIter it src k ∧ h.IsTuple src xs
theorem nx_lst {it src : Addr} (ne : src ≠ it) (xs : Array Value) : Nx P w it src (AtL it src xs) (fun k => xs[k]?) where
  far := fun ⟨a, b⟩ e n1 n2 => ⟨a.extBut e n1, b.extBut e n2⟩
  more := fun ⟨a, b⟩ e f => wpAny_nextOf_list_item a b e fun h' a' s' => f h' ⟨a', b.extBut s'.extBut ne⟩ s'
  over := fun q ⟨a, b⟩ e f => wpAny_nextOf_list_end q a b e f
theorem nx_tup {it src : Addr} (ne : src ≠ it) (xs : Array Value) : Nx P w it src (AtT it src xs) (fun k => xs[k]?) where
  far := fun ⟨a, b⟩ e n1 n2 => ⟨a.extBut e n1, b.extBut e n2⟩
  more := fun ⟨a, b⟩ e f => RZ.nextOf_tuple_item a b e fun h' a' s' => f h' ⟨a', b.extBut s'.extBut ne⟩ s'
  over := fun q ⟨a, b⟩ e f => RZ.nextOf_tuple_end q a b e f
variable {A : Around} {E : Value → Shared → Prop} {s : Shared} {z ti to j1 j2 c1 c2 : Addr} {A1 A2 : Heap → Nat → Prop} {g1 g2 : Nat → Option Value} {m n : Nat}
theorem zg_more {x y a b : Value} {Q : Value → Shared → Prop} (D : ZipApart z ti to j1 j2 c1 c2) (n1 : Nx P w j1 c1 A1 g1) (n2 : Nx P w j2 c2 A2 g2)
    (uz : IsZip s.heap z ti to .none) (ui : IsPair s.heap ti (.ref j1) (.ref j2)) (uo : IsPair s.heap to a b) (u1 : A1 s.heap m) (u2 : A2 s.heap n) (v1 : g1 m = some x) (v2 : g2 n = some y)
    (fin : ∀ h', IsZip h' z ti to (rawInt s.heap.objs.size) → IsPair h' to x y → A1 h' (m + 1) → A2 h' (n + 1) → IsPair h' s.heap.objs.size x y → h'.objs.size = s.heap.objs.size + 1 →
      (∀ c o, c ≠ z → c ≠ to → c ≠ j1 → c ≠ j2 → s.heap.get? c = some o → h'.get? c = some o) → Q (.ref s.heap.objs.size) { s with heap := h' }) :
    wpAny (model P w) A (Builtin.«zip.__next__» ⟨[.ref z], []⟩) (fun r s' => ∃ v, r = .done (.ret v) ∧ Q v s') E s := by
  show wpAny _ _ (field (.ref z) 2 >>= _) _ _ s
  refine wpAny_bind (wpAny_field uz rfl (x := .bool false) rfl ?_)
  show wpAny _ _ (field (.ref z) 3 >>= _) _ _ s
  refine wpAny_bind (wpAny_field uz rfl (x := .ref ti) rfl (wpAny_bind (wpAny_seqItems ui rfl ?_)))
  show wpAny _ _ (Builtin.SmallTypes.ownedTupleIsFree (.ref z) >>= _) _ _ s
  unfold Builtin.SmallTypes.ownedTupleIsFree
  refine wpAny_bind (wpAny_bind (wpAny_field uz rfl (x := .none) rfl (wpAny_pure ?_)))
  simp only [if_true]
  refine wpAny_bind (wpAny_rule (wpAny_bind (wpAny_field uz rfl (x := .ref to) rfl (wpAny_bind (wpAny_setField_rec uz (by simp) fun k1 w1 b1 => ?_)))))
  have w1 : IsZip k1 z ti to .ellipsis := w1
  refine wpAny_bind ?_
  simp only [List.zipIdx_cons, List.zipIdx_nil, List.forIn_cons, List.forIn_nil]
  refine wpAny_bind (wpAny_bind (wpAny_onRaise (?_ : wpAny _ _ (Builtin.SmallTypes.nextOf (.ref j1) >>= _) _ _ _)))
  refine wpAny_bind (n1.more (n1.far u1 b1.extBut D.i1z D.l1z) v1 fun k2 p2 b2 => wpAny_pure ?_)
  have o2 : IsPair k2 to a b := b2.extBut _ _ D.TOi1 (b1.extBut _ _ D.TOz uo)
  refine wpAny_bind (wpAny_seqItems o2 rfl (wpAny_bind (wpAny_updateSeq_pair o2 fun k3 o3 b3 => wpAny_bind (wpAny_letGo (wpAny_pure ?_)))))
  have o3 : IsPair k3 to x b := o3
  refine wpAny_bind (wpAny_bind (wpAny_onRaise (?_ : wpAny _ _ (Builtin.SmallTypes.nextOf (.ref j2) >>= _) _ _ _)))
  have q2 := n2.far (n2.far (n2.far u2 b1.extBut D.i2z D.l2z) b2.extBut D.i12.symm D.l2i1) b3.extBut D.TOi2.symm D.l2TO
  refine wpAny_bind (n2.more q2 v2 fun k4 p4 b4 => wpAny_pure ?_)
  have o4 : IsPair k4 to x b := b4.extBut _ _ D.TOi2 o3
  refine wpAny_bind (wpAny_seqItems o4 rfl (wpAny_bind (wpAny_updateSeq_pair o4 fun k5 o5 b5 => wpAny_bind (wpAny_letGo (wpAny_pure (wpAny_pure ?_))))))
  have o5 : IsPair k5 to x y := o5
  refine wpAny_bind (wpAny_seqItems o5 rfl (wpAny_bind (wpAny_newTuple ?_)))
  have sz : k5.objs.size = s.heap.objs.size := by rw [b5.1, b4.1, b3.1, b2.1, b1.1]
  have z5 : IsZip k5 z ti to .ellipsis := b5.extBut _ _ D.TOz.symm (b4.extBut _ _ D.i2z.symm (b3.extBut _ _ D.TOz.symm (b2.extBut _ _ D.i1z.symm w1)))
  have kp : ∀ c o, c ≠ z → c ≠ to → c ≠ j1 → c ≠ j2 → s.heap.get? c = some o → k5.get? c = some o := fun c o e1 e2 e3 e4 e =>
    b5.extBut _ _ e2 (b4.extBut _ _ e4 (b3.extBut _ _ e2 (b2.extBut _ _ e3 (b1.extBut _ _ e1 e))))
  have r1 : A1 k5 (m + 1) := n1.far (n1.far (n1.far p2 b3.extBut D.TOi1.symm D.l1TO) b4.extBut D.i12 D.l1i2) b5.extBut D.TOi1.symm D.l1TO
  have r2 : A2 k5 (n + 1) := n2.far p4 b5.extBut D.TOi2.symm D.l2TO
  have zl : z < k5.objs.size := Heap.lt_size z5
  show wpAny _ _ (Builtin.SmallTypes.ownedTupleHandOut (.ref z) (.ref k5.objs.size) >>= _) _ _ _
  unfold Builtin.SmallTypes.ownedTupleHandOut
  have ps : Heap.ExtBut z k5 (k5.push { cls := .type "tuple", data := .seq #[x, y] }) := fun c o _ e => Heap.get?_push_of_some _ e
  refine wpAny_bind (wpAny_bind (wpAny_setField_rec (show IsZip _ z ti to .ellipsis from Heap.get?_push_of_some _ z5) (by simp) fun k7 z7 b7 => ?_))
  have z7 : IsZip k7 z ti to (rawInt k5.objs.size) := z7
  refine wpAny_setField_rec z7 (by simp) fun k8 z8 b8 => ?_
  have z8 : IsZip k8 z ti to (rawInt k5.objs.size) := z8
  have all : Heap.ExtBut z k5 k8 := fun c o ne e => b8.extBut _ _ ne (b7.extBut _ _ ne (ps _ _ ne e))
  have t8 : IsPair k8 k5.objs.size x y := b8.extBut _ _ (Nat.ne_of_gt zl) (b7.extBut _ _ (Nat.ne_of_gt zl) (Heap.get?_push_size _ rfl))
  have s8 : k8.objs.size = k5.objs.size + 1 := by rw [b8.1, b7.1, Heap.size_push]
  rw [sz] at z8 t8 s8
  refine wpAny_pure ⟨_, rfl, ?_⟩
  show Q (.ref k5.objs.size) _
  rw [sz]
  exact fin k8 z8 (all _ _ D.TOz o5) (n1.far r1 all D.i1z D.l1z) (n2.far r2 all D.i2z D.l2z) t8 s8 fun c o e1 e2 e3 e4 e => all c o e1 (kp c o e1 e2 e3 e4 e)
theorem zg_over {a b : Value} {Q : Fin → Shared → Prop} (hA : A.handled = .none) (D : ZipApart z ti to j1 j2 c1 c2) (n1 : Nx P w j1 c1 A1 g1) (n2 : Nx P w j2 c2 A2 g2)
    (uz : IsZip s.heap z ti to .none) (ui : IsPair s.heap ti (.ref j1) (.ref j2)) (uo : IsPair s.heap to a b) (u1 : A1 s.heap m) (u2 : A2 s.heap n) (v : g1 m = .none ∨ g2 n = .none)
    (fin : ∀ h' e, (∀ c o, c ≠ z → c ≠ to → c ≠ j1 → c ≠ j2 → s.heap.get? c = some o → h'.get? c = some o) → (∃ o, h'.get? e = some o ∧ o.cls = .type "StopIteration") → E (.ref e) { s with heap := h' }) :
    wpAny (model P w) A (Builtin.«zip.__next__» ⟨[.ref z], []⟩) Q E s := by
  show wpAny _ _ (field (.ref z) 2 >>= _) _ _ s
  refine wpAny_bind (wpAny_field uz rfl (x := .bool false) rfl ?_)
  show wpAny _ _ (field (.ref z) 3 >>= _) _ _ s
  refine wpAny_bind (wpAny_field uz rfl (x := .ref ti) rfl (wpAny_bind (wpAny_seqItems ui rfl ?_)))
  show wpAny _ _ (Builtin.SmallTypes.ownedTupleIsFree (.ref z) >>= _) _ _ s
  unfold Builtin.SmallTypes.ownedTupleIsFree
  refine wpAny_bind (wpAny_bind (wpAny_field uz rfl (x := .none) rfl (wpAny_pure ?_)))
  simp only [if_true]
  refine wpAny_bind (wpAny_rule (wpAny_bind (wpAny_field uz rfl (x := .ref to) rfl (wpAny_bind (wpAny_setField_rec uz (by simp) fun k1 w1 b1 => ?_)))))
  have w1 : IsZip k1 z ti to .ellipsis := w1
  refine wpAny_bind ?_
  simp only [List.zipIdx_cons, List.zipIdx_nil, List.forIn_cons, List.forIn_nil]
  refine wpAny_bind (wpAny_bind (wpAny_onRaise (?_ : wpAny _ _ (Builtin.SmallTypes.nextOf (.ref j1) >>= _) _ _ _)))
  have q1 := n1.far u1 b1.extBut D.i1z D.l1z
  cases v1 : g1 m with
  | none =>
    refine wpAny_bind (n1.over hA q1 v1 fun k2 e b2 ⟨oe, he, ce⟩ => ?_)
    have w2 : IsZip k2 z ti to .ellipsis := b2 _ _ D.i1z.symm w1
    have ne : e ≠ z := fun q => by subst q; rw [w2] at he; cases he; simp at ce
    exact wpAny_setField_rec w2 (by simp) fun k3 _ b3 => fin k3 e (fun c o e1 _ e3 _ q => b3.extBut _ _ e1 (b2 _ _ e3 (b1.extBut _ _ e1 q))) ⟨oe, b3.extBut _ _ ne he, ce⟩
  | some x =>
    have v2 : g2 n = .none := v.resolve_left (by rw [v1]; exact nofun)
    refine wpAny_bind (n1.more q1 v1 fun k2 p2 b2 => wpAny_pure ?_)
    have o2 : IsPair k2 to a b := b2.extBut _ _ D.TOi1 (b1.extBut _ _ D.TOz uo)
    refine wpAny_bind (wpAny_seqItems o2 rfl (wpAny_bind (wpAny_updateSeq_pair o2 fun k3 o3 b3 => wpAny_bind (wpAny_letGo (wpAny_pure ?_)))))
    refine wpAny_bind (wpAny_bind (wpAny_onRaise (?_ : wpAny _ _ (Builtin.SmallTypes.nextOf (.ref j2) >>= _) _ _ _)))
    have q2 := n2.far (n2.far (n2.far u2 b1.extBut D.i2z D.l2z) b2.extBut D.i12.symm D.l2i1) b3.extBut D.TOi2.symm D.l2TO
    refine wpAny_bind (n2.over hA q2 v2 fun k4 e b4 ⟨oe, he, ce⟩ => ?_)
    have w4 : IsZip k4 z ti to .ellipsis := b4 _ _ D.i2z.symm (b3.extBut _ _ D.TOz.symm (b2.extBut _ _ D.i1z.symm w1))
    have ne : e ≠ z := fun q => by subst q; rw [w4] at he; cases he; simp at ce
    exact wpAny_setField_rec w4 (by simp) fun k5 _ b5 => fin k5 e (fun c o e1 e2 e3 e4 q => b5.extBut _ _ e1 (b4 _ _ e4 (b3.extBut _ _ e2 (b2.extBut _ _ e3 (b1.extBut _ _ e1 q))))) ⟨oe, b5.extBut _ _ ne he, ce⟩
theorem zg_next {x y a b : Value} {Q : Option Value → Shared → Prop} (D : ZipApart z ti to j1 j2 c1 c2) (n1 : Nx P w j1 c1 A1 g1) (n2 : Nx P w j2 c2 A2 g2)
    (uz : IsZip s.heap z ti to .none) (ui : IsPair s.heap ti (.ref j1) (.ref j2)) (uo : IsPair s.heap to a b) (u1 : A1 s.heap m) (u2 : A2 s.heap n) (v1 : g1 m = some x) (v2 : g2 n = some y)
    (fin : ∀ h', IsZip h' z ti to (rawInt s.heap.objs.size) → IsPair h' to x y → A1 h' (m + 1) → A2 h' (n + 1) → IsPair h' s.heap.objs.size x y → h'.objs.size = s.heap.objs.size + 1 →
      (∀ c o, c ≠ z → c ≠ to → c ≠ j1 → c ≠ j2 → s.heap.get? c = some o → h'.get? c = some o) → Q (some (.ref s.heap.objs.size)) { s with heap := h' }) :
    wpAny (model P w) A (pyNext (.ref z)) Q E s := by
  have ty : s.TypeIs (.ref z) "zip" := ⟨_, uz, rfl⟩
  have body := zg_more (P := P) (w := w) (A := A.in1) (E := E) (Q := fun v t => Q (some v) t) D n1 n2 uz ui uo u1 u2 v1 v2 fin
  unfold pyNext
  refine wpAny_bind (wpAny_attempt (wpAny_callSpecial?_slot (name := Str.ofString "__next__") ty F.slot_zip_next (wpAny_call_entry F.slot_zip_next ty F.entry_zip_next ?_ (F.args_zip_next_1 _))))
  exact zg_more D n1 n2 uz ui uo u1 u2 v1 v2 fun h' t1 t2 t3 t4 t5 t6 t7 => wpAny_pure (fin h' t1 t2 t3 t4 t5 t6 t7)
theorem zg_stop {a b : Value} {Q : Option Value → Shared → Prop} (hA : A.handled = .none) (D : ZipApart z ti to j1 j2 c1 c2) (n1 : Nx P w j1 c1 A1 g1) (n2 : Nx P w j2 c2 A2 g2)
    (uz : IsZip s.heap z ti to .none) (ui : IsPair s.heap ti (.ref j1) (.ref j2)) (uo : IsPair s.heap to a b) (u1 : A1 s.heap m) (u2 : A2 s.heap n) (v : g1 m = .none ∨ g2 n = .none)
    (fin : ∀ h', (∀ c o, c ≠ z → c ≠ to → c ≠ j1 → c ≠ j2 → s.heap.get? c = some o → h'.get? c = some o) → Q .none { s with heap := h' }) : wpAny (model P w) A (pyNext (.ref z)) Q E s := by
  have ty : s.TypeIs (.ref z) "zip" := ⟨_, uz, rfl⟩
  unfold pyNext
  refine wpAny_bind (wpAny_attempt (wpAny_callSpecial?_slot (name := Str.ofString "__next__") ty F.slot_zip_next (wpAny_call_entry F.slot_zip_next ty F.entry_zip_next (zg_over hA D n1 n2 uz ui uo u1 u2 v fun h' e kp ⟨o, ho, hc⟩ => ?_) (F.args_zip_next_1 _))))
  exact wpAny_bind (wpAny_isInstance (T := "StopIteration") (b := true) ⟨o, ho, hc⟩ isSubtype_stop (wpAny_pure (fin _ kp)))
end
def ItzM (K : PySem.W.Frag) (a b : Addr) : It :=
  ⟨fun i H => ∃ (us vs : List V) (u v : V), SqL K H a us ∧ SqT K H b vs ∧ us[i]? = some u ∧ vs[i]? = some v,
    fun i H r H' => ∃ T u v, r = .ref T ∧ H T = none ∧ H' = upd H T (.tup [u, v]) ∧ (∀ us, SqL K H a us → us[i]? = some u) ∧ ∀ vs, SqT K H b vs → vs[i]? = some v,
    fun i H => ∃ us vs : List V, SqL K H a us ∧ SqT K H b vs ∧ (us.length ≤ i ∨ vs.length ≤ i)⟩
theorem turn_zm {P : Program} {w : World} {K : PySem.W.Frag} {elts : List Expr} {kk : Nat} {tpos : Pos} {a b z ti to j1 j2 : Addr} (D : ZipApart z ti to j1 j2 a b) :
    Turn P w K (.Tuple elts kk tpos) (ItzM K a b) [z, ti, to, j1, j2] z (fun i h => IsZip h z ti to .none ∧ IsPair h ti (.ref j1) (.ref j2) ∧ (∃ x y, IsPair h to x y) ∧ h.IsListIter j1 a i ∧ h.IsTupleIter j2 b i) where
  mem := List.mem_cons_self
  obj := fun i h ⟨q1, q2, ⟨x, y, q3⟩, ⟨o1, e1, _, d1⟩, ⟨o2, e2, _, d2⟩⟩ c hc => by
    simp only [List.mem_cons, List.not_mem_nil, or_false] at hc
    rcases hc with rfl | rfl | rfl | rfl | rfl
    · exact ⟨_, q1, fun v q => nomatch q⟩
    · exact ⟨_, q2, fun v q => nomatch q⟩
    · exact ⟨_, q3, fun v q => nomatch q⟩
    · exact ⟨o1, e1, fun v q => by rw [d1] at q; cases q⟩
    · exact ⟨o2, e2, fun v q => by rw [d2] at q; cases q⟩
  keep := fun i h h' ⟨q1, q2, ⟨x, y, q3⟩, q4, q5⟩ k => ⟨k z (by simp) _ q1, k ti (by simp) _ q2, ⟨x, y, k to (by simp) _ q3⟩, q4.at fun o q => k j1 (by simp) o q, q5.at fun o q => k j2 (by simp) o q⟩
  item := by
    intro X eP ew eK hc i pins s σ H E I hf ⟨q1, q2, ⟨x0, y0, q3⟩, q4, q5⟩ ⟨us, vs, u, v, su, sv, gu, gv⟩
    subst eP ew eK
    obtain ⟨its, ru, pl, _⟩ := I.list su
    obtain ⟨jts, rv, pt, _⟩ := I.tuple sv
    obtain ⟨x, hx, rx⟩ := ru.get gu
    obtain ⟨y, hy, ry⟩ := rv.get gv
    have zl : z < s.heap.objs.size := Heap.lt_size q1
    refine zg_next D (nx_lst D.l1i1 its.toArray) (nx_tup D.l2i2 jts.toArray) q1 q2 q3 ⟨q4, pl.isList⟩ ⟨q5, pt⟩ (x := x) (y := y) (by simpa using hx) (by simpa using hy) fun h1 w1 w2 ⟨w3, _⟩ ⟨w4, _⟩ w5 _ w7 => ?_
    refine ⟨_, rfl, wpAny_letOwnedTupleGo_zip (s := { s with heap := h1 }) w1 fun h2 m1 sb => ?_⟩
    have tp : h2.get? s.heap.objs.size = some { cls := .type "tuple", data := .seq #[x, y] } := (sb.2 _ (Nat.ne_of_gt zl)).trans w5
    have ok : ObjOk X.prog X.w (upd H s.heap.objs.size (.tup [u, v])) h2 s.heap.objs.size (.tup [u, v]) := ⟨(by decide : 2 ≤ sizeLine), [x, y], .cons rx (.cons ry .nil), ⟨_, tp, rfl, _, rfl⟩⟩
    have I1 : Inv X pins σ (upd H s.heap.objs.size (.tup [u, v])) { s with heap := h2 } := by
      refine I.turnedNew (t' := s.toks) (ch := [z, ti, to, j1, j2]) (fun c o hb q => ?_) hf (Nat.le_refl _) ok
      simp only [List.mem_cons, List.not_mem_nil, or_false, not_or] at hb
      obtain ⟨b1, b2, b3, b4, b5⟩ := hb
      exact (sb.2 c b1).trans (w7 c o b1 b3 b4 b5 q)
    refine ⟨.ref s.heap.objs.size, _, I1, rfl, ⟨_, u, v, rfl, I.hok.fresh (Nat.le_refl _), rfl, fun l hl => by rw [I.list_inj hl su]; exact gu, fun l hl => by rw [I.tuple_inj hl sv]; exact gv⟩, ⟨m1, ?_, ⟨x, y, ?_⟩, ?_, ?_⟩, fun c hcm => ?_⟩
    · exact (sb.2 _ D.TIz).trans (w7 _ _ D.TIz D.TITO D.TIi1 D.TIi2 q2)
    · exact (sb.2 _ D.TOz).trans w2
    · exact w3.at fun o q => (sb.2 _ D.i1z).trans q
    · exact w4.at fun o q => (sb.2 _ D.i2z).trans q
    · have lt : c < s.heap.objs.size := by
        have hcm' := hcm
        simp only [List.mem_cons, List.not_mem_nil, or_false] at hcm'
        rcases hcm' with rfl | rfl | rfl | rfl | rfl
        · exact zl
        · exact Heap.lt_size q2
        · exact Heap.lt_size q3
        · obtain ⟨_, e, _⟩ := q4; exact Heap.lt_size e
        · obtain ⟨_, e, _⟩ := q5; exact Heap.lt_size e
      rw [upd_ne (Nat.ne_of_lt lt)]
      exact (hf c hcm).1
  done := by
    intro X eP ew eK hc i pins s σ H E I hf ⟨q1, q2, ⟨x0, y0, q3⟩, q4, q5⟩ ⟨us, vs, su, sv, he⟩
    subst eP ew eK
    obtain ⟨its, ru, pl, _⟩ := I.list su
    obtain ⟨jts, rv, pt, _⟩ := I.tuple sv
    have n1 := ru.length
    have n2 := rv.length
    have no : its.toArray[i]? = none ∨ jts.toArray[i]? = none := he.elim (fun q => .inl (by simp; omega)) fun q => .inr (by simp; omega)
    refine zg_stop (I.ok.hd hc) D (nx_lst D.l1i1 its.toArray) (nx_tup D.l2i2 jts.toArray) q1 q2 q3 ⟨q4, pl.isList⟩ ⟨q5, pt⟩ no fun h1 w7 => ⟨rfl, I.turnedL (t' := s.toks) (ch := [z, ti, to, j1, j2]) (fun c o hb q => ?_) hf⟩
    simp only [List.mem_cons, List.not_mem_nil, or_false, not_or] at hb
    exact w7 c o hb.1 hb.2.2.1 hb.2.2.2.1 hb.2.2.2.2 q
  self := fun _ _ _ _ _ st q => wpAny_pyIter_zip st.1 q
theorem itOk_zm {K : PySem.W.Frag} {mg : Str → Option Value} {w : Wd} {a b : Addr} {xs ys : List D} {us vs : List V} (qa : SqL K w.G a us) (qb : SqT K w.G b vs) (ra : Reps K mg w xs us) (rb : Reps K mg w ys vs) : ItOk K mg w (ItzM K a b) (zipD xs ys) where
  go := fun w' h' H' i d le L e => by
    obtain ⟨x, y, e1, e2, rfl⟩ := zipD_get e
    obtain ⟨u, hu, ru⟩ := ra.get e1
    obtain ⟨v, hv, rv⟩ := rb.get e2
    have s1 := ex_l L.ex (ex_l le.ex qa)
    have s2 := ex_t L.ex (ex_t le.ex qb)
    refine ⟨⟨us, vs, u, v, s1, s2, hu, hv⟩, fun z H'' ⟨T, x1, y1, ez, np, eh, k1, k2⟩ => ?_⟩
    subst ez eh
    have t1 := k1 us s1
    have t2 := k2 vs s2
    rw [hu] at t1
    rw [hv] at t2
    cases t1
    cases t2
    obtain ⟨l1, l2, l3⟩ := L.lay np (.tup [u, v])
    exact ⟨_, l2, l1, .tup (.inl upd_same) (.cons ((ru.mono le).mono l3) (.cons ((rv.mono le).mono l3) .nil))⟩
  stop := fun w' h' H' i le L hl => ⟨us, vs, ex_l L.ex (ex_l le.ex qa), ex_t L.ex (ex_t le.ex qb), by rw [zipD_len] at hl; rw [← ra.length, ← rb.length]; omega⟩
section
variable {ι : Type} {Z : Cz} {Y : ι → Cy} {W : WX}
end
end Pd

namespace Pd
open PySem L2 Evl
def ItzN (K : PySem.W.Frag) (a b : Addr) : It :=
  ⟨fun i H => ∃ (us vs : List V) (u v : V), SqT K H a us ∧ SqL K H b vs ∧ us[i]? = some u ∧ vs[i]? = some v,
    fun i H r H' => ∃ T u v, r = .ref T ∧ H T = none ∧ H' = upd H T (.tup [u, v]) ∧ (∀ us, SqT K H a us → us[i]? = some u) ∧ ∀ vs, SqL K H b vs → vs[i]? = some v,
    fun i H => ∃ us vs : List V, SqT K H a us ∧ SqL K H b vs ∧ (us.length ≤ i ∨ vs.length ≤ i)⟩
theorem turn_zn {P : Program} {w : World} {K : PySem.W.Frag} {elts : List Expr} {kk : Nat} {tpos : Pos} {a b z ti to j1 j2 : Addr} (D : ZipApart z ti to j1 j2 a b) :
    Turn P w K (.Tuple elts kk tpos) (ItzN K a b) [z, ti, to, j1, j2] z (fun i h => IsZip h z ti to .none ∧ IsPair h ti (.ref j1) (.ref j2) ∧ (∃ x y, IsPair h to x y) ∧ h.IsTupleIter j1 a i ∧ h.IsListIter j2 b i) where
  mem := List.mem_cons_self
  obj := fun i h ⟨q1, q2, ⟨x, y, q3⟩, ⟨o1, e1, _, d1⟩, ⟨o2, e2, _, d2⟩⟩ c hc => by
    simp only [List.mem_cons, List.not_mem_nil, or_false] at hc
    rcases hc with rfl | rfl | rfl | rfl | rfl
    · exact ⟨_, q1, fun v q => nomatch q⟩
    · exact ⟨_, q2, fun v q => nomatch q⟩
    · exact ⟨_, q3, fun v q => nomatch q⟩
    · exact ⟨o1, e1, fun v q => by rw [d1] at q; cases q⟩
    · exact ⟨o2, e2, fun v q => by rw [d2] at q; cases q⟩
  keep := fun i h h' ⟨q1, q2, ⟨x, y, q3⟩, q4, q5⟩ k => ⟨k z (by simp) _ q1, k ti (by simp) _ q2, ⟨x, y, k to (by simp) _ q3⟩, q4.at fun o q => k j1 (by simp) o q, q5.at fun o q => k j2 (by simp) o q⟩
  item := by
    intro X eP ew eK hc i pins s σ H E I hf ⟨q1, q2, ⟨x0, y0, q3⟩, q4, q5⟩ ⟨us, vs, u, v, su, sv, gu, gv⟩
    subst eP ew eK
    obtain ⟨its, ru, pl, _⟩ := I.tuple su
    obtain ⟨jts, rv, pt, _⟩ := I.list sv
    obtain ⟨x, hx, rx⟩ := ru.get gu
    obtain ⟨y, hy, ry⟩ := rv.get gv
    have zl : z < s.heap.objs.size := Heap.lt_size q1
    refine zg_next D (nx_tup D.l1i1 its.toArray) (nx_lst D.l2i2 jts.toArray) q1 q2 q3 ⟨q4, pl⟩ ⟨q5, pt.isList⟩ (x := x) (y := y) (by simpa using hx) (by simpa using hy) fun h1 w1 w2 ⟨w3, _⟩ ⟨w4, _⟩ w5 _ w7 => ?_
    refine ⟨_, rfl, wpAny_letOwnedTupleGo_zip (s := { s with heap := h1 }) w1 fun h2 m1 sb => ?_⟩
    have tp : h2.get? s.heap.objs.size = some { cls := .type "tuple", data := .seq #[x, y] } := (sb.2 _ (Nat.ne_of_gt zl)).trans w5
    have ok : ObjOk X.prog X.w (upd H s.heap.objs.size (.tup [u, v])) h2 s.heap.objs.size (.tup [u, v]) := ⟨(by decide : 2 ≤ sizeLine), [x, y], .cons rx (.cons ry .nil), ⟨_, tp, rfl, _, rfl⟩⟩
    have I1 : Inv X pins σ (upd H s.heap.objs.size (.tup [u, v])) { s with heap := h2 } := by
      refine I.turnedNew (t' := s.toks) (ch := [z, ti, to, j1, j2]) (fun c o hb q => ?_) hf (Nat.le_refl _) ok
      simp only [List.mem_cons, List.not_mem_nil, or_false, not_or] at hb
      obtain ⟨b1, b2, b3, b4, b5⟩ := hb
      exact (sb.2 c b1).trans (w7 c o b1 b3 b4 b5 q)
    refine ⟨.ref s.heap.objs.size, _, I1, rfl, ⟨_, u, v, rfl, I.hok.fresh (Nat.le_refl _), rfl, fun l hl => by rw [I.tuple_inj hl su]; exact gu, fun l hl => by rw [I.list_inj hl sv]; exact gv⟩, ⟨m1, ?_, ⟨x, y, ?_⟩, ?_, ?_⟩, fun c hcm => ?_⟩
    · exact (sb.2 _ D.TIz).trans (w7 _ _ D.TIz D.TITO D.TIi1 D.TIi2 q2)
    · exact (sb.2 _ D.TOz).trans w2
    · exact w3.at fun o q => (sb.2 _ D.i1z).trans q
    · exact w4.at fun o q => (sb.2 _ D.i2z).trans q
    · have lt : c < s.heap.objs.size := by
        have hcm' := hcm
        simp only [List.mem_cons, List.not_mem_nil, or_false] at hcm'
        rcases hcm' with rfl | rfl | rfl | rfl | rfl
        · exact zl
        · exact Heap.lt_size q2
        · exact Heap.lt_size q3
        · obtain ⟨_, e, _⟩ := q4; exact Heap.lt_size e
        · obtain ⟨_, e, _⟩ := q5; exact Heap.lt_size e
      rw [upd_ne (Nat.ne_of_lt lt)]
      exact (hf c hcm).1
  done := by
    intro X eP ew eK hc i pins s σ H E I hf ⟨q1, q2, ⟨x0, y0, q3⟩, q4, q5⟩ ⟨us, vs, su, sv, he⟩
    subst eP ew eK
    obtain ⟨its, ru, pl, _⟩ := I.tuple su
    obtain ⟨jts, rv, pt, _⟩ := I.list sv
    have n1 := ru.length
    have n2 := rv.length
    have no : its.toArray[i]? = none ∨ jts.toArray[i]? = none := he.elim (fun q => .inl (by simp; omega)) fun q => .inr (by simp; omega)
    refine zg_stop (I.ok.hd hc) D (nx_tup D.l1i1 its.toArray) (nx_lst D.l2i2 jts.toArray) q1 q2 q3 ⟨q4, pl⟩ ⟨q5, pt.isList⟩ no fun h1 w7 => ⟨rfl, I.turnedL (t' := s.toks) (ch := [z, ti, to, j1, j2]) (fun c o hb q => ?_) hf⟩
    simp only [List.mem_cons, List.not_mem_nil, or_false, not_or] at hb
    exact w7 c o hb.1 hb.2.2.1 hb.2.2.2.1 hb.2.2.2.2 q
  self := fun _ _ _ _ _ st q => wpAny_pyIter_zip st.1 q
theorem itOk_zn {K : PySem.W.Frag} {mg : Str → Option Value} {w : Wd} {a b : Addr} {xs ys : List D} {us vs : List V} (qa : SqT K w.G a us) (qb : SqL K w.G b vs) (ra : Reps K mg w xs us) (rb : Reps K mg w ys vs) : ItOk K mg w (ItzN K a b) (zipD xs ys) where
  go := fun w' h' H' i d le L e => by
    obtain ⟨x, y, e1, e2, rfl⟩ := zipD_get e
    obtain ⟨u, hu, ru⟩ := ra.get e1
    obtain ⟨v, hv, rv⟩ := rb.get e2
    have s1 := ex_t L.ex (ex_t le.ex qa)
    have s2 := ex_l L.ex (ex_l le.ex qb)
    refine ⟨⟨us, vs, u, v, s1, s2, hu, hv⟩, fun z H'' ⟨T, x1, y1, ez, np, eh, k1, k2⟩ => ?_⟩
    subst ez eh
    have t1 := k1 us s1
    have t2 := k2 vs s2
    rw [hu] at t1
    rw [hv] at t2
    cases t1
    cases t2
    obtain ⟨l1, l2, l3⟩ := L.lay np (.tup [u, v])
    exact ⟨_, l2, l1, .tup (.inl upd_same) (.cons ((ru.mono le).mono l3) (.cons ((rv.mono le).mono l3) .nil))⟩
  stop := fun w' h' H' i le L hl => ⟨us, vs, ex_t L.ex (ex_t le.ex qa), ex_l L.ex (ex_l le.ex qb), by rw [zipD_len] at hl; rw [← ra.length, ← rb.length]; omega⟩
section
variable {ι : Type} {Z : Cz} {Y : ι → Cy} {W : WX}
end
end Pd

namespace Pd
open PySem L2 Evl
section
variable {X : Cx} {CX : CXT} {k n : Nat} {f : Addr} {fd : FuncData} {ps ks : List Str} {sp : Sp} {E : St → XK} {x : Str} {p pos : Pos} {e : Expr} {es : List Expr} {kws : List Keyword} {t tk : TA} {g : List Value → List Value → List Value} {gV : List V → List V → List V}
end
structure KwDef (B : Cb) (k : Nat) (x : Str) (n : Nat) (ks : List Str) (fn : Fn) : Prop where
  ex : ∃ (a : Addr) (fd : FuncData) (ps : List Str), FnOk B.P B.w B.K B.mg B.base (L2.CX B.P B.w) k a fd ps (spI B.K B.mg (n + ks.length) fn) ∧ B.mg x = some (.ref a) ∧ PySem.W.keepIn B.K (.ref a) = true ∧ KBn B.K fd ps n ks (fun us ws => us ++ ws) (fun vs zs => vs ++ zs)
section
variable {ι : Type} {B : Cb} {N : List Str} {Y : ι → Cy} {W : WX}
theorem KwDef.iso {k n : Nat} {x : Str} {ks : List Str} {fn : Fn} (d : KwDef B k x n ks fn) : KwDef B k x n ks (Pd.iso fn) := by
  obtain ⟨a, fd, ps, F, hm, hk, hb⟩ := d.ex
  refine ⟨a, fd, ps, F.imp fun vs H Q E h => ?_, hm, hk, hb⟩
  obtain ⟨w, h, as, el, L, r, hp⟩ := h
  obtain ⟨w0, h0, L0, r0, p0⟩ := PoC.iso L r hp
  exact ⟨w0, h0, as, el, L0, r0, p0⟩
def AllK (B : Cb) (k n : Nat) (tbl : List (Str × Fn)) : Prop := ∀ p ∈ tbl, ∃ fn vs, p.2 = dfK vs fn ∧ DefK B k p.1 n fn vs
end
end Pd

namespace Pd
open PySem L2 Evl
open PyProof.Rows
section
variable {X : Cx} {e : Expr} {te : TE} {p apos cpos pos : Pos}
end
section
variable {ι : Type} {Z : Cz} {Y : ι → Cy} {W : WX}
end
end Pd

namespace Pd
open PySem L2 Evl
section
variable {X : Cx} {tg : Expr}
end
section
variable {K : PySem.W.Frag} {mg : Str → Option Value}
end
section
variable {ι : Type} {Z : Cz} {Y : ι → Cy} {W : WX}
end
def mlook : List (Int × D) → Int → Option D
  | [], _ => none
  | (i, d) :: r, k => if i = k then some d else mlook r k
structure MdD (P : Program) (w : World) (K : PySem.W.Frag) (mg : Str → Option Value) (x : Str) (kvs : List (Int × D)) : Prop where
  ex : ∃ (a : Addr) (es : Array DictEntry) (n : Nat), mg x = some (.ref a) ∧ K.lookup a = some ⟨.type "dict", none, .dict es n, #[]⟩ ∧ (a == sysModules) = false ∧ KeysOf (intKind P w) es ∧
    ∀ i, (mlook kvs i = none ∧ findBy Value.isInt es i = none) ∨ ∃ d u v, mlook kvs i = some d ∧ findBy Value.isInt es i = some u ∧ RelV v u ∧ ∀ w, Rep K mg w d v
section
variable {X : Cx} {x : Str} {kvs : List (Int × D)}
theorem MdD.map {P : Program} {w : World} {K : PySem.W.Frag} {h : Heap} {a : Addr} {es : Array DictEntry} {n : Nat} (I : K.In h) (l : K.lookup a = some ⟨.type "dict", none, .dict es n, #[]⟩) (k : KeysOf (intKind P w) es) : h.MapOf (intKind P w) a (fun k => findBy Value.isInt es k) :=
  ⟨_, es, n, I _ _ l, ⟨rfl, rfl, rfl⟩, rfl, k, fun _ => rfl⟩
end
section
variable {K : PySem.W.Frag} {mg : Str → Option Value} {x : Str} {kvs : List (Int × D)}
end
section
variable {ι : Type} {B : Cb} {N : List Str} {Y : ι → Cy} {W : WX}
theorem MdD.glo {x : Str} {kvs : List (Int × D)} (D : MdD B.P B.w B.K B.mg x kvs) : ∃ a, B.mg x = some (.ref a) := by
  obtain ⟨a, es, n, e1, e2⟩ := D.ex
  exact ⟨a, e1⟩
end
theorem DefK.iso {B : Cb} {k n : Nat} {x : Str} {fn : Fn} {vs : List D} (d : DefK B k x n fn vs) : DefK B k x n (Pd.iso fn) vs := by
  obtain ⟨a, fd, ps, ds, us, F, hm, hk, hb, hv, hR⟩ := d.ex
  refine ⟨a, fd, ps, ds, us, F.imp fun vs H Q E h => ?_, hm, hk, hb, hv, hR⟩
  obtain ⟨w, h, as, el, L, r, hp⟩ := h
  obtain ⟨w0, h0, L0, r0, p0⟩ := PoC.iso L r hp
  exact ⟨w0, h0, as, el, L0, r0, p0⟩
end Pd

namespace PySem
open Sem (wp)
open AutoSeq1 (wpAny_loadPart')
section
variable {prog : Program} {w : World} {A : Around} {E : Value → Shared → Prop} {s : Shared}
end
end PySem
namespace Pd
open PySem L2 Evl
def IteT (K : PySem.W.Frag) (a : Addr) : It :=
  ⟨fun i H => ∃ (xs : List V) (x : V), SqT K H a xs ∧ xs[i]? = some x, fun i H v H' => ∃ T x, v = .ref T ∧ H T = none ∧ H' = upd H T (.tup [.int (i : Nat), x]) ∧ ∀ xs, SqT K H a xs → xs[i]? = some x, fun i H => ∃ xs : List V, SqT K H a xs ∧ xs.length ≤ i⟩
theorem turn_enumT {P : Program} {w : World} {K : PySem.W.Frag} {elts : List Expr} {kk : Nat} {tpos : Pos} (a e it : Addr) (ha : a ≠ it) (hae : a ≠ e) :
    Turn P w K (.Tuple elts kk tpos) (IteT K a) [e, it] e (fun i h => (∃ old, IsEnum h e it ((i : Nat) : Int) old) ∧ h.IsTupleIter it a i ∧ e ≠ it) where
  mem := by simp
  obj := fun i h st b hb => by
    obtain ⟨⟨old, he⟩, ⟨o, ho, hc, hd⟩, _⟩ := st
    have e' : b = e ∨ b = it := by simpa using hb
    rcases e' with z | z
    · rw [z]; exact ⟨_, he, fun v q => nomatch q⟩
    · rw [z]; exact ⟨o, ho, fun v q => by rw [hd] at q; cases q⟩
  keep := fun i h h' st k => let ⟨⟨old, he⟩, hi, hne⟩ := st; ⟨⟨old, k e (by simp) _ he⟩, hi.at fun o q => k it (by simp) o q, hne⟩
  item := by
    intro X hP hw hK hc i pins s σ H E I hf st hg
    subst hP hw hK
    obtain ⟨⟨old, he⟩, hit, hne⟩ := st
    obtain ⟨xs, x, hq, hx⟩ := hg
    obtain ⟨its, rv, p, hz⟩ := I.tuple hq
    obtain ⟨u, hu, ru⟩ := rv.get hx
    have hel : e < s.heap.objs.size := Heap.lt_size he
    have hil : it < s.heap.objs.size := by obtain ⟨_, q, _⟩ := hit; exact Heap.lt_size q
    have hT0 : s.heap.IsTuple a its.toArray := p
    have hh1 : X.A.in1.handled = none := I.ok.hd hc
    refine wpAny_pyNext_enum_itemD (Draws.tuple (A := X.A.in1) hh1 it a ha its.toArray) (i := i) he ⟨hit, hT0⟩ (by simpa using (List.getElem?_eq_some_iff.mp hu).1) hne (by simp [hne, Ne.symm hae]) fun x' h' tk hP' ho st' hT hsz hk => ?_
    obtain ⟨hit', hT'⟩ := st'
    have ex : x' = u := by
      have : its.toArray[i]? = some x' := hP'
      rw [List.getElem?_toArray, hu] at this
      cases this
      rfl
    subst ex
    refine ⟨_, rfl, wpAny_letOwnedTupleGo_enum (s := { s with heap := h', toks := tk + 1 }) ho fun h'' he' sb => ?_⟩
    have hT2 : h''.get? s.heap.objs.size = some { cls := .type "tuple", data := .seq #[.int i tk, x'] } := (sb.2 _ (Nat.ne_of_gt hel)).trans hT
    have new : ObjOk X.prog X.w (upd H s.heap.objs.size (.tup [.int (i : Nat), x])) h'' s.heap.objs.size (.tup [.int (i : Nat), x]) :=
      ⟨by show 2 ≤ sizeLine; decide, [.int i tk, x'], .cons ⟨_, rfl⟩ (.cons ru .nil), ⟨_, hT2, rfl, _, rfl⟩⟩
    have I1 : Inv X pins σ (upd H s.heap.objs.size (.tup [.int (i : Nat), x])) { s with heap := h'', toks := tk + 1 } :=
      I.turnedNew (ch := [e, it]) (fun b ob hb q => (sb.2 b (fun z => hb (by simp [z]))).trans (hk b ob (fun z => hb (by simp [z])) (fun z => hb (by simp [z])) q)) hf (Nat.le_refl _) new
    refine ⟨.ref s.heap.objs.size, _, I1, rfl, ⟨_, x, rfl, I.hok.fresh (Nat.le_refl _), rfl, fun ys hy => by rw [I.tuple_inj hy hq]; exact hx⟩, ⟨⟨x', ?_⟩, hit'.at fun o q => (sb.2 it (Ne.symm hne)).trans q, hne⟩, fun b hb => ?_⟩
    · have e1 : ((i + 1 : Nat) : Int) = (i : Int) + 1 := by omega
      rw [e1]; exact he'
    · have hb' : b < s.heap.objs.size := by
        have e' : b = e ∨ b = it := by simpa using hb
        rcases e' with z | z
        · rw [z]; exact hel
        · rw [z]; exact hil
      rw [upd_ne (Nat.ne_of_lt hb')]
      exact (hf b hb).1
  done := by
    intro X hP hw hK hc i pins s σ H E I hf st hg
    subst hP hw hK
    obtain ⟨⟨old, he⟩, hit, hne⟩ := st
    obtain ⟨xs, hq, hx⟩ := hg
    obtain ⟨its, rv, p, hz⟩ := I.tuple hq
    obtain ⟨f0, f1, f2, f3, f4, f5⟩ := hf it (by simp)
    have hl := rv.length
    have hT0 : s.heap.IsTuple a its.toArray := p
    have hT : s.TypeIs (.ref e) "enumerate" := ⟨_, he, rfl⟩
    unfold pyNext
    refine wpAny_bind (wpAny_attempt (wpAny_callSpecial?_slot (name := Str.ofString "__next__") hT F.slot_enumerate_next
      (wpAny_call_entry F.slot_enumerate_next hT F.entry_enumerate_next ?_ (F.args_enumerate_next_1 _))))
    show wpAny _ _ (field (.ref e) 2 >>= _) _ _ _
    refine wpAny_bind (wpAny_field he rfl (x := .ref it) rfl ?_)
    refine wpAny_bind (wpAny_nextOf_tuple_end (I.ok.hd hc) hit hT0 (by simp; omega) fun h' x eb hx' => ?_)
    obtain ⟨o, ho, hc'⟩ := hx'
    refine wpAny_bind (wpAny_isInstance (T := "StopIteration") (b := true) ⟨o, ho, hc'⟩ isSubtype_stop ?_)
    exact wpAny_pure ⟨rfl, I.turned (t' := s.toks) (fun b o hb q => eb b o hb q) f0 f1 f3 f4 f5⟩
  self := fun A i s Q E st h => let ⟨⟨_, he⟩, _⟩ := st; wpAny_pyIter_enum he h
def enumD : Nat → List D → List D
  | _, [] => []
  | i, x :: r => .tup [.int (i : Nat), x] :: enumD (i + 1) r
theorem enumD_get : ∀ {xs : List D} {k i : Nat} {d : D}, (enumD k xs)[i]? = some d → ∃ x, xs[i]? = some x ∧ d = .tup [.int ((k + i : Nat) : Int), x]
  | [], _, _, _, e => by cases e
  | x :: r, k, 0, d, e => by
    cases e
    exact ⟨x, rfl, rfl⟩
  | x :: r, k, i + 1, d, e => by
    obtain ⟨y, h1, h2⟩ := enumD_get (xs := r) (k := k + 1) (i := i) (d := d) e
    exact ⟨y, h1, by rw [h2, show k + 1 + i = k + (i + 1) by omega]⟩
theorem enumD_len : ∀ (xs : List D) (k : Nat), (enumD k xs).length = xs.length
  | [], _ => rfl
  | _ :: r, k => congrArg (· + 1) (enumD_len r (k + 1))
theorem itOk_enT {K : PySem.W.Frag} {mg : Str → Option Value} {w : Wd} {a : Addr} {xs : List D} {us : List V} (qa : SqT K w.G a us) (ra : Reps K mg w xs us) : ItOk K mg w (IteT K a) (enumD 0 xs) where
  go := fun w' h' H' i d le L e => by
    obtain ⟨x, e1, rfl⟩ := enumD_get e
    obtain ⟨u, hu, ru⟩ := ra.get e1
    have s1 := ex_t L.ex (ex_t le.ex qa)
    refine ⟨⟨us, u, s1, hu⟩, fun z H'' hy => ?_⟩
    obtain ⟨T, x1, rfl, np, rfl, k1⟩ := hy
    have z1 := k1 us s1
    rw [hu] at z1
    cases z1
    obtain ⟨l1, l2, l3⟩ := L.lay np (.tup [.int (i : Nat), u])
    rw [Nat.zero_add]
    exact ⟨_, l2, l1, .tup (.inl upd_same) (.cons (.int _) (.cons ((ru.mono le).mono l3) .nil))⟩
  stop := fun w' h' H' i le L hl => by
    rw [enumD_len] at hl
    exact ⟨us, ex_t L.ex (ex_t le.ex qa), by rw [← ra.length]; omega⟩
theorem itOk_enL {K : PySem.W.Frag} {mg : Str → Option Value} {w : Wd} {a : Addr} {xs : List D} {us : List V} (qa : SqL K w.G a us) (ra : Reps K mg w xs us) : ItOk K mg w (Ite K a) (enumD 0 xs) where
  go := fun w' h' H' i d le L e => by
    obtain ⟨x, e1, rfl⟩ := enumD_get e
    obtain ⟨u, hu, ru⟩ := ra.get e1
    have s1 := ex_l L.ex (ex_l le.ex qa)
    refine ⟨⟨us, u, s1, hu⟩, fun z H'' hy => ?_⟩
    obtain ⟨T, x1, rfl, np, rfl, k1⟩ := hy
    have z1 := k1 us s1
    rw [hu] at z1
    cases z1
    obtain ⟨l1, l2, l3⟩ := L.lay np (.tup [.int (i : Nat), u])
    rw [Nat.zero_add]
    exact ⟨_, l2, l1, .tup (.inl upd_same) (.cons (.int _) (.cons ((ru.mono le).mono l3) .nil))⟩
  stop := fun w' h' H' i le L hl => by
    rw [enumD_len] at hl
    exact ⟨us, ex_l L.ex (ex_l le.ex qa), by rw [← ra.length]; omega⟩
def rangeC (lo c : Int) (n : Nat) : List D := (List.range n).map fun (k : Nat) => D.int (lo + (k : Int) * c)
theorem itOk_rangeC {K : PySem.W.Frag} {mg : Str → Option Value} {w : Wd} (lo c : Int) (n : Nat) : ItOk K mg w (Itc lo c n) (rangeC lo c n) where
  go := fun w' h' H' i d le L e => by
    unfold rangeC at e
    rw [List.getElem?_map] at e
    cases e1 : (List.range n)[i]? with
    | none => rw [e1] at e; cases e
    | some j =>
      rw [e1] at e
      cases e
      have hl : i < n := by simpa using (List.getElem?_eq_some_iff.mp e1).1
      have hj : j = i := by
        rw [List.getElem?_range hl] at e1
        cases e1; rfl
      subst hj
      refine ⟨hl, fun x H'' hy => ?_⟩
      obtain ⟨rfl, rfl⟩ := hy
      exact ⟨w', Step.refl _ _, L, .int _⟩
  stop := fun w' h' H' i le L hl => by
    unfold rangeC at hl
    rw [List.length_map, List.length_range] at hl
    exact hl
section
variable {ι : Type} {Z : Cz} {Y : ι → Cy} {W : WX}
end
end Pd

namespace Pd
open PySem L2 Evl
section
variable {ι : Type} {B : Cb} {N : List Str} {Y : ι → Cy} {W : WX}
end
def fnNone : Fn := fun _ _ => .bad
theorem Def.none {B : Cb} {x : Str} {n : Nat} {a : Addr} {fd : FuncData} {ps : List Str} (hm : B.mg x = some (.ref a)) (hk : PySem.W.keepIn B.K (.ref a) = true) (hb : Binds B.K fd ps []) : Def B 0 x n fnNone :=
  ⟨a, fd, ps, ⟨fun vs H Q E h => by
    obtain ⟨w, h0, as, el, L, r, hp⟩ := h
    exact hp.elim, fun A outer s H args us vs Q E _ _ _ _ h => by
    obtain ⟨w, h0, as, el, L, r, hp⟩ := h
    exact hp.elim⟩, hm, hk, hb⟩
end Pd

namespace Pd
open PySem L2 Evl
section
variable {K : PySem.W.Frag} {mg : Str → Option Value}
end
end Pd

namespace PySem
open Sem (wp)
open PyProof.Rows PySem.W
section
variable {prog : Program} {w : World} {A : Around} {E : Value → Shared → Prop} {s : Shared}
end
end PySem
namespace L2
open PySem PySem.Spec PyProof.Rows
section
variable {X : Cx} {pins : List (Addr × Obj)} {σ : St} {H : Hp} {s : Shared} {x y : V} {Q : VK}
end
end L2
namespace Pd
open PySem L2 Evl
section
variable {ι : Type} {Z : Cz} {Y : ι → Cy} {W : WX}
def signsD (x : Str) : List D := x.cps.toList.map fun c => D.str ⟨#[c]⟩
theorem itOk_str {K : PySem.W.Frag} {mg : Str → Option Value} {w : Wd} (x : Str) : ItOk K mg w (Its x) (signsD x) where
  go := fun w' h' H' i d le L e => by
    unfold signsD at e
    rw [List.getElem?_map] at e
    cases e1 : x.cps.toList[i]? with
    | none => rw [e1] at e; cases e
    | some c =>
      rw [e1] at e
      cases e
      have e2 : x.cps[i]? = some c := by rw [← Array.getElem?_toList]; exact e1
      refine ⟨(Array.getElem?_eq_some_iff.mp e2).1, fun v H'' hy => ?_⟩
      obtain ⟨rfl, c', h1, rfl⟩ := hy
      rw [e2] at h1
      cases h1
      exact ⟨w', Step.refl _ _, L, .str _⟩
  stop := fun w' h' H' i le L hl => by
    unfold signsD at hl
    rw [List.length_map, Array.length_toList] at hl
    exact hl
end
end Pd

namespace Pd
open PySem PySem.Spec PyProof.Rows L2 Evl
structure GenS2 (scope : Scope) (xa xb : Str) : Prop where
  kind : scope.kind = .function
  co : scope.isCoroutine = false
  cell : ∀ y ∈ scope.names, y.2 ≠ .cell
  dot : scope.names.lookup (".0" : Str) = some NameKind.local
  la : scope.names.lookup xa = some .local
  lb : scope.names.lookup xb = some .local
  ab : xa ≠ xb
  free : ∀ y ∈ scope.names, y.2 ≠ .free
section
variable {X : Cx} {pins : List (Addr × Obj)} {σ : L2.St} {H : Hp} {s : Shared}
end
end Pd

namespace Pd
open PySem PySem.Spec PyProof.Rows L2 LamX Evl NdefX
section
variable {K : PySem.W.Frag} {mg : Str → Option Value} {w w' : Wd} {h h' : Ph} {H H' : Hp}
end
section
variable {ι : Type} {B : Cb} {N : List Str} {Y : ι → Cy} {W : WX}
end
section
variable {ι : Type} {B : Cb} {N : List Str} {Y : ι → Cy} {W : WX}
end
end Pd

namespace Pd
open PySem L2 Evl
open PyProof.Rows (envOfC)
section
variable {K : PySem.W.Frag} {mg : Str → Option Value} {w : Wd} {h : Ph} {H : Hp}
end
section
variable {K : PySem.W.Frag} {mg : Str → Option Value} {W : WX}
end
section
variable {ι : Type} {Z : Cz} {Y : ι → Cy} {W : WX}
end
section
variable {K : PySem.W.Frag} {mg : Str → Option Value} {W : WX}
end
section
variable {X : Cx}
end
section
variable {ι : Type} {Z : Cz} {Y : ι → Cy} {W : WX}
end
end Pd

namespace Pd
open PySem L2 Evl
def IteF (K : PySem.W.Frag) (a : Addr) (k0 : Int) : It :=
  ⟨fun i H => ∃ (xs : List V) (x : V), SqL K H a xs ∧ xs[i]? = some x, fun i H v H' => ∃ T x, v = .ref T ∧ H T = none ∧ H' = upd H T (.tup [.int (k0 + (i : Nat)), x]) ∧ ∀ xs, SqL K H a xs → xs[i]? = some x, fun i H => ∃ xs : List V, SqL K H a xs ∧ xs.length ≤ i⟩
theorem turn_enumF {P : Program} {w : World} {K : PySem.W.Frag} {elts : List Expr} {kk : Nat} {tpos : Pos} (k0 : Int) (a e it : Addr) (ha : a ≠ it) (hae : a ≠ e) :
    Turn P w K (.Tuple elts kk tpos) (IteF K a k0) [e, it] e (fun i h => (∃ old, IsEnum h e it (k0 + ((i : Nat) : Int)) old) ∧ h.IsListIter it a i ∧ e ≠ it) where
  mem := by simp
  obj := fun i h st b hb => by
    obtain ⟨⟨old, he⟩, ⟨o, ho, hc, hd⟩, _⟩ := st
    have e' : b = e ∨ b = it := by simpa using hb
    rcases e' with z | z
    · rw [z]; exact ⟨_, he, fun v q => nomatch q⟩
    · rw [z]; exact ⟨o, ho, fun v q => by rw [hd] at q; cases q⟩
  keep := fun i h h' st k => let ⟨⟨old, he⟩, hi, hne⟩ := st; ⟨⟨old, k e (by simp) _ he⟩, hi.at fun o q => k it (by simp) o q, hne⟩
  item := by
    intro X hP hw hK hc i pins s σ H E I hf st hg
    subst hP hw hK
    obtain ⟨⟨old, he⟩, hit, hne⟩ := st
    obtain ⟨xs, x, hq, hx⟩ := hg
    obtain ⟨its, rv, p, hz⟩ := I.list hq
    obtain ⟨u, hu, ru⟩ := rv.get hx
    have hel : e < s.heap.objs.size := Heap.lt_size he
    have hil : it < s.heap.objs.size := by obtain ⟨_, q, _⟩ := hit; exact Heap.lt_size q
    have hh1 : X.A.in1.handled = none := I.ok.hd hc
    refine wpAny_pyNext_enum_itemC (Draws.list (A := X.A.in1) hh1 it a ha its.toArray) (i := i) he ⟨hit, p.isList⟩ (by simpa using (List.getElem?_eq_some_iff.mp hu).1) hne (by simp [hne, Ne.symm hae]) fun x' h' tk hP' ho st' hT hsz hk => ?_
    obtain ⟨hit', hT'⟩ := st'
    have ex : x' = u := by
      have : its.toArray[i]? = some x' := hP'
      rw [List.getElem?_toArray, hu] at this
      cases this
      rfl
    subst ex
    refine ⟨_, rfl, wpAny_letOwnedTupleGo_enum (s := { s with heap := h', toks := tk + 1 }) ho fun h'' he' sb => ?_⟩
    have hT2 : h''.get? s.heap.objs.size = some { cls := .type "tuple", data := .seq #[.int (k0 + ((i : Nat) : Int)) tk, x'] } := (sb.2 _ (Nat.ne_of_gt hel)).trans hT
    have new : ObjOk X.prog X.w (upd H s.heap.objs.size (.tup [.int (k0 + (i : Nat)), x])) h'' s.heap.objs.size (.tup [.int (k0 + (i : Nat)), x]) :=
      ⟨by show 2 ≤ sizeLine; decide, [.int (k0 + ((i : Nat) : Int)) tk, x'], .cons ⟨_, rfl⟩ (.cons ru .nil), ⟨_, hT2, rfl, _, rfl⟩⟩
    have I1 : Inv X pins σ (upd H s.heap.objs.size (.tup [.int (k0 + (i : Nat)), x])) { s with heap := h'', toks := tk + 1 } :=
      I.turnedNew (ch := [e, it]) (fun b ob hb q => (sb.2 b (fun z => hb (by simp [z]))).trans (hk b ob (fun z => hb (by simp [z])) (fun z => hb (by simp [z])) q)) hf (Nat.le_refl _) new
    refine ⟨.ref s.heap.objs.size, _, I1, rfl, ⟨_, x, rfl, I.hok.fresh (Nat.le_refl _), rfl, fun ys hy => by rw [I.list_inj hy hq]; exact hx⟩, ⟨⟨x', ?_⟩, hit'.at fun o q => (sb.2 it (Ne.symm hne)).trans q, hne⟩, fun b hb => ?_⟩
    · have e1 : k0 + ((i + 1 : Nat) : Int) = k0 + ((i : Nat) : Int) + 1 := by omega
      rw [e1]; exact he'
    · have hb' : b < s.heap.objs.size := by
        have e' : b = e ∨ b = it := by simpa using hb
        rcases e' with z | z
        · rw [z]; exact hel
        · rw [z]; exact hil
      rw [upd_ne (Nat.ne_of_lt hb')]
      exact (hf b hb).1
  done := by
    intro X hP hw hK hc i pins s σ H E I hf st hg
    subst hP hw hK
    obtain ⟨⟨old, he⟩, hit, hne⟩ := st
    obtain ⟨xs, hq, hx⟩ := hg
    obtain ⟨its, rv, p, hz⟩ := I.list hq
    obtain ⟨f0, f1, f2, f3, f4, f5⟩ := hf it (by simp)
    have hl := rv.length
    have hT : s.TypeIs (.ref e) "enumerate" := ⟨_, he, rfl⟩
    unfold pyNext
    refine wpAny_bind (wpAny_attempt (wpAny_callSpecial?_slot (name := Str.ofString "__next__") hT F.slot_enumerate_next
      (wpAny_call_entry F.slot_enumerate_next hT F.entry_enumerate_next ?_ (F.args_enumerate_next_1 _))))
    show wpAny _ _ (field (.ref e) 2 >>= _) _ _ _
    refine wpAny_bind (wpAny_field he rfl (x := .ref it) rfl ?_)
    refine wpAny_bind (wpAny_nextOf_list_end (I.ok.hd hc) hit p.isList (by simp; omega) fun h' x eb hx' => ?_)
    obtain ⟨o, ho, hc'⟩ := hx'
    refine wpAny_bind (wpAny_isInstance (T := "StopIteration") (b := true) ⟨o, ho, hc'⟩ isSubtype_stop ?_)
    exact wpAny_pure ⟨rfl, I.turned (t' := s.toks) (fun b o hb q => eb b o hb q) f0 f1 f3 f4 f5⟩
  self := fun A i s Q E st h => let ⟨⟨_, he⟩, _⟩ := st; wpAny_pyIter_enum he h
def enumI : Int → List D → List D
  | _, [] => []
  | i, x :: r => .tup [.int i, x] :: enumI (i + 1) r
theorem enumI_get : ∀ {xs : List D} {k : Int} {i : Nat} {d : D}, (enumI k xs)[i]? = some d → ∃ x, xs[i]? = some x ∧ d = .tup [.int (k + (i : Nat)), x]
  | [], _, _, _, e => by cases e
  | x :: r, k, 0, d, e => by
    cases e
    exact ⟨x, rfl, by simp⟩
  | x :: r, k, i + 1, d, e => by
    obtain ⟨y, h1, h2⟩ := enumI_get (xs := r) (k := k + 1) (i := i) (d := d) e
    exact ⟨y, h1, by rw [h2, show k + 1 + ((i : Nat) : Int) = k + ((i + 1 : Nat) : Int) by omega]⟩
theorem enumI_len : ∀ (xs : List D) (k : Int), (enumI k xs).length = xs.length
  | [], _ => rfl
  | _ :: r, k => congrArg (· + 1) (enumI_len r (k + 1))
theorem itOk_enF {K : PySem.W.Frag} {mg : Str → Option Value} {w : Wd} {a : Addr} {k0 : Int} {xs : List D} {us : List V} (qa : ∀ (w' : Wd) (h' : Ph) (H' : Hp), Le w w' → Lk K mg w' h' H' → SqL K H' a us) (ra : Reps K mg w xs us) : ItOk K mg w (IteF K a k0) (enumI k0 xs) where
  go := fun w' h' H' i d le L e => by
    obtain ⟨x, e1, rfl⟩ := enumI_get e
    obtain ⟨u, hu, ru⟩ := ra.get e1
    have s1 := qa w' h' H' le L
    refine ⟨⟨us, u, s1, hu⟩, fun z H'' hy => ?_⟩
    obtain ⟨T, x1, rfl, np, rfl, k1⟩ := hy
    have z1 := k1 us s1
    rw [hu] at z1
    cases z1
    obtain ⟨l1, l2, l3⟩ := L.lay np (.tup [.int (k0 + (i : Nat)), u])
    exact ⟨_, l2, l1, .tup (.inl upd_same) (.cons (.int _) (.cons ((ru.mono le).mono l3) .nil))⟩
  stop := fun w' h' H' i le L hl => by
    rw [enumI_len] at hl
    exact ⟨us, qa w' h' H' le L, by rw [← ra.length]; omega⟩
section
variable {ι : Type} {Z : Cz} {Y : ι → Cy} {W : WX}
end
end Pd

namespace Pd
open PySem PySem.Spec PyProof.Rows L2 LamX Evl
structure LenOk (B : Cb) (k c : Nat) (fn : Fn) : Prop where
  kl : Kls B.K B.mg c
  ex : ∃ g, PySem.W.findIn B.K (.ref (He.ga B.K (nm c))) "__len__" = some (some (.ref g)) ∧ PySem.W.isFn B.K (.ref g) = true ∧ L2.FnR B.P B.w B.K B.mg B.base (L2.CX B.P B.w) k g (spI B.K B.mg 1 fn)
section
variable {B : Cb} {k c : Nat} {fn : Fn}
end
end Pd

namespace Pd
open PySem PySem.Spec PyProof.Rows L2 Evl
theorem Un.more {fs ex : List Addr} {H H' : Hp} {h h' : Heap} (k : ∀ b u, h.get? b = some u → h'.get? b = some u) (same : ∀ b, ((∃ o, h.get? b = some o) ∨ H b ≠ none) → H' b = H b) : Un fs ex H H' h h' where
  keep := fun b u q _ _ _ => k b u q
  slot := fun b u q _ _ _ => ⟨u.slots, k b u q⟩
  free := fun b u q n _ => by rw [same b (.inl ⟨u, q⟩)]; exact n
  there := fun b u q _ => ⟨u, k b u q⟩
  tups := fun b xs q => by rw [same b (.inr (by rw [q]; simp))]; exact q
  frzs := fun b u xs q => by rw [same b (.inr (by rw [q]; simp))]; exact q
  tbls := fun b ps q => ⟨#[], by rw [same b (.inr (by rw [q]; simp)), q]; simp⟩
theorem HOk.more {P : Program} {w : World} {H H' : Hp} {h h' : Heap} (x : HOk P w H h) (k : ∀ b u, h.get? b = some u → h'.get? b = some u) (same : ∀ b, ((∃ o, h.get? b = some o) ∨ H b ≠ none) → H' b = H b) (new : ∀ b u, H' b = some u → H b = none → ObjOk P w H' h' b u) : HOk P w H' h' := fun b u e => by
  cases q : H b with
  | none => exact new b u e q
  | some v =>
    have e' := e
    rw [same b (.inr (by rw [q]; simp)), q] at e'
    cases e'
    exact (x b u q).stay (fun c v _ z => k c v z) (fun c z => by rw [same c (.inr (by rw [z]; simp))]; exact z) fun c xs z => by rw [same c (.inr (by rw [z]; simp))]; exact z
structure ZC where
  z : Addr
  TI : Addr
  TO : Addr
  i1 : Addr
  i2 : Addr
def ZC.l (c : ZC) : List Addr := [c.z, c.TI, c.TO, c.i1, c.i2]
def exZ (c : ZC) : HO := .ext fun h => IsZip h c.z c.TI c.TO .none
def exI (c : ZC) : HO := .ext fun h => IsPair h c.TI (.ref c.i1) (.ref c.i2)
def exO (c : ZC) : HO := .ext fun h => ∃ x y, IsPair h c.TO x y
def ex1 (c : ZC) (a : Addr) : HO := .ext fun h => h.IsListIter c.i1 a 0
def ex2 (c : ZC) (b : Addr) : HO := .ext fun h => h.IsListIter c.i2 b 0
structure ZipAt (H : Hp) (n : Nat) (c : ZC) (a b : Addr) : Prop where
  ap : ZipApart c.z c.TI c.TO c.i1 c.i2 a b
  young : ∀ x ∈ c.l, n ≤ x
  z : H c.z = some (exZ c)
  TI : H c.TI = some (exI c)
  TO : H c.TO = some (exO c)
  i1 : H c.i1 = some (ex1 c a)
  i2 : H c.i2 = some (ex2 c b)
section
variable {X : Cx}
end
section
variable {K : PySem.W.Frag} {mg : Str → Option Value} {W : WX}
end
section
variable {ι : Type} {Z : Cz} {Y : ι → Cy} {W : WX}
end
end Pd

namespace Pd
open PySem PySem.Spec PyProof.Rows L2 Evl
section
variable {K : PySem.W.Frag} {mg : Str → Option Value}
inductive RepP (K : PySem.W.Frag) (mg : Str → Option Value) (w : Wd) : List (D × D) → List (V × V) → Prop
  | nil : RepP K mg w [] []
  | cons {a b : D} {u v : V} {ds : List (D × D)} {vs : List (V × V)} : Rep K mg w a u → Rep K mg w b v → RepP K mg w ds vs → RepP K mg w ((a, b) :: ds) ((u, v) :: vs)
theorem RepP.mono {w w' : Wd} (l : Le w w') : ∀ {d : List (D × D)} {v : List (V × V)}, RepP K mg w d v → RepP K mg w' d v
  | _, _, .nil => .nil
  | _, _, .cons h1 h2 r => .cons (h1.mono l) (h2.mono l) (RepP.mono l r)
end
section
variable {ι : Type} {Z : Cz} {Y : ι → Cy} {W : WX}
inductive DIs (Z : Cz) (Y : ι → Cy) (W : WX) : List (Option Expr) → List Expr → List (SE × SE) → Prop
  | nil : DIs Z Y W [] [] []
  | cons {k v : Expr} {ks : List (Option Expr)} {vs : List Expr} {fk fv : SE} {r : List (SE × SE)} : EI Z Y W k fk → EI Z Y W v fv → DIs Z Y W ks vs r → DIs Z Y W (some k :: ks) (v :: vs) ((fk, fv) :: r)
theorem DIs.all {ks : List (Option Expr)} {vs : List Expr} {l : List (SE × SE)} (h : DIs Z Y W ks vs l) : ks.all (·.isSome) = true ∧ ks.length = vs.length := by
  induction h with
  | nil => exact ⟨rfl, rfl⟩
  | cons _ _ _ ih => exact ⟨by rw [List.all_cons, ih.1]; rfl, by rw [List.length_cons, List.length_cons, ih.2]⟩
end
section
variable {ι : Type} {B : Cb} {N : List Str} {Y : ι → Cy} {W : WX}
end
end Pd

namespace Pd
open PySem PySem.Spec PyProof.Rows L2 Evl
def RunE (K : PySem.W.Frag) (C : Addr) (sp : Sp) (E : XK) (a b : Addr) (xs ys : List V) (Q : VK) : List V → List V → Hp → Prop
  | [], [], H => Q (.bl true) H
  | x :: r, y :: s, H => ∃ p dx vs q C' dy ws, x = .ref p ∧ y = .ref q ∧ SlX.Slt H p C dx vs ∧ SlX.Slt H q C' dy ws ∧ PySem.W.notFirst K C (.ref C') = true ∧ r.length = s.length ∧ (p = q → RunE K C sp E a b xs ys Q r s H) ∧
    sp [x, y] H (fun v H' => v = .bl true ∧ H' a = some (.lst xs) ∧ H' b = some (.lst ys) ∧ RunE K C sp E a b xs ys Q r s H') E
  | _, _, _ => False
theorem RunE.len {K : PySem.W.Frag} {C : Addr} {sp : Sp} {E : XK} {a b : Addr} {xs ys : List V} {Q : VK} : ∀ {l m : List V} {H : Hp}, RunE K C sp E a b xs ys Q l m H → l.length = m.length
  | [], [], _, _ => rfl
  | _ :: r, _ :: s, _, h => by
    obtain ⟨_, _, _, _, _, _, _, _, _, _, _, _, e, _⟩ := h
    rw [List.length_cons, List.length_cons, e]
  | [], _ :: _, _, h => h.elim
  | _ :: _, [], _, h => h.elim
section
variable {B : Cb} {k c : Nat} {cs : List Nat} {fn : Fn} {r' : R2} {g : D → D → Ph → R D}
variable {N : List Str} {ι : Type} {Y : ι → Cy}
end
end Pd

namespace Pd
open PySem PySem.Spec PyProof.Rows L2 Evl
def ItT (a it : Addr) : HO := .ext fun h => h.IsTupleIter it a 0
section
variable {prog : Program} {w : World} {A : Around} {E : Value → Shared → Prop} {s : Shared}
end
def ItRun (P : Program) (w : World) (K : PySem.W.Frag) (mg : Str → Option Value) (base : Heap) (k : Nat) (C g : Addr) (i : Nat) : Prop :=
  ∀ (A : Around) (outer : List Env) (s : Shared) (H : Hp) (p dx a : Addr) (vs : List (Option V)) (xs : List V), Room k A → Env0 P w K mg base A outer s H → SlX.Slt H p C dx vs → vs[i]? = some (some (.ref a)) → SqT K H a xs →
    codeAny (model P w) A (.call (.ref g) ⟨[.ref p], []⟩) (CR (L2.CX P w) outer P w H s (fun v H' => ∃ it, v = .ref it ∧ s.heap.objs.size ≤ it ∧ H it = none ∧ H' = upd H it (ItT a it)) (fun _ _ _ => False)) s
structure IterOk (B : Cb) (k c i : Nat) : Prop where
  kl : Kls B.K B.mg c
  ex : ∃ g, PySem.W.findIn B.K (.ref (He.ga B.K (nm c))) "__iter__" = some (some (.ref g)) ∧ PySem.W.isFn B.K (.ref g) = true ∧ ItRun B.P B.w B.K B.mg B.base k (He.ga B.K (nm c)) g i
section
variable {B : Cb} {N : List Str} {ι : Type} {Y : ι → Cy} {W : WX}
end
end Pd

namespace Pd
open PySem PySem.Spec PyProof.Rows L2 Evl
theorem repK_keysK {K : PySem.W.Frag} {mg : Str → Option Value} {w : Wd} {κ : Type} {ds : List (κ × D)} {vs : List (κ × V)} (r : RepK K mg w ds vs) : vs.map (·.1) = ds.map (·.1) ∧ Reps K mg w (ds.map (·.2)) (vs.map (·.2)) := by
  induction r with
  | nil => exact ⟨rfl, .nil⟩
  | cons h _ ih => exact ⟨by rw [List.map_cons, List.map_cons, ih.1], .cons h ih.2⟩
theorem zip_partsK {α β : Type} : ∀ l : List (α × β), (l.map (·.1)).zip (l.map (·.2)) = l
  | [] => rfl
  | x :: r => by rw [List.map_cons, List.map_cons, List.zip_cons_cons, zip_partsK r]
section
variable {K : PySem.W.Frag} {mg : Str → Option Value} {w : Wd} {h : Ph} {H : Hp}
end
section
variable {ι : Type} {Z : Cz} {Y : ι → Cy} {W : WX}
end
section
variable {K : PySem.W.Frag} {mg : Str → Option Value}
end
def lkBack (r : R D) (h : Ph) : R D := match r with
  | .ok (.int z) _ => .ok (.int z) h
  | _ => .bad
section
variable {K : PySem.W.Frag} {mg : Str → Option Value} {w w' : Wd} {h h' : Ph} {H H' : Hp}
end
section
variable {ι : Type} {Z : Cz} {Y : ι → Cy} {W : WX}
end
end Pd

namespace Pd
open PySem PySem.Spec PyProof.Rows L2 Evl
def isPairO (o : Obj) : Bool := match o with
  | ⟨.type c, _, .seq its _, _⟩ => decide (c = "tuple") && (match its.toList with
    | [.int _ _, .int _ _] => true
    | _ => false)
  | _ => false
def faNoPair : FaX := fun K => K.all fun p => !isPairO p.2
structure NoPair (K : PySem.W.Frag) : Prop where
  no : ∀ (a : Addr) (o : Obj) (its : Array Value) (n : Nat) (x y : Int), K.lookup a = some o → o.cls = .type "tuple" → o.data = .seq its n → Vals [.int x, .int y] its.toList → False
theorem lookup_mem {α β : Type} [BEq α] [LawfulBEq α] {a : α} {b : β} : ∀ {l : List (α × β)}, l.lookup a = some b → (a, b) ∈ l
  | [], h => by cases h
  | (c, d) :: r, h => by
    rw [List.lookup_cons] at h
    cases q : a == c with
    | true =>
      rw [q] at h
      have e := beq_iff_eq.mp q
      subst e
      cases h
      exact List.mem_cons_self
    | false =>
      rw [q] at h
      exact List.mem_cons_of_mem _ (lookup_mem h)
theorem noPair_of {K : PySem.W.Frag} (h : faNoPair K = true) : NoPair K where
  no := fun a o its n x y lk hc hd rv => by
    have m := List.all_eq_true.mp h _ (lookup_mem lk)
    obtain ⟨oc, od, dt, sl⟩ := o
    simp only at hc hd
    subst hc hd
    generalize hl : its.toList = l at rv
    cases rv with
    | cons r1 rr =>
      cases rr with
      | cons r2 rr =>
        cases rr
        obtain ⟨t1, e1⟩ := r1
        obtain ⟨t2, e2⟩ := r2
        subst e1 e2
        have : isPairO ⟨.type "tuple", od, .seq its n, sl⟩ = true := by
          show (decide ("tuple" = "tuple") && (match its.toList with
            | [.int _ _, .int _ _] => true
            | _ => false)) = true
          rw [hl]
          rfl
        have m : (!isPairO ⟨.type "tuple", od, .seq its n, sl⟩) = true := m
        rw [this] at m
        cases m
def kPr (d : D) : Option (List Key) := match d with
  | .tup [.int a, .int b] => some [.inl a, .inl b]
  | _ => none
section
variable {K : PySem.W.Frag} {mg : Str → Option Value} {w : Wd} {h : Ph} {H : Hp}
theorem kPr_ok (np : NoPair K) (L : Lk K mg w h H) {d : D} {v : V} {k : List Key} (e : kPr d = some k) (r : Rep K mg w d v) : ∃ b, v = .ref b ∧ H b = some (.tup (k.map kV)) := by
  unfold kPr at e
  split at e
  · rename_i x y
    cases e
    cases r with
    | tup q rs =>
      obtain ⟨x1, y1, rfl, r1, r2⟩ := rs.two
      cases r1
      cases r2
      rcases q with q | ⟨o, its, n, lk, hc, hd, _, rv⟩
      · exact ⟨_, rfl, L.ex _ _ q⟩
      · exact (np.no _ o its n x y lk hc hd rv).elim
  · cases e
end
section
variable {ι : Type} {Z : Cz} {Y : ι → Cy} {W : WX}
end
section
variable {X : Cx}
end
end Pd

namespace Pd
open PySem PySem.Spec PyProof.Rows L2 Evl PySem.W
section
variable {prog : Program} {w : World} {A : Around} {E : Value → Shared → Prop} {s : Shared} {l : Addr} {its : List Value} {ns : List Int} {Q : Value → Shared → Prop}
end
section
variable {K : PySem.W.Frag} {mg : Str → Option Value}
end
section
variable {X : Cx} {pins : List (Addr × Obj)} {σ : L2.St} {H : Hp} {s : Shared} {a b : Addr} {v : V} {r : Value} {A : Around} {E : Value → Shared → Prop}
theorem d_sdef {Q : Value → Shared → Prop} {kvs : List (List Key × V)} {k : List Key} (hu : A.units + 1 < cLine) (I : Inv X pins σ H s) (e : H a = some (.dT kvs)) (eb : H b = some (.tup (k.map kV))) (l : valV kvs k = none → kvs.length < sizeLine) (rv : RelV v r)
    (h1 : ∀ x w' s', valV kvs k = some x → Inv X pins σ H s' → RelV x w' → Q w' s') (h2 : ∀ s', valV kvs k = none → Inv X pins σ (upd H a (.dT (putK kvs k v))) s' → Q r s') :
    wpAny (model X.prog X.w) A (call (.builtin "dict.setdefault") [.ref a, .ref b, r]) Q E s := by
  obtain ⟨z, hd, xs, rel, dd⟩ := dt_of I.hok e
  have hz : xs.length ≤ sizeLine := by rw [← Paired.length rel]; exact z
  have rk := KT.val rel k
  refine PySem.call_setdefault_heap (knd := tupleKind (mixKind X.prog X.w)) (tupleKind_room_in1 hu) (key_of I.hok eb) hd dd (fun p hp => ?_) (fun hn h' dd' hs => ?_) hz
  · rw [hp] at rk
    cases q : valV kvs k with
    | none => rw [q] at rk; exact (show False from rk).elim
    | some x =>
      rw [q] at rk
      exact h1 x _ _ q (I.tok _) rk
  · rw [hn] at rk
    cases q : valV kvs k with
    | some x => rw [q] at rk; exact (show False from rk).elim
    | none =>
      refine h2 _ q ?_
      have hl : (putK kvs k v).length ≤ sizeLine := by have := length_putK kvs k v; have := l q; omega
      obtain ⟨o, es, ep, hq, g2, g3, g4, _, g5⟩ := dd'
      refine d_write I (by rw [e]; exact True.intro) hs ⟨o, hq⟩ ⟨hl, hd, _, (rel.put k eb rv).keeps fun c ys ec => ?_, o, es, ep, hq, g2, g3, g4, g5⟩
      rw [upd_ne (ne_of ec e (fun z => nomatch z))]
      exact ec
end
def tDSet2 (td ty tx : TE) : TE := fun σ H Q => td σ H fun x H1 => ∃ a, x = .ref a ∧ IsD H1 a ∧ ty σ H1 fun y H2 => tx σ H2 fun z H3 => ∃ kvs k b, H3 a = some (.dT kvs) ∧ y = .ref b ∧ H3 b = some (.tup (k.map kV)) ∧ (valV kvs k = none → kvs.length < sizeLine) ∧
  (∀ v, valV kvs k = some v → Q v H3) ∧ (valV kvs k = none → Q z (upd H3 a (.dT (putK kvs k z))))
section
variable {X : Cx} {o e f : Expr} {apos cpos : Pos} {td ty tx : TE}
theorem pe_dsdef (hu : X.A.units + 1 < cLine) (ho : PE X o td) (he : PE X e ty) (hf : PE X f tx) (m : M2 X o "setdefault" apos e f cpos) : PE X (.Call (.Attribute o "setdefault" apos) [e, f] [] cpos) (tDSet2 td ty tx) := by
  refine ⟨fun pins s σ H Q I h => ?_⟩
  refine wpAny_Call_method m.base m.few m.line PySem.F.plainAttrs_dict PySem.F.slot_dict_setdefault PySem.F.type_dict_setdefault (thn (ho.run pins s σ H _ I h) fun u s1 ⟨x, H1, I1, rx, a, ex, d, q1⟩ => ?_)
  subst ex
  obtain rfl : u = Value.ref a := rx
  obtain ⟨t1, t2, _⟩ := isD_at I1 d
  refine ⟨t1, t2, ?_⟩
  rw [m.trees]
  refine Calls.callWith_builtin rfl (Calls.evalArgs_plain (Calls.spliced_cons (thn (he.run pins s1 σ H1 _ I1 q1) fun iv s2 ⟨y, H2, I2, ry, q2⟩ =>
    Calls.spliced_cons (thn (hf.run pins s2 σ H2 _ I2 q2) fun fv s3 ⟨z, H3, I3, rz, kvs, k, b, ea, ey, eb, l, q3, q4⟩ => Calls.spliced_nil ?_))))
  subst ey
  obtain rfl : iv = Value.ref b := ry
  exact d_sdef hu I3 ea eb l rz (fun x w' s4 hx I4 rw' => ⟨x, H3, I4, rw', q3 x hx⟩) fun s4 hx I4 => ⟨z, _, I4, rz, q4 hx⟩
end
def sNSetDef (fo fk fx : SE) : SE := fun e h => (fo e h).bind fun o h1 => R.opt (dtOf o h1) fun _ => (fk e h1).bind fun k h2 => (fx e h2).bind fun x h3 => R.opt (dtOf o h3) fun p => R.opt (kPr k) fun k => match valD p.2 k with
  | some y => .ok y h3
  | none => if p.2.length < mostL then .ok x (h3.set p.1 (.dT (putD p.2 k x))) else .bad
section
variable {ι : Type} {Z : Cz} {Y : ι → Cy} {W : WX}
theorem ei_nsdef {o a b : Expr} {fo fa fb : SE} {apos cpos : Pos} (np : NoPair Z.K) (hu : ∀ i, (Y i).A.units + 1 < cLine) (ho : EI Z Y W o fo) (ha : EI Z Y W a fa) (hb : EI Z Y W b fb) (m : ∀ i, M2 (cx Z (Y i)) o "setdefault" apos a b cpos := by intro _; exact ⟨rfl, rfl, rfl, rfl⟩) : EI Z Y W (.Call (.Attribute o "setdefault" apos) [a, b] [] cpos) (sNSetDef fo fa fb) := by
  obtain ⟨to, po, so⟩ := ho
  obtain ⟨ta, pa, sa⟩ := ha
  obtain ⟨tb, pb, sb⟩ := hb
  refine ⟨_, fun i => pe_dsdef (X := cx Z (Y i)) (hu i) (po i) (pa i) (pb i) (m i), fun σ e w h H Q E L hp => so σ e w h H _ E L (Po.bind (Rp := Rep Z.K Z.mg) hp fun o1 h1 w1 H1 x _ st1 L1 r1 hp1 => ?_)⟩
  obtain ⟨⟨n, kvs⟩, e1, hp1⟩ := Po.some hp1
  obtain ⟨ad, vs, rfl, rfl, q, q2, q3, rk⟩ := dtOf_ok L1 e1 r1
  refine ⟨ad, rfl, .inr ⟨vs, .inl q3⟩, sa σ e w1 h1 H1 _ (E.mono st1.le) L1 (Po.bind (Rp := Rep Z.K Z.mg) hp1 fun a1 h2 w2 H2 y _ st2 L2 r2 hp2 => sb σ e w2 h2 H2 _ (E.mono (st1.le.trans st2.le)) L2 (Po.bind (Rp := Rep Z.K Z.mg) hp2 fun b1 h3 w3 H3 z _ st3 L3 r3 hp3 => ?_))⟩
  obtain ⟨⟨n', kvs'⟩, e2, hp3⟩ := Po.some hp3
  obtain ⟨k, e3, hp3⟩ := Po.some hp3
  obtain ⟨ad', vs', e4, e5, qm, q2', q3', rk'⟩ := dtOf_ok L3 e2 (r1.mono (st2.le.trans st3.le))
  cases e5
  obtain ⟨b, rfl, hb⟩ := kPr_ok np L3 e3 (r2.mono st3.le)
  have hp3 : PoE Z.K Z.mg W σ w3 H3 (match valD kvs' k with | some y => R.ok y h3 | none => if kvs'.length < mostL then .ok b1 (h3.set n' (.dT (putD kvs' k b1))) else .bad) Q := hp3
  rcases rk'.val k with ⟨d', v, z1, z2, z3⟩ | ⟨z1, z2⟩
  · rw [z1] at hp3
    have hp3 : PoE Z.K Z.mg W σ w3 H3 (R.ok d' h3) Q := hp3
    cases e4
    refine ⟨vs', k, b, q3', rfl, hb, (fun hn => by rw [z2] at hn; cases hn), fun u hu => ?_, fun hn => ?_⟩
    · rw [z2] at hu
      cases hu
      exact Po.here L3 z3 hp3
    · rw [z2] at hn
      cases hn
  · rw [z1] at hp3
    have hp3 : PoE Z.K Z.mg W σ w3 H3 (if kvs'.length < mostL then .ok b1 (h3.set n' (.dT (putD kvs' k b1))) else .bad) Q := hp3
    by_cases hl : kvs'.length < mostL
    · rw [if_pos hl] at hp3
      cases e4
      obtain ⟨l5, s5⟩ := L3.put qm q2' (by intro z; cases z) (.dT (putD kvs' k b1)) (.dT (putK vs' k z)) (.dT (rk'.put r3 k))
      refine ⟨vs', k, b, q3', rfl, hb, fun _ => by rw [← rk'.length]; exact Nat.lt_of_lt_of_le hl (mostL_le (Nat.le_refl _)), fun v hv => ?_, fun _ => hp3 _ _ _ s5 l5 (r3.mono s5.le)⟩
      rw [z2] at hv
      cases hv
    · rw [if_neg hl] at hp3; exact hp3.elim
end
def lkEnvT (e : Pe) (i : Nat) (kvs : List (List Key × D)) : Pe := (e.map fun o => match o with
  | some d => (match d.bel 0 with
    | true => some d
    | false => none)
  | none => none).set i (some (.dcT (kvs.map (·.1)) (kvs.map (·.2))))
def sLkT (i : Nat) (f : SE) : SE := fun e h => match e[i]? with
  | some (some d) => R.opt (dtOf d h) fun p => match bel2 0 p.2 with
    | true => lkBack (f (lkEnvT e i p.2) []) h
    | false => .bad
  | _ => .bad
section
variable {K : PySem.W.Frag} {mg : Str → Option Value} {w w' : Wd} {h h' : Ph} {H H' : Hp}
theorem lk_backT (L : Lk K mg w h H) {n : Nat} {a : Addr} {kvs : List (List Key × D)} {vs : List (List Key × V)} {od : Obj} (q : w.ms[n]? = some a) (q2 : h[n]? = some (.dT kvs)) (rk : RepK K mg w kvs vs)
    (st : Step ⟨[], upd w.G a (.frz od (.dT vs))⟩ (upd H a (.frz od (.dT vs))) w' H') (L' : Lk K mg w' h' H') :
    ∃ w2, Step w H w2 (upd H' a (.dT vs)) ∧ Lk K mg w2 h (upd H' a (.dT vs)) := by
  have ga : w.G a = none := L.out n a _ q q2 (by intro z; cases z)
  have am : a ∈ w.ms := List.mem_of_getElem? q
  have fr : ∀ b o, b ≠ a → H b = some o → H' b = some o := fun b o nb e => st.frm b o (by rw [upd_ne nb]; exact e) (by simp)
  have gg : ∀ b, b ≠ a → H b ≠ Option.none → (∀ xs, H b ≠ some (.tup xs)) → w'.G b = w.G b := fun b nb e nt => by
    have := st.newG b (by rw [upd_ne nb]; exact e) (by simp) (by rw [upd_ne nb]; exact nt)
    rw [this]
    exact upd_ne nb
  have le : Le w ⟨w.ms, fun b => if b = a then none else w'.G b⟩ := ⟨⟨[], by simp⟩, fun b o e => by
    have nb : b ≠ a := fun z => by rw [z, ga] at e; cases e
    show (if b = a then none else w'.G b) = some o
    rw [if_neg nb]
    exact st.le.ex b o (by show upd w.G a _ b = some o; rw [upd_ne nb]; exact e)⟩
  refine ⟨⟨w.ms, fun b => if b = a then none else w'.G b⟩, ⟨le, fun b o e nm => ?_, fun b e => .inl e, fun b e nm nt => ?_⟩, ⟨fun b o e => ?_, L.len, fun m b o e1 e2 => ?_, L.inj, fun m b o e1 e2 e3 => ?_⟩⟩
  · have nb : b ≠ a := fun z => nm (z ▸ am)
    rw [upd_ne nb]
    exact fr b o nb e
  · have nb : b ≠ a := fun z => nm (z ▸ am)
    show (if b = a then none else w'.G b) = w.G b
    rw [if_neg nb]
    exact gg b nb e nt
  · have e : (if b = a then none else w'.G b) = some o := e
    by_cases nb : b = a
    · rw [if_pos nb] at e; cases e
    · rw [if_neg nb] at e
      rw [upd_ne nb]
      exact L'.ex b o e
  · by_cases nb : b = a
    · subst nb
      obtain rfl := L.inj m n b e1 q
      rw [q2] at e2
      cases e2
      exact ⟨_, upd_same, .dT (rk.mono le)⟩
    · obtain ⟨u, hu, r⟩ := L.obj m b o e1 e2
      exact ⟨u, by rw [upd_ne nb]; exact fr b u nb hu, r.mono le⟩
  · show (if b = a then none else w'.G b) = none
    by_cases nb : b = a
    · rw [if_pos nb]
    · rw [if_neg nb]
      obtain ⟨u, hu, r⟩ := L.obj m b o e1 e2
      rw [gg b nb (by rw [hu]; simp) (fun xs z => r.no_tup e3 xs (Option.some.inj (hu.symm.trans z)))]
      exact L.out m b o e1 e2 e3
theorem lk_envT {e : Pe} {σ : L2.St} {i : Nat} {a : Addr} {kvs : List (List Key × D)} {vs : List (List Key × V)} {od : Obj} (E : En K mg w e σ) (le : Le w ⟨w.ms, upd w.G a (.frz od (.dT vs))⟩) (rk : RepK K mg w kvs vs) (hb : bel2 0 kvs = true) (hs : σ[i]? = some (some (.ref a))) :
    En K mg ⟨[], upd w.G a (.frz od (.dT vs))⟩ (lkEnvT e i kvs) σ := by
  refine ⟨by unfold lkEnvT; rw [List.length_set, List.length_map]; exact E.len, fun j d hj => ?_⟩
  unfold lkEnvT at hj
  by_cases z : j = i
  · subst z
    rw [List.getElem?_set_self'] at hj
    have hd : d = .dcT (kvs.map (·.1)) (kvs.map (·.2)) := by
      cases q : (e.map fun o => match o with
        | some d => (match d.bel 0 with
          | true => some d
          | false => none)
        | none => none)[j]? with
      | none => rw [q] at hj; cases hj
      | some _ => rw [q] at hj; cases hj; rfl
    subst hd
    refine ⟨.ref a, hs, ?_⟩
    obtain ⟨k1, k2⟩ := repK_keysK (rk.mono le)
    have hb2 : D.bel.bels 0 (kvs.map (·.2)) = true := by
      clear k1 k2 rk hs hj
      induction kvs with
      | nil => rfl
      | cons p r ih =>
        unfold bel2 at hb
        rw [Bool.and_eq_true] at hb
        rw [List.map_cons]
        unfold D.bel.bels
        rw [hb.1, ih hb.2]; rfl
    refine .dcT (vs := vs.map (·.2)) (od := od) ?_ ?_ (k2.none hb2)
    · rw [← k1, zip_partsK]; exact upd_same
    · rw [← k1, List.length_map, List.length_map]
  · rw [List.getElem?_set_ne (Ne.symm z), List.getElem?_map] at hj
    cases q : e[j]? with
    | none => rw [q] at hj; cases hj
    | some o =>
      rw [q] at hj
      cases o with
      | none => cases hj
      | some d' =>
        cases qb : d'.bel 0 with
        | false => simp only [Option.map_some, qb] at hj; cases hj
        | true =>
          simp only [Option.map_some, qb] at hj
          cases hj
          obtain ⟨v, h1, h2⟩ := E.get j _ q
          exact ⟨v, h1, (h2.mono le).none qb⟩
end
section
variable {ι : Type} {Z : Cz} {Y : ι → Cy} {W : WX}
theorem ei_lkT {i : Nat} {a : Expr} {f : SE} (ha : EI Z Y W a f) : EI Z Y W a (sLkT i f) := by
  obtain ⟨t, pa, s⟩ := ha
  refine ⟨tLockE t, fun i => pe_lock (pa i), fun σ e w h H Q E L hp => ?_⟩
  unfold sLkT at hp
  cases q : e[i]? with
  | none => rw [q] at hp; exact hp.elim
  | some o =>
    rw [q] at hp
    cases o with
    | none => exact hp.elim
    | some d =>
      obtain ⟨v, hs, rv⟩ := E.get i d q
      have hp : PoE Z.K Z.mg W σ w H (R.opt (dtOf d h) fun p => match bel2 0 p.2 with
        | true => lkBack (f (lkEnvT e i p.2) []) h
        | false => .bad) Q := hp
      obtain ⟨⟨n, kvs⟩, e1, hq⟩ := Po.some hp
      clear hp
      obtain ⟨ad, vs, rfl, rfl, g1, g2, g3, rk⟩ := dtOf_ok L e1 rv
      have hq : PoE Z.K Z.mg W σ w H (match bel2 0 kvs with
        | true => lkBack (f (lkEnvT e i kvs) []) h
        | false => .bad) Q := hq
      cases hb : bel2 0 kvs with
      | false => rw [hb] at hq; exact hq.elim
      | true =>
        rw [hb] at hq
        have hq : PoE Z.K Z.mg W σ w H (lkBack (f (lkEnvT e i kvs) []) h) Q := hq
        refine ⟨ad, _, g3, trivial, fun od => ?_⟩
        obtain ⟨l1, l2, l3⟩ := L.pin (u := .frz od (.dT vs)) g1 g2 (by intro z; cases z)
        refine s σ (lkEnvT e i kvs) ⟨[], upd w.G ad (.frz od (.dT vs))⟩ [] _ _ (lk_envT E l3 rk hb hs) l1.none ?_
        cases z : f (lkEnvT e i kvs) [] with
        | bad => rw [z] at hq; exact hq.elim
        | exc c fs h' => rw [z] at hq; exact hq.elim
        | ok d2 h' =>
          rw [z] at hq
          intro w' H' v2 st L' r'
          refine ⟨L'.ex _ _ (st.le.ex _ _ upd_same), ?_⟩
          cases d2 with
          | int zz =>
            cases r'
            obtain ⟨w2, s2, k2⟩ := lk_backT L g1 g2 rk st L'
            exact hq w2 _ _ s2 k2 (.int zz)
          | _ => exact hq.elim
end
end Pd

namespace L15
open PySem L2 Evl Pd
open PyProof.Rows (envOfC)
def top (i : Nat) : Stmt := PySem.Challenge.pw_levelroads_k15_whole_rounds_and_rims.main.body.getD i (.Pass ⟨0, 0, 0, 0⟩)
abbrev s__law_roll : Stmt := top 55
abbrev s__law_pick : Stmt := top 56
abbrev s__law_level_drawn : Stmt := top 59
abbrev s__law_gcd : Stmt := top 58
abbrev s__law_told_pairs : Stmt := top 60
abbrev s__law_mixed : Stmt := top 57
abbrev s_is_whole : Stmt := top 13
abbrev s_is_level : Stmt := top 15
abbrev s_require_level : Stmt := top 37
abbrev s_is_integer : Stmt := top 14
abbrev s_is_residue_at : Stmt := top 32
abbrev s_common_of_pairs : Stmt := top 27
abbrev s_units_modulo : Stmt := top 29
abbrev s_least_pair : Stmt := top 31
abbrev s_do_tell : Stmt := top 30
abbrev s_is_pair_of : Stmt := top 33
abbrev s_require_pair : Stmt := top 34
abbrev s_common_of_rims : Stmt := top 38
abbrev s_second_row : Stmt := top 50
abbrev s_column_beside : Stmt := top 48
abbrev s_matrix_of : Stmt := top 51
abbrev s_pair_round : Stmt := top 52
abbrev s__law_lowest : Stmt := top 61
abbrev s__law_rim_told : Stmt := top 62
abbrev s__law_width : Stmt := top 63
abbrev s__law_own_round : Stmt := top 64
abbrev s_is_fraction : Stmt := top 40
abbrev s_require_fraction : Stmt := top 41
abbrev s_width_in : Stmt := top 46
abbrev s_width_of : Stmt := top 47
abbrev s_least_top : Stmt := top 42
abbrev s_rim_in : Stmt := top 43
abbrev s_rim_of : Stmt := top 45
abbrev s_require_positive : Stmt := top 22
abbrev s_require_factored : Stmt := top 21
abbrev s_powers_in : Stmt := top 19
abbrev s_divisors_in : Stmt := top 20
abbrev s_divisors : Stmt := top 23
abbrev s_require_count : Stmt := top 16
abbrev s_units_in : Stmt := top 24
abbrev s_count_units : Stmt := top 25
abbrev s_divisor_of : Stmt := top 17
abbrev s_common_divisor : Stmt := top 18
abbrev s_count_rims : Stmt := top 44
abbrev s__law_right : Stmt := top 65
abbrev s__law_dice : Stmt := top 54
abbrev s_law : Stmt := top 66
def e__law_roll : He.DefD := ⟨("_law_roll", none), "_law_roll", "_law_roll", defArgs s__law_roll, defBody s__law_roll, defScope s__law_roll, [], []⟩
def e__law_pick : He.DefD := ⟨("_law_pick", none), "_law_pick", "_law_pick", defArgs s__law_pick, defBody s__law_pick, defScope s__law_pick, [], []⟩
def e__law_level_drawn : He.DefD := ⟨("_law_level_drawn", none), "_law_level_drawn", "_law_level_drawn", defArgs s__law_level_drawn, defBody s__law_level_drawn, defScope s__law_level_drawn, [], []⟩
def e__law_gcd : He.DefD := ⟨("_law_gcd", none), "_law_gcd", "_law_gcd", defArgs s__law_gcd, defBody s__law_gcd, defScope s__law_gcd, [], []⟩
def e__law_told_pairs : He.DefD := ⟨("_law_told_pairs", none), "_law_told_pairs", "_law_told_pairs", defArgs s__law_told_pairs, defBody s__law_told_pairs, defScope s__law_told_pairs, [], []⟩
def e__law_mixed : He.DefD := ⟨("_law_mixed", none), "_law_mixed", "_law_mixed", defArgs s__law_mixed, defBody s__law_mixed, defScope s__law_mixed, [], []⟩
def e_is_whole : He.DefD := ⟨("is_whole", none), "is_whole", "is_whole", defArgs s_is_whole, defBody s_is_whole, defScope s_is_whole, [], []⟩
def e_is_level : He.DefD := ⟨("is_level", none), "is_level", "is_level", defArgs s_is_level, defBody s_is_level, defScope s_is_level, [], []⟩
def e_require_level : He.DefD := ⟨("require_level", none), "require_level", "require_level", defArgs s_require_level, defBody s_require_level, defScope s_require_level, [], []⟩
def e_is_integer : He.DefD := ⟨("is_integer", none), "is_integer", "is_integer", defArgs s_is_integer, defBody s_is_integer, defScope s_is_integer, [], []⟩
def e_is_residue_at : He.DefD := ⟨("is_residue_at", none), "is_residue_at", "is_residue_at", defArgs s_is_residue_at, defBody s_is_residue_at, defScope s_is_residue_at, [], []⟩
def e_common_of_pairs : He.DefD := ⟨("common_of_pairs", none), "common_of", "common_of", defArgs s_common_of_pairs, defBody s_common_of_pairs, defScope s_common_of_pairs, [], []⟩
def e_units_modulo : He.DefD := ⟨("units_modulo", none), "units_modulo", "units_modulo", defArgs s_units_modulo, defBody s_units_modulo, defScope s_units_modulo, [], []⟩
def e_least_pair : He.DefD := ⟨("least_pair", none), "least_pair", "least_pair", defArgs s_least_pair, defBody s_least_pair, defScope s_least_pair, [], []⟩
def e_do_tell : He.DefD := ⟨("do_tell", none), "do_tell", "do_tell", defArgs s_do_tell, defBody s_do_tell, defScope s_do_tell, [], []⟩
def e_is_pair_of : He.DefD := ⟨("is_pair_of", none), "is_pair_of", "is_pair_of", defArgs s_is_pair_of, defBody s_is_pair_of, defScope s_is_pair_of, [], []⟩
def e_require_pair : He.DefD := ⟨("require_pair", none), "require_pair", "require_pair", defArgs s_require_pair, defBody s_require_pair, defScope s_require_pair, [], []⟩
def e_common_of_rims : He.DefD := ⟨("common_of_rims", none), "common_of", "common_of", defArgs s_common_of_rims, defBody s_common_of_rims, defScope s_common_of_rims, [], []⟩
def e_second_row : He.DefD := ⟨("second_row", none), "second_row", "second_row", defArgs s_second_row, defBody s_second_row, defScope s_second_row, [], []⟩
def e_column_beside : He.DefD := ⟨("column_beside", none), "column_beside", "column_beside", defArgs s_column_beside, defBody s_column_beside, defScope s_column_beside, [], []⟩
def e_matrix_of : He.DefD := ⟨("matrix_of", none), "matrix_of", "matrix_of", defArgs s_matrix_of, defBody s_matrix_of, defScope s_matrix_of, [], []⟩
def e_pair_round : He.DefD := ⟨("pair_round", none), "pair_round", "pair_round", defArgs s_pair_round, defBody s_pair_round, defScope s_pair_round, [], []⟩
def e__law_lowest : He.DefD := ⟨("_law_lowest", none), "_law_lowest", "_law_lowest", defArgs s__law_lowest, defBody s__law_lowest, defScope s__law_lowest, [], []⟩
def e__law_rim_told : He.DefD := ⟨("_law_rim_told", none), "_law_rim_told", "_law_rim_told", defArgs s__law_rim_told, defBody s__law_rim_told, defScope s__law_rim_told, [], []⟩
def e__law_width : He.DefD := ⟨("_law_width", none), "_law_width", "_law_width", defArgs s__law_width, defBody s__law_width, defScope s__law_width, [], []⟩
def e__law_own_round : He.DefD := ⟨("_law_own_round", none), "_law_own_round", "_law_own_round", defArgs s__law_own_round, defBody s__law_own_round, defScope s__law_own_round, [], []⟩
def e_is_fraction : He.DefD := ⟨("is_fraction", none), "is_fraction", "is_fraction", defArgs s_is_fraction, defBody s_is_fraction, defScope s_is_fraction, [], []⟩
def e_require_fraction : He.DefD := ⟨("require_fraction", none), "require_fraction", "require_fraction", defArgs s_require_fraction, defBody s_require_fraction, defScope s_require_fraction, [], []⟩
def e_width_in : He.DefD := ⟨("width_in", none), "width_in", "width_in", defArgs s_width_in, defBody s_width_in, defScope s_width_in, [], []⟩
def e_width_of : He.DefD := ⟨("width_of", none), "width_of", "width_of", defArgs s_width_of, defBody s_width_of, defScope s_width_of, [], []⟩
def e_least_top : He.DefD := ⟨("least_top", none), "least_top", "least_top", defArgs s_least_top, defBody s_least_top, defScope s_least_top, [], []⟩
def e_rim_in : He.DefD := ⟨("rim_in", none), "rim_in", "rim_in", defArgs s_rim_in, defBody s_rim_in, defScope s_rim_in, [], []⟩
def e_rim_of : He.DefD := ⟨("rim_of", none), "rim_of", "rim_of", defArgs s_rim_of, defBody s_rim_of, defScope s_rim_of, [], []⟩
def e_require_positive : He.DefD := ⟨("require_positive", none), "require_positive", "require_positive", defArgs s_require_positive, defBody s_require_positive, defScope s_require_positive, [], []⟩
def e_require_factored : He.DefD := ⟨("require_factored", none), "require_factored", "require_factored", defArgs s_require_factored, defBody s_require_factored, defScope s_require_factored, [], []⟩
def e_powers_in : He.DefD := ⟨("powers_in", none), "powers_in", "powers_in", defArgs s_powers_in, defBody s_powers_in, defScope s_powers_in, [], []⟩
def e_divisors_in : He.DefD := ⟨("divisors_in", none), "divisors_in", "divisors_in", defArgs s_divisors_in, defBody s_divisors_in, defScope s_divisors_in, [], []⟩
def e_divisors : He.DefD := ⟨("divisors", none), "divisors", "divisors", defArgs s_divisors, defBody s_divisors, defScope s_divisors, [], []⟩
def e_require_count : He.DefD := ⟨("require_count", none), "require_count", "require_count", defArgs s_require_count, defBody s_require_count, defScope s_require_count, [], []⟩
def e_units_in : He.DefD := ⟨("units_in", none), "units_in", "units_in", defArgs s_units_in, defBody s_units_in, defScope s_units_in, [], []⟩
def e_count_units : He.DefD := ⟨("count_units", none), "count_units", "count_units", defArgs s_count_units, defBody s_count_units, defScope s_count_units, [], []⟩
def e_divisor_of : He.DefD := ⟨("divisor_of", none), "divisor_of", "divisor_of", defArgs s_divisor_of, defBody s_divisor_of, defScope s_divisor_of, [], []⟩
def e_common_divisor : He.DefD := ⟨("common_divisor", none), "common_divisor", "common_divisor", defArgs s_common_divisor, defBody s_common_divisor, defScope s_common_divisor, [], []⟩
def e_count_rims : He.DefD := ⟨("count_rims", none), "count_rims", "count_rims", defArgs s_count_rims, defBody s_count_rims, defScope s_count_rims, [], []⟩
def e__law_right : He.DefD := ⟨("_law_right", none), "_law_right", "_law_right", defArgs s__law_right, defBody s__law_right, defScope s__law_right, [], []⟩
def e__law_dice : He.DefD := ⟨("_law_dice", none), "_law_dice", "_law_dice", defArgs s__law_dice, defBody s__law_dice, defScope s__law_dice, [], []⟩
def e_law : He.DefD := ⟨("law", none), "law", "law", defArgs s_law, defBody s_law, defScope s_law, [], []⟩
def fn : List He.DefD := [e__law_roll, e__law_pick, e__law_level_drawn, e__law_gcd, e__law_told_pairs, e__law_mixed, e_is_whole, e_is_level, e_require_level, e_is_integer, e_is_residue_at, e_common_of_pairs, e_units_modulo, e_least_pair, e_do_tell, e_is_pair_of, e_require_pair, e_common_of_rims, e_second_row, e_column_beside, e_matrix_of, e_pair_round, e__law_lowest, e__law_rim_told, e__law_width, e__law_own_round, e_is_fraction, e_require_fraction, e_width_in, e_width_of, e_least_top, e_rim_in, e_rim_of, e_require_positive, e_require_factored, e_powers_in, e_divisors_in, e_divisors, e_require_count, e_units_in, e_count_units, e_divisor_of, e_common_divisor, e_count_rims, e__law_right, e__law_dice, e_law]
def fa_0 : FaX := fun K => (He.Fa.glo "_law_roll").ok K
def fa_1 : FaX := fun K => (He.Fa.glo "_law_pick").ok K
def fa_2 : FaX := fun K => (He.Fa.glo "_law_level_drawn").ok K
def fa_3 : FaX := fun K => (He.Fa.glo "_law_gcd").ok K
def fa_4 : FaX := fun K => (He.Fa.glo "_law_told_pairs").ok K
def fa_5 : FaX := fun K => (He.Fa.glo "_law_mixed").ok K
def fa_6 : FaX := fun K => (He.Fa.glo "is_whole").ok K
def fa_7 : FaX := fun K => (He.Fa.glo "is_level").ok K
def fa_8 : FaX := fun K => (He.Fa.glo "require_level").ok K
def fa_9 : FaX := fun K => (He.Fa.glo "is_integer").ok K
def fa_10 : FaX := fun K => (He.Fa.glo "is_residue_at").ok K
def fa_11 : FaX := fun K => (He.Fa.glo "common_of_pairs").ok K
def fa_12 : FaX := fun K => (He.Fa.glo "units_modulo").ok K
def fa_13 : FaX := fun K => (He.Fa.glo "least_pair").ok K
def fa_14 : FaX := fun K => (He.Fa.glo "do_tell").ok K
def fa_15 : FaX := fun K => (He.Fa.glo "is_pair_of").ok K
def fa_16 : FaX := fun K => (He.Fa.glo "require_pair").ok K
def fa_17 : FaX := fun K => (He.Fa.glo "common_of_rims").ok K
def fa_18 : FaX := fun K => (He.Fa.glo "second_row").ok K
def fa_19 : FaX := fun K => (He.Fa.glo "column_beside").ok K
def fa_20 : FaX := fun K => (He.Fa.glo "matrix_of").ok K
def fa_21 : FaX := fun K => (He.Fa.glo "pair_round").ok K
def fa_22 : FaX := fun K => (He.Fa.glo "_law_lowest").ok K
def fa_23 : FaX := fun K => (He.Fa.glo "_law_rim_told").ok K
def fa_24 : FaX := fun K => (He.Fa.glo "_law_width").ok K
def fa_25 : FaX := fun K => (He.Fa.glo "_law_own_round").ok K
def fa_26 : FaX := fun K => (He.Fa.glo "is_fraction").ok K
def fa_27 : FaX := fun K => (He.Fa.glo "require_fraction").ok K
def fa_28 : FaX := fun K => (He.Fa.glo "width_in").ok K
def fa_29 : FaX := fun K => (He.Fa.glo "width_of").ok K
def fa_30 : FaX := fun K => (He.Fa.glo "least_top").ok K
def fa_31 : FaX := fun K => (He.Fa.glo "rim_in").ok K
def fa_32 : FaX := fun K => (He.Fa.glo "rim_of").ok K
def fa_33 : FaX := fun K => (He.Fa.glo "require_positive").ok K
def fa_34 : FaX := fun K => (He.Fa.glo "require_factored").ok K
def fa_35 : FaX := fun K => (He.Fa.glo "powers_in").ok K
def fa_36 : FaX := fun K => (He.Fa.glo "divisors_in").ok K
def fa_37 : FaX := fun K => (He.Fa.glo "divisors").ok K
def fa_38 : FaX := fun K => (He.Fa.glo "require_count").ok K
def fa_39 : FaX := fun K => (He.Fa.glo "units_in").ok K
def fa_40 : FaX := fun K => (He.Fa.glo "count_units").ok K
def fa_41 : FaX := fun K => (He.Fa.glo "divisor_of").ok K
def fa_42 : FaX := fun K => (He.Fa.glo "common_divisor").ok K
def fa_43 : FaX := fun K => (He.Fa.glo "count_rims").ok K
def fa_44 : FaX := fun K => (He.Fa.glo "_law_right").ok K
def fa_45 : FaX := fun K => (He.Fa.glo "_law_dice").ok K
def fa_46 : FaX := fun K => (He.Fa.glo "law").ok K
def fa_47 : FaX := faNoPair
def fa_48 : FaX := fun K => (He.Fa.int "MAX_LEVEL" (100)).ok K
def fa_49 : FaX := fun K => (He.Fa.int "GREAT" (1000000000000000000000000000000000000000000000000000000000000)).ok K
def fa_50 : FaX := fun K => (He.Fa.int "MAX_PART" (100000000000000000000)).ok K
def fa_51 : FaX := fun K => (He.Fa.int "MAX_FACTORED" (1000000000)).ok K
def fa_52 : FaX := fun K => (He.Fa.int "MAX_MODULUS" (10000)).ok K
def fa_53 : FaX := fun K => (He.Fa.free "abs").ok K
def fa_54 : FaX := fun K => (He.Fa.free "all").ok K
def fa_55 : FaX := fun K => (He.Fa.free "bool").ok K
def fa_56 : FaX := fun K => (He.Fa.free "int").ok K
def fa_57 : FaX := fun K => (He.Fa.free "isinstance").ok K
def fa_58 : FaX := fun K => (He.Fa.free "len").ok K
def fa_59 : FaX := fun K => (He.Fa.free "list").ok K
def fa_60 : FaX := fun K => (He.Fa.free "max").ok K
def fa_61 : FaX := fun K => (He.Fa.free "min").ok K
def fa_62 : FaX := fun K => (He.Fa.free "range").ok K
def fa_63 : FaX := fun K => (He.Fa.free "set").ok K
def fa_64 : FaX := fun K => (He.Fa.free "sorted").ok K
def fa_65 : FaX := fun K => (He.Fa.free "sum").ok K
def fa_66 : FaX := fun K => (He.Fa.free "tuple").ok K
def fa : List FaX := [fa_0, fa_1, fa_2, fa_3, fa_4, fa_5, fa_6, fa_7, fa_8, fa_9, fa_10, fa_11, fa_12, fa_13, fa_14, fa_15, fa_16, fa_17, fa_18, fa_19, fa_20, fa_21, fa_22, fa_23, fa_24, fa_25, fa_26, fa_27, fa_28, fa_29, fa_30, fa_31, fa_32, fa_33, fa_34, fa_35, fa_36, fa_37, fa_38, fa_39, fa_40, fa_41, fa_42, fa_43, fa_44, fa_45, fa_46, fa_47, fa_48, fa_49, fa_50, fa_51, fa_52, fa_53, fa_54, fa_55, fa_56, fa_57, fa_58, fa_59, fa_60, fa_61, fa_62, fa_63, fa_64, fa_65, fa_66]
abbrev Rw : PySem.W.OpenRow := PySem.W.OpenLaw.row PySem.Challenge.rw_levelroads_k15_whole_rounds_and_rims
abbrev hk : PySem.W.Hook := hookX 4 fa fn
def ob (s : PySem.W.SharedT) : He.AlD := obsXG 4 fa fn (HandSHeadRun.getT s)
def loose : List PySem.Str := (["RoadError", "InvalidLevel", "InvalidPair", "InvalidFraction", "InvalidOperation", "InvalidCount", "TooMany", "MAX_LEVEL", "MAX_FACTORED", "MAX_MODULUS", "GREAT", "is_whole", "is_integer", "is_level", "require_count", "divisor_of"] : List PySem.Str) ++ (["common_divisor", "powers_in", "divisors_in", "require_factored", "require_positive", "divisors", "units_in", "count_units", "common_of", "common_of_pairs", "units_modulo", "do_tell", "least_pair", "is_residue_at", "is_pair_of", "require_pair"] : List PySem.Str) ++ (["MAX_PART", "require_level", "common_of_rims", "is_fraction", "require_fraction", "least_top", "rim_in", "count_rims", "rim_of", "width_in", "width_of", "column_beside", "second_row", "matrix_of", "pair_round", "_law_dice"] : List PySem.Str) ++ (["_law_roll", "_law_pick", "_law_mixed", "_law_gcd", "_law_level_drawn", "_law_told_pairs", "_law_lowest", "_law_rim_told", "_law_width", "_law_own_round", "_law_right"] : List PySem.Str)
set_option maxHeartbeats 0 in
theorem run (w : World) : HandSHeadRun.RunEq Rw (PySem.W.view Rw.prog [66]) hk ob 6000 loose w := by
  intro os
  kernel_rfl
end L15
namespace Pd
open PySem L2 Evl
section
variable {α β : Type} {a : α} {h : Ph} {e : Pe}
theorem R.toG_ok : (R.ok e h).toG = .nx e h := nr rfl
theorem F.seq_nx {k : Pe → Ph → F} : (F.nx e h).seq k = k e h := nr rfl
theorem F.end_nx : (F.nx e h).end = .ok .non h := nr rfl
theorem F.end_ret {d : D} : (F.ret d h).end = .ok d h := nr rfl
theorem br_true {x y : α} : br true x y = x := nr rfl
theorem br_false {x y : α} : br false x y = y := nr rfl
theorem Dbr {b : Bool} {x y : R α} : (D.bl b).br x y = Pd.br b x y := nr rfl
theorem Dneg {b : Bool} : (D.bl b).neg h = .ok (.bl (!b)) h := nr rfl
theorem Dtst {b : Bool} : (D.bl b).tst h = .ok b h := nr rfl
theorem br_ite {b : Bool} {x y : α} : br b x y = if b = true then x else y := by cases b <;> rfl
theorem it_bl {p : Prop} [Decidable p] {x y : Bool} : (if p then R.ok (D.bl x) h else R.ok (D.bl y) h) = R.ok (D.bl (if p then x else y)) h := by split <;> rfl
theorem it_and {b x : Bool} : (if b = true then x else false) = (b && x) := by cases b <;> rfl
theorem br_bl {b x y : Bool} : br b (R.ok (D.bl x) h) (R.ok (D.bl y) h) = R.ok (D.bl (br b x y)) h := by cases b <;> rfl
theorem br_and {b x : Bool} : br b x false = (b && x) := by cases b <;> rfl
end
structure Sm (k : Nat) (x : Int) : Prop where
  lt : x.natAbs < 2 ^ k
theorem Sm.mono {j k : Nat} {x : Int} (s : Sm j x) (h : j ≤ k) : Sm k x := ⟨Nat.lt_of_lt_of_le s.lt (Nat.pow_le_pow_right (by decide) h)⟩
theorem Sm.add {a b : Nat} {x y : Int} (s : Sm a x) (t : Sm b y) : Sm (a + b + 1) (x + y) := ⟨by
  have h1 := s.lt
  have h2 := t.lt
  have h3 : (2 : Nat) ^ a ≤ 2 ^ (a + b) := Nat.pow_le_pow_right (by decide) (by omega)
  have h4 : (2 : Nat) ^ b ≤ 2 ^ (a + b) := Nat.pow_le_pow_right (by decide) (by omega)
  have h5 : (2 : Nat) ^ (a + b + 1) = 2 * 2 ^ (a + b) := by rw [Nat.pow_succ]; omega
  omega⟩
theorem Sm.sub {a b : Nat} {x y : Int} (s : Sm a x) (t : Sm b y) : Sm (a + b + 1) (x - y) := ⟨by
  have h1 := s.lt
  have h2 := t.lt
  have h3 : (2 : Nat) ^ a ≤ 2 ^ (a + b) := Nat.pow_le_pow_right (by decide) (by omega)
  have h4 : (2 : Nat) ^ b ≤ 2 ^ (a + b) := Nat.pow_le_pow_right (by decide) (by omega)
  have h5 : (2 : Nat) ^ (a + b + 1) = 2 * 2 ^ (a + b) := by rw [Nat.pow_succ]; omega
  omega⟩
theorem Sm.neg {a : Nat} {x : Int} (s : Sm a x) : Sm a (-x) := ⟨by rw [Int.natAbs_neg]; exact s.lt⟩
theorem Sm.mul {a b : Nat} {x y : Int} (s : Sm a x) (t : Sm b y) : Sm (a + b) (x * y) := ⟨by
  rw [Int.natAbs_mul, Nat.pow_add]
  exact Nat.mul_lt_mul'' s.lt t.lt⟩
theorem log_lt {x k : Nat} (h : x < 2 ^ k) : x.log2 ≤ k := by
  by_cases h0 : x = 0
  · subst h0; simp
  · exact Nat.le_of_lt ((Nat.log2_lt h0).mpr h)
theorem Sm.lit {n : Nat} : Sm (n.log2 + 1) (@OfNat.ofNat Int n (@instOfNat n)) := ⟨by
  show ((n : Nat) : Int).natAbs < 2 ^ (n.log2 + 1)
  exact Nat.lt_log2_self⟩
def CM (i j : Int) : Prop := i.natAbs < 18446744073709551616 ∨ j.natAbs < 18446744073709551616 ∨ i.natAbs.log2 + j.natAbs.log2 < 1000000
theorem CM.of {i j : Int} {a b : Nat} (s : Sm a i) (t : Sm b j) (h : a + b < 1000000) : CM i j := by
  have h1 := log_lt s.lt
  have h2 := log_lt t.lt
  exact .inr (.inr (by omega))
theorem CM.left {i j : Int} (h : i.natAbs < 18446744073709551616) : CM i j := .inl h
theorem CM.right {i j : Int} (h : j.natAbs < 18446744073709551616) : CM i j := .inr (.inl h)
theorem dMul_cm {i j : Int} {h : Ph} (hs : CM i j) : dMul (.int i) (.int j) h = .ok (.int (i * j)) h := if_pos (c := i.natAbs < 18446744073709551616 ∨ j.natAbs < 18446744073709551616 ∨ i.natAbs.log2 + j.natAbs.log2 < 1000000) hs
theorem dAdd_int {i j : Int} {h : Ph} : dAdd (.int i) (.int j) h = .ok (.int (i + j)) h := rfl
theorem dSub_int {i j : Int} {h : Ph} : dSub (.int i) (.int j) h = .ok (.int (i - j)) h := rfl
theorem dLt_int {i j : Int} {h : Ph} : dLt (.int i) (.int j) h = .ok (.bl (decide (i < j))) h := rfl
theorem dLe_int {i j : Int} {h : Ph} : dLe (.int i) (.int j) h = .ok (.bl (decide (i ≤ j))) h := rfl
theorem dGt_int {i j : Int} {h : Ph} : dGt (.int i) (.int j) h = .ok (.bl (decide (j < i))) h := rfl
theorem dGe_int {i j : Int} {h : Ph} : dGe (.int i) (.int j) h = .ok (.bl (decide (j ≤ i))) h := rfl
theorem dMod_pos {i j : Int} {h : Ph} (hj : 0 < j) : dMod (.int i) (.int j) h = .ok (.int (i % j)) h := by
  show (if 0 < j then _ else _) = _
  rw [if_pos hj]
theorem dDiv_pos {i j : Int} {h : Ph} (hj : 0 < j) (hb : j.natAbs.log2 < 9000) : dDiv (.int i) (.int j) h = .ok (.int (i / j)) h := by
  show (if 0 < j then (if j.natAbs.log2 < 9000 then _ else _) else _) = _
  rw [if_pos hj, if_pos hb]
theorem dEq_int {i j : Int} {h : Ph} : dEq (.int i) (.int j) h = .ok (.bl (i == j)) h := rfl
theorem dNe_int {i j : Int} {h : Ph} : dNe (.int i) (.int j) h = .ok (.bl (!(i == j))) h := rfl
theorem dEq_bl {i j : Bool} {h : Ph} : dEq (.bl i) (.bl j) h = .ok (.bl (i == j)) h := rfl
theorem dNe_bl {i j : Bool} {h : Ph} : dNe (.bl i) (.bl j) h = .ok (.bl (!(i == j))) h := rfl
theorem sVar_at {i : Nat} {d : D} {e : Pe} {h : Ph} (he : e[i]? = some (some d)) : sVar i e h = .ok d h := by
  unfold sVar
  rw [he]
theorem opt_some {α γ : Type} (x : γ) (f : γ → R α) : R.opt (some x) f = f x := rfl
theorem dAbs_int {i : Int} {h : Ph} : dAbs (.int i) h = .ok (.int (if i < 0 then -i else i)) h := nr rfl
theorem dMax2_int {i j : Int} {h : Ph} : dMax2 (.int i) (.int j) h = .ok (.int (if j > i then j else i)) h := nr rfl
theorem dMin2_int {i j : Int} {h : Ph} : dMin2 (.int i) (.int j) h = .ok (.int (if j < i then j else i)) h := nr rfl
theorem dInt_int {i : Int} {h : Ph} : dInt (.int i) h = .ok (.int i) h := nr rfl
theorem dInt_bl {i : Bool} {h : Ph} : dInt (.bl i) h = .ok (.int (if i then 1 else 0)) h := nr rfl
end Pd

namespace Pd
open PySem L2 Evl
local macro_rules | `(tactic| walk_at "sm") => `(tactic| first | assumption | exact Sm.lit | exact Sm.mul (by walk_at "sm") (by walk_at "sm") | exact Sm.add (by walk_at "sm") (by walk_at "sm") | exact Sm.sub (by walk_at "sm") (by walk_at "sm") | exact Sm.neg (by walk_at "sm"))
local macro_rules | `(tactic| walk_at "cm") => `(tactic| ((with_reducible show CM _ _); first | assumption | exact CM.left (by decide) | exact CM.right (by decide) | exact CM.left (by omega) | exact CM.right (by omega) | exact CM.of (by walk_at "sm") (by walk_at "sm") (by decide)))
theorem mostL_def : mostL = 16777216 := rfl
theorem dIx_tup {xs : List D} {i : Int} {h : Ph} : dIx (.tup xs) (.int i) h = R.opt (atI xs i) fun v => .ok v h := rfl
theorem dIx_lst {xs : List D} {i : Int} {h : Ph} : dIx (.lst xs) (.int i) h = R.opt (atI xs i) fun v => .ok v h := rfl
theorem dIx_seq {xs : List D} {i : Int} {h : Ph} : dIx (.seq xs) (.int i) h = R.opt (atI xs i) fun v => .ok v h := rfl
theorem dIx_ref {xs : List D} {i : Int} {n : Nat} {h : Ph} (e : h[n]? = some (.lst xs)) : dIx (.ref n) (.int i) h = R.opt (atI xs i) fun v => .ok v h := by
  show R.opt (lstOf (.ref n) h) _ = _
  unfold lstOf
  simp only [e]
  rfl
theorem dLen_tup {xs : List D} {h : Ph} : dLen (.tup xs) h = .ok (.int xs.length) h := rfl
theorem dLen_lst {xs : List D} {h : Ph} : dLen (.lst xs) h = .ok (.int xs.length) h := rfl
theorem dLen_seq {xs : List D} {h : Ph} : dLen (.seq xs) h = .ok (.int xs.length) h := rfl
theorem atI_0 {α : Type} {a : α} {r : List α} : atI (a :: r) 0 = some a := atI_nat (j := 0) rfl
theorem atI_1 {α : Type} {a b : α} {r : List α} : atI (a :: b :: r) 1 = some b := atI_nat (j := 1) rfl
theorem atI_2 {α : Type} {a b c : α} {r : List α} : atI (a :: b :: c :: r) 2 = some c := atI_nat (j := 2) rfl
theorem atI_3 {α : Type} {a b c d : α} {r : List α} : atI (a :: b :: c :: d :: r) 3 = some d := atI_nat (j := 3) rfl
theorem setIx_ref {xs : List D} {i : Int} {j : Nat} {n : Nat} {h : Ph} {x : D} (e : h[n]? = some (.lst xs)) (hj : ixN xs.length i = some j) : setIx (.ref n) (.int i) x h = .ok () (h.set n (.lst (xs.set j x))) := by
  unfold setIx
  simp only [e, hj]
def f__law_dice : Fn := runDef 4 (sSeq (sAsg (sIf (sTst (sBin dLt (sVar 1) (sCall (g1 dLen) (sCons (sVar 0) (sNil))))) (sCall (g1 dInt) (sCons (sBin dIx (sVar 0) (sVar 1)) (sNil))) (sBin dAdd (sBin dMul (sC (.int 71)) (sVar 1)) (sC (.int 23)))) (gNm 2)) (sSeq (sAsg (sBin dMod (sCall (g2 dMax2) (sCons (sC (.int 0)) (sCons (sBin dSub (sCall (g1 dAbs) (sCons (sVar 2) (sNil))) (sC (.int (100000000000000000)))) (sNil)))) (sC (.int (100000000000000000000000000000000000000000000000000000000000000000000000000000000000000000000000000000000000000000000000)))) (gNm 3)) (sRet (sLstM (sCons (sVar 3) (sCons (sBin dAdd (sBin dAdd (sBin dAdd (sBin dMul (sBin dMod (sCall (g1 dAbs) (sCons (sVar 2) (sNil))) (sC (.int 1152921504606846883))) (sC (.int 61))) (sBin dMul (sC (.int 877)) (sVar 1))) (sBin dMul (sC (.int 37)) (sCall (g1 dInt) (sCons (sBin dLt (sVar 2) (sC (.int 0))) (sNil))))) (sC (.int 5))) (sCons (sC (.int 0)) (sNil))))))))
def f__law_roll : Fn := runDef 5 (sSeq (sIte (sTst (sBin dGt (sBin dIx (sVar 0) (sC (.int 0))) (sC (.int 0)))) (sSeq (sAsg (sBin dMod (sCall (g1 dInt) (sCons (sBin dIx (sVar 0) (sC (.int 0))) (sNil))) (sVar 1)) (gNm 4)) (sSeq (sSetL (sBin dDiv (sBin dIx (sVar 0) (sC (.int 0))) (sVar 1)) (sVar 0) (sC (.int 0))) (sRet (sVar 4)))) (sNx)) (sSeq (sSetL (sBin dAdd (sBin dIx (sVar 0) (sC (.int 2))) (sC (.int 1))) (sVar 0) (sC (.int 2))) (sSeq (sAsg (sBin dMod (sCall (g1 dInt) (sCons (sBin dAdd (sBin dIx (sVar 0) (sC (.int 1))) (sBin dMul (sC (.int 49979687)) (sBin dIx (sVar 0) (sC (.int 2))))) (sNil))) (sC (.int 2305843009213693921))) (gNm 2)) (sSeq (sAsg (sBin dAdd (sBin dMul (sBin dMod (sCall (g1 dInt) (sCons (sBin dAdd (sBin dMul (sVar 2) (sVar 2)) (sBin dMul (sC (.int 131)) (sBin dIx (sVar 0) (sC (.int 2))))) (sNil))) (sC (.int 2305843009213693907))) (sC (.int 7778777))) (sVar 2)) (gNm 3)) (sRet (sBin dMod (sCall (g1 dInt) (sCons (sBin dDiv (sVar 3) (sC (.int 131072))) (sNil))) (sVar 1)))))))
def f__law_pick : Fn := runDef 2 (sRet (sBin dIx (sVar 1) (sFn f__law_roll (sCons (sVar 0) (sCons (sCall (g1 dLen) (sCons (sVar 1) (sNil))) (sNil))))))
def f__law_gcd : Fn := runDef 2 (sSeq (sPar 0 1 (sCons (sCall (g1 dAbs) (sCons (sVar 0) (sNil))) (sCons (sCall (g1 dAbs) (sCons (sVar 1) (sNil))) (sNil)))) (sSeq (sWhile FU (sTst (sBin dGt (sVar 1) (sC (.int 0)))) (sPar 0 1 (sCons (sVar 1) (sCons (sBin dMod (sCall (g1 dInt) (sCons (sVar 0) (sNil))) (sVar 1)) (sNil))))) (sRet (sVar 0))))
def Dc (h : Ph) (n : Nat) : Prop := ∃ l m t : Int, h[n]? = some (.lst [.int l, .int m, .int t])
structure Dr (n : Nat) (h h' : Ph) : Prop where
  dc : Dc h' n
  len : h.length ≤ h'.length
  keep : ∀ k, k ≠ n → k < h.length → h'[k]? = h[k]?
theorem Dr.refl {n : Nat} {h : Ph} (d : Dc h n) : Dr n h h := ⟨d, Nat.le_refl _, fun _ _ _ => rfl⟩
theorem Dr.trans {n : Nat} {h h1 h2 : Ph} (a : Dr n h h1) (b : Dr n h1 h2) : Dr n h h2 := ⟨b.dc, Nat.le_trans a.len b.len, fun k hk hl => (b.keep k hk (Nat.lt_of_lt_of_le hl a.len)).trans (a.keep k hk hl)⟩
theorem Dr.push {n : Nat} {h h1 : Ph} (a : Dr n h h1) (o : PO) : Dr n h (h1 ++ [o]) := by
  refine ⟨?_, by rw [List.length_append]; have := a.len; omega, fun k hk hl => ?_⟩
  · obtain ⟨l, m, t, e⟩ := a.dc
    exact ⟨l, m, t, by rw [List.getElem?_append_left (List.getElem?_eq_some_iff.mp e).1]; exact e⟩
  · rw [List.getElem?_append_left (Nat.lt_of_lt_of_le hl a.len)]
    exact a.keep k hk hl
theorem Dr.set {n : Nat} {h : Ph} {l m t : Int} (hn : n < h.length) : Dr n h (h.set n (.lst [.int l, .int m, .int t])) :=
  ⟨⟨l, m, t, List.getElem?_set_self hn⟩, by rw [List.length_set]; exact Nat.le_refl _, fun k hk _ => List.getElem?_set_ne (Ne.symm hk)⟩
theorem dice_tail (d : D) (k c : Int) (h : Ph) : ∃ l m, (sSeq (sAsg (sBin dMod (sCall (g2 dMax2) (sCons (sC (.int 0)) (sCons (sBin dSub (sCall (g1 dAbs) (sCons (sVar 2) (sNil))) (sC (.int (100000000000000000)))) (sNil)))) (sC (.int (100000000000000000000000000000000000000000000000000000000000000000000000000000000000000000000000000000000000000000000000)))) (gNm 3)) (sRet (sLstM (sCons (sVar 3) (sCons (sBin dAdd (sBin dAdd (sBin dAdd (sBin dMul (sBin dMod (sCall (g1 dAbs) (sCons (sVar 2) (sNil))) (sC (.int 1152921504606846883))) (sC (.int 61))) (sBin dMul (sC (.int 877)) (sVar 1))) (sBin dMul (sC (.int 37)) (sCall (g1 dInt) (sCons (sBin dLt (sVar 2) (sC (.int 0))) (sNil))))) (sC (.int 5))) (sCons (sC (.int 0)) (sNil))))))) [some d, some (.int k), some (.int c), none] h = .ret (.ref h.length) (h ++ [.lst [.int l, .int m, .int 0]]) := by
  apply Exists.intro
  apply Exists.intro
  simp (maxSteps := 4000000) (dsimp := false) (disch := first | assumption | decide | omega | walk_at "cm") only [runDef_ap, sVar_ap, sC_ap, sBin_ap, sNeg_ap, sAnd_ap, sOr_ap, sNot_ap, sIf_ap, sTst_ap, qAnd_ap, qOr_ap, qNot_ap, qYes_ap, sChain_ap, sChain3_ap, sNil_ap, sCons_ap, sTup_ap, sLst_ap, sLstM_ap, sCall_ap, g1_ap, g2_ap, sFn_ap, sAsg_ap, gNm_ap, gTp_ap, gConsS_ap, gNilS_ap, sPar_ap, sPar3_ap, sRet_ap, sRetN_ap, sNx_ap, sBrk_ap, sCnt_ap, sSeq_ap, sIte_ap, sDrop_ap, sFrz_ap, sAug_ap, iRange1_ap, iRange2_ap, iSeq_ap, sFor_ap, sLc_ap, R.toG_ok, ↓R.bind_bnd, bnd_ok, ↓R.bd_bdn, bdn_ok, ↓R.toF_tof, tof_ok, ↓F.seq_sqn, sqn_nx, sqn_ret, sqn_cnt, sqn_brk, ↓F.turn_trn, trn_nx, trn_ret, trn_cnt, trn_brk, F.end_nx, F.end_ret, ↓br_true, br_true, ↓br_false, br_false, Dbr, Dneg, Dtst, opt_some, dAdd_int, dIAdd_int, dSub_int, dLt_int, dLe_int, dGt_int, dGe_int, dEq_int, dNe_int, dEq_bl, dNe_bl, dMul_cm, dMod_pos, dDiv_pos, dAbs_int, dMax2_int, dMin2_int, dInt_int, dInt_bl, dIx_tup, dIx_lst, dIx_seq, dLen_tup, dLen_lst, dLen_seq, atI_0, atI_1, atI_2, atI_3, List.map_cons, List.map_nil, List.length_cons, List.length_nil, List.replicate_succ, List.replicate_zero, List.cons_append, List.nil_append, List.getElem?_cons_zero, List.getElem?_cons_succ, List.set_cons_zero, List.set_cons_succ, Nat.reduceAdd, Nat.reduceSub, Nat.zero_add, Nat.add_zero, Nat.sub_self, Nat.reduceMul, mostL_def, Nat.reduceLeDiff, Nat.reduceLT, ite_true, ite_false, if_true, if_false, ↓reduceIte, reduceIte, ↓br_ite, Bool.false_eq_true, reduceCtorEq, Bool.not_true, Bool.not_false, decide_true, decide_false, Int.cast_ofNat_Int, Int.reduceBEq, Int.reduceAdd, Int.reduceSub, Int.reduceMul, Int.reduceNeg, Int.reduceLT, Int.reduceLE, Int.reduceMod, Int.reduceDiv, sMeth1_ap, sSl_ap, sRev_ap, oNo_ap, oPart_ap, sDict0_ap, sSetL_ap, sLc2_ap, sStar_ap, sDGet1_ap, sDGet2_ap, sPutD_ap, iItemsD_ap, iValsD_ap, iKeysD_ap, sDict0T_ap, sPutT_ap, sTGet1_ap, sFrzT_ap, iKeysT_ap]
  rfl
theorem dice_ok (ns : List Int) (k : Int) (hk : 0 ≤ k) (h : Ph) : ∃ l m, f__law_dice [.seq (ns.map D.int), .int k] h = .ok (.ref h.length) (h ++ [.lst [.int l, .int m, .int 0]]) := by
  have hc : ∃ c : Int, (sIf (sTst (sBin dLt (sVar 1) (sCall (g1 dLen) (sCons (sVar 0) (sNil))))) (sCall (g1 dInt) (sCons (sBin dIx (sVar 0) (sVar 1)) (sNil))) (sBin dAdd (sBin dMul (sC (.int 71)) (sVar 1)) (sC (.int 23)))) [some (.seq (ns.map D.int)), some (.int k), none, none] h = .ok (.int c) h := by
    obtain ⟨j, rfl⟩ := Int.eq_ofNat_of_zero_le hk
    by_cases hj : j < ns.length
    · have e : atI (ns.map D.int) (j : Int) = some (.int ns[j]) := atI_nat (by rw [List.getElem?_map]; simp [hj])
      have hlt : decide ((j : Int) < ((ns.map D.int).length : Int)) = true := decide_eq_true (by rw [List.length_map]; omega)
      refine ⟨ns[j], ?_⟩
      simp (maxSteps := 4000000) (dsimp := false) (disch := first | assumption | decide | omega | walk_at "cm") only [runDef_ap, sVar_ap, sC_ap, sBin_ap, sNeg_ap, sAnd_ap, sOr_ap, sNot_ap, sIf_ap, sTst_ap, qAnd_ap, qOr_ap, qNot_ap, qYes_ap, sChain_ap, sChain3_ap, sNil_ap, sCons_ap, sTup_ap, sLst_ap, sLstM_ap, sCall_ap, g1_ap, g2_ap, sFn_ap, sAsg_ap, gNm_ap, gTp_ap, gConsS_ap, gNilS_ap, sPar_ap, sPar3_ap, sRet_ap, sRetN_ap, sNx_ap, sBrk_ap, sCnt_ap, sSeq_ap, sIte_ap, sDrop_ap, sFrz_ap, sAug_ap, iRange1_ap, iRange2_ap, iSeq_ap, sFor_ap, sLc_ap, R.toG_ok, ↓R.bind_bnd, bnd_ok, ↓R.bd_bdn, bdn_ok, ↓R.toF_tof, tof_ok, ↓F.seq_sqn, sqn_nx, sqn_ret, sqn_cnt, sqn_brk, ↓F.turn_trn, trn_nx, trn_ret, trn_cnt, trn_brk, F.end_nx, F.end_ret, ↓br_true, br_true, ↓br_false, br_false, Dbr, Dneg, Dtst, opt_some, dAdd_int, dIAdd_int, dSub_int, dLt_int, dLe_int, dGt_int, dGe_int, dEq_int, dNe_int, dEq_bl, dNe_bl, dMul_cm, dMod_pos, dDiv_pos, dAbs_int, dMax2_int, dMin2_int, dInt_int, dInt_bl, dIx_tup, dIx_lst, dIx_seq, dLen_tup, dLen_lst, dLen_seq, atI_0, atI_1, atI_2, atI_3, List.map_cons, List.map_nil, List.length_cons, List.length_nil, List.replicate_succ, List.replicate_zero, List.cons_append, List.nil_append, List.getElem?_cons_zero, List.getElem?_cons_succ, List.set_cons_zero, List.set_cons_succ, Nat.reduceAdd, Nat.reduceSub, Nat.zero_add, Nat.add_zero, Nat.sub_self, Nat.reduceMul, mostL_def, Nat.reduceLeDiff, Nat.reduceLT, ite_true, ite_false, if_true, if_false, ↓reduceIte, reduceIte, ↓br_ite, Bool.false_eq_true, reduceCtorEq, Bool.not_true, Bool.not_false, decide_true, decide_false, Int.cast_ofNat_Int, Int.reduceBEq, Int.reduceAdd, Int.reduceSub, Int.reduceMul, Int.reduceNeg, Int.reduceLT, Int.reduceLE, Int.reduceMod, Int.reduceDiv, sMeth1_ap, sSl_ap, sRev_ap, oNo_ap, oPart_ap, sDict0_ap, sSetL_ap, sLc2_ap, sStar_ap, sDGet1_ap, sDGet2_ap, sPutD_ap, iItemsD_ap, iValsD_ap, iKeysD_ap, sDict0T_ap, sPutT_ap, sTGet1_ap, sFrzT_ap, iKeysT_ap, hlt, e]
    · have hlt : decide ((j : Int) < ((ns.map D.int).length : Int)) = false := decide_eq_false (by rw [List.length_map]; omega)
      refine ⟨71 * (j : Int) + 23, ?_⟩
      simp (maxSteps := 4000000) (dsimp := false) (disch := first | assumption | decide | omega | walk_at "cm") only [runDef_ap, sVar_ap, sC_ap, sBin_ap, sNeg_ap, sAnd_ap, sOr_ap, sNot_ap, sIf_ap, sTst_ap, qAnd_ap, qOr_ap, qNot_ap, qYes_ap, sChain_ap, sChain3_ap, sNil_ap, sCons_ap, sTup_ap, sLst_ap, sLstM_ap, sCall_ap, g1_ap, g2_ap, sFn_ap, sAsg_ap, gNm_ap, gTp_ap, gConsS_ap, gNilS_ap, sPar_ap, sPar3_ap, sRet_ap, sRetN_ap, sNx_ap, sBrk_ap, sCnt_ap, sSeq_ap, sIte_ap, sDrop_ap, sFrz_ap, sAug_ap, iRange1_ap, iRange2_ap, iSeq_ap, sFor_ap, sLc_ap, R.toG_ok, ↓R.bind_bnd, bnd_ok, ↓R.bd_bdn, bdn_ok, ↓R.toF_tof, tof_ok, ↓F.seq_sqn, sqn_nx, sqn_ret, sqn_cnt, sqn_brk, ↓F.turn_trn, trn_nx, trn_ret, trn_cnt, trn_brk, F.end_nx, F.end_ret, ↓br_true, br_true, ↓br_false, br_false, Dbr, Dneg, Dtst, opt_some, dAdd_int, dIAdd_int, dSub_int, dLt_int, dLe_int, dGt_int, dGe_int, dEq_int, dNe_int, dEq_bl, dNe_bl, dMul_cm, dMod_pos, dDiv_pos, dAbs_int, dMax2_int, dMin2_int, dInt_int, dInt_bl, dIx_tup, dIx_lst, dIx_seq, dLen_tup, dLen_lst, dLen_seq, atI_0, atI_1, atI_2, atI_3, List.map_cons, List.map_nil, List.length_cons, List.length_nil, List.replicate_succ, List.replicate_zero, List.cons_append, List.nil_append, List.getElem?_cons_zero, List.getElem?_cons_succ, List.set_cons_zero, List.set_cons_succ, Nat.reduceAdd, Nat.reduceSub, Nat.zero_add, Nat.add_zero, Nat.sub_self, Nat.reduceMul, mostL_def, Nat.reduceLeDiff, Nat.reduceLT, ite_true, ite_false, if_true, if_false, ↓reduceIte, reduceIte, ↓br_ite, Bool.false_eq_true, reduceCtorEq, Bool.not_true, Bool.not_false, decide_true, decide_false, Int.cast_ofNat_Int, Int.reduceBEq, Int.reduceAdd, Int.reduceSub, Int.reduceMul, Int.reduceNeg, Int.reduceLT, Int.reduceLE, Int.reduceMod, Int.reduceDiv, sMeth1_ap, sSl_ap, sRev_ap, oNo_ap, oPart_ap, sDict0_ap, sSetL_ap, sLc2_ap, sStar_ap, sDGet1_ap, sDGet2_ap, sPutD_ap, iItemsD_ap, iValsD_ap, iKeysD_ap, sDict0T_ap, sPutT_ap, sTGet1_ap, sFrzT_ap, iKeysT_ap, hlt]
  obtain ⟨c, hc⟩ := hc
  obtain ⟨l, m, ht⟩ := dice_tail (.seq (ns.map D.int)) k c h
  refine ⟨l, m, ?_⟩
  unfold f__law_dice runDef
  rw [sSeq, sAsg]
  show F.end (F.seq (R.toF (sIf _ _ _ [some (.seq (ns.map D.int)), some (.int k), none, none] h) _ _) _) = _
  rw [hc]
  exact congrArg F.end ht
theorem roll_ok {h : Ph} {n : Nat} {T : Int} (hd : Dc h n) (hT : 0 < T) (hb : T.natAbs.log2 < 9000) : ∃ v h', f__law_roll [.ref n, .int T] h = .ok (.int v) h' ∧ 0 ≤ v ∧ v < T ∧ Dr n h h' := by
  obtain ⟨l, m, t, e⟩ := hd
  have hn : n < h.length := (List.getElem?_eq_some_iff.mp e).1
  have q := fun i => dIx_ref (i := i) e
  by_cases hl : 0 < l
  · refine ⟨l % T, h.set n (.lst [.int (l / T), .int m, .int t]), ?_, Int.emod_nonneg _ (Int.ne_of_gt hT), Int.emod_lt_of_pos _ hT, Dr.set hn⟩
    have hs : ∀ x, setIx (.ref n) (.int 0) x h = .ok () (h.set n (.lst [x, .int m, .int t])) := fun x => setIx_ref (j := 0) e rfl
    have hl' : decide (0 < l) = true := decide_eq_true hl
    unfold f__law_roll
    simp (maxSteps := 4000000) (dsimp := false) (disch := first | assumption | decide | omega | walk_at "cm") only [runDef_ap, sVar_ap, sC_ap, sBin_ap, sNeg_ap, sAnd_ap, sOr_ap, sNot_ap, sIf_ap, sTst_ap, qAnd_ap, qOr_ap, qNot_ap, qYes_ap, sChain_ap, sChain3_ap, sNil_ap, sCons_ap, sTup_ap, sLst_ap, sLstM_ap, sCall_ap, g1_ap, g2_ap, sFn_ap, sAsg_ap, gNm_ap, gTp_ap, gConsS_ap, gNilS_ap, sPar_ap, sPar3_ap, sRet_ap, sRetN_ap, sNx_ap, sBrk_ap, sCnt_ap, sSeq_ap, sIte_ap, sDrop_ap, sFrz_ap, sAug_ap, iRange1_ap, iRange2_ap, iSeq_ap, sFor_ap, sLc_ap, R.toG_ok, ↓R.bind_bnd, bnd_ok, ↓R.bd_bdn, bdn_ok, ↓R.toF_tof, tof_ok, ↓F.seq_sqn, sqn_nx, sqn_ret, sqn_cnt, sqn_brk, ↓F.turn_trn, trn_nx, trn_ret, trn_cnt, trn_brk, F.end_nx, F.end_ret, ↓br_true, br_true, ↓br_false, br_false, Dbr, Dneg, Dtst, opt_some, dAdd_int, dIAdd_int, dSub_int, dLt_int, dLe_int, dGt_int, dGe_int, dEq_int, dNe_int, dEq_bl, dNe_bl, dMul_cm, dMod_pos, dDiv_pos, dAbs_int, dMax2_int, dMin2_int, dInt_int, dInt_bl, dIx_tup, dIx_lst, dIx_seq, dLen_tup, dLen_lst, dLen_seq, atI_0, atI_1, atI_2, atI_3, List.map_cons, List.map_nil, List.length_cons, List.length_nil, List.replicate_succ, List.replicate_zero, List.cons_append, List.nil_append, List.getElem?_cons_zero, List.getElem?_cons_succ, List.set_cons_zero, List.set_cons_succ, Nat.reduceAdd, Nat.reduceSub, Nat.zero_add, Nat.add_zero, Nat.sub_self, Nat.reduceMul, mostL_def, Nat.reduceLeDiff, Nat.reduceLT, ite_true, ite_false, if_true, if_false, ↓reduceIte, reduceIte, ↓br_ite, Bool.false_eq_true, reduceCtorEq, Bool.not_true, Bool.not_false, decide_true, decide_false, Int.cast_ofNat_Int, Int.reduceBEq, Int.reduceAdd, Int.reduceSub, Int.reduceMul, Int.reduceNeg, Int.reduceLT, Int.reduceLE, Int.reduceMod, Int.reduceDiv, sMeth1_ap, sSl_ap, sRev_ap, oNo_ap, oPart_ap, sDict0_ap, sSetL_ap, sLc2_ap, sStar_ap, sDGet1_ap, sDGet2_ap, sPutD_ap, iItemsD_ap, iValsD_ap, iKeysD_ap, sDict0T_ap, sPutT_ap, sTGet1_ap, sFrzT_ap, iKeysT_ap, q, hl', sSetL_ap, hs]
  · have hl' : decide (0 < l) = false := decide_eq_false hl
    have e2 : (h.set n (.lst [.int l, .int m, .int (t + 1)]))[n]? = some (.lst [.int l, .int m, .int (t + 1)]) := List.getElem?_set_self hn
    have q2 := fun i => dIx_ref (i := i) e2
    have hs : ∀ x, setIx (.ref n) (.int 2) x h = .ok () (h.set n (.lst [.int l, .int m, x])) := fun x => setIx_ref (j := 2) e rfl
    generalize ho : (m + 49979687 * (t + 1)) % 2305843009213693921 = one
    have ho1 : 0 ≤ one := by omega
    have ho2 : one < 2305843009213693921 := by omega
    have c1 : CM one one := .inl (by omega)
    have c2 : CM ((one * one + 131 * (t + 1)) % 2305843009213693907) 7778777 := CM.right (by decide)
    refine ⟨((one * one + 131 * (t + 1)) % 2305843009213693907 * 7778777 + one) / 131072 % T, h.set n (.lst [.int l, .int m, .int (t + 1)]), ?_, Int.emod_nonneg _ (Int.ne_of_gt hT), Int.emod_lt_of_pos _ hT, Dr.set hn⟩
    unfold f__law_roll
    simp (maxSteps := 4000000) (dsimp := false) (disch := first | assumption | decide | omega | walk_at "cm") only [runDef_ap, sVar_ap, sC_ap, sBin_ap, sNeg_ap, sAnd_ap, sOr_ap, sNot_ap, sIf_ap, sTst_ap, qAnd_ap, qOr_ap, qNot_ap, qYes_ap, sChain_ap, sChain3_ap, sNil_ap, sCons_ap, sTup_ap, sLst_ap, sLstM_ap, sCall_ap, g1_ap, g2_ap, sFn_ap, sAsg_ap, gNm_ap, gTp_ap, gConsS_ap, gNilS_ap, sPar_ap, sPar3_ap, sRet_ap, sRetN_ap, sNx_ap, sBrk_ap, sCnt_ap, sSeq_ap, sIte_ap, sDrop_ap, sFrz_ap, sAug_ap, iRange1_ap, iRange2_ap, iSeq_ap, sFor_ap, sLc_ap, R.toG_ok, ↓R.bind_bnd, bnd_ok, ↓R.bd_bdn, bdn_ok, ↓R.toF_tof, tof_ok, ↓F.seq_sqn, sqn_nx, sqn_ret, sqn_cnt, sqn_brk, ↓F.turn_trn, trn_nx, trn_ret, trn_cnt, trn_brk, F.end_nx, F.end_ret, ↓br_true, br_true, ↓br_false, br_false, Dbr, Dneg, Dtst, opt_some, dAdd_int, dIAdd_int, dSub_int, dLt_int, dLe_int, dGt_int, dGe_int, dEq_int, dNe_int, dEq_bl, dNe_bl, dMul_cm, dMod_pos, dDiv_pos, dAbs_int, dMax2_int, dMin2_int, dInt_int, dInt_bl, dIx_tup, dIx_lst, dIx_seq, dLen_tup, dLen_lst, dLen_seq, atI_0, atI_1, atI_2, atI_3, List.map_cons, List.map_nil, List.length_cons, List.length_nil, List.replicate_succ, List.replicate_zero, List.cons_append, List.nil_append, List.getElem?_cons_zero, List.getElem?_cons_succ, List.set_cons_zero, List.set_cons_succ, Nat.reduceAdd, Nat.reduceSub, Nat.zero_add, Nat.add_zero, Nat.sub_self, Nat.reduceMul, mostL_def, Nat.reduceLeDiff, Nat.reduceLT, ite_true, ite_false, if_true, if_false, ↓reduceIte, reduceIte, ↓br_ite, Bool.false_eq_true, reduceCtorEq, Bool.not_true, Bool.not_false, decide_true, decide_false, Int.cast_ofNat_Int, Int.reduceBEq, Int.reduceAdd, Int.reduceSub, Int.reduceMul, Int.reduceNeg, Int.reduceLT, Int.reduceLE, Int.reduceMod, Int.reduceDiv, sMeth1_ap, sSl_ap, sRev_ap, oNo_ap, oPart_ap, sDict0_ap, sSetL_ap, sLc2_ap, sStar_ap, sDGet1_ap, sDGet2_ap, sPutD_ap, iItemsD_ap, iValsD_ap, iKeysD_ap, sDict0T_ap, sPutT_ap, sTGet1_ap, sFrzT_ap, iKeysT_ap, q, hl', sSetL_ap, hs, q2, ho, c1, c2]

theorem pick_ok {h : Ph} {n : Nat} {xs : List D} (hd : Dc h n) (h0 : xs ≠ []) (hl : xs.length < 1000000) : ∃ d h', f__law_pick [.ref n, .lst xs] h = .ok d h' ∧ d ∈ xs ∧ Dr n h h' := by
  have hpos : 0 < xs.length := List.length_pos_iff.mpr h0
  obtain ⟨v, h', e, v0, v1, dr⟩ := roll_ok (T := (xs.length : Int)) hd (by omega) (Nat.lt_of_le_of_lt (log_lt (k := 20) (by simp; omega)) (by decide))
  obtain ⟨j, rfl⟩ := Int.eq_ofNat_of_zero_le v0
  have hj : j < xs.length := by omega
  refine ⟨xs[j], h', ?_, List.getElem_mem hj, dr⟩
  have ha : atI xs (j : Int) = some xs[j] := atI_nat (by simp [hj])
  unfold f__law_pick
  simp (maxSteps := 4000000) (dsimp := false) (disch := first | assumption | decide | omega | walk_at "cm") only [runDef_ap, sVar_ap, sC_ap, sBin_ap, sNeg_ap, sAnd_ap, sOr_ap, sNot_ap, sIf_ap, sTst_ap, qAnd_ap, qOr_ap, qNot_ap, qYes_ap, sChain_ap, sChain3_ap, sNil_ap, sCons_ap, sTup_ap, sLst_ap, sLstM_ap, sCall_ap, g1_ap, g2_ap, sFn_ap, sAsg_ap, gNm_ap, gTp_ap, gConsS_ap, gNilS_ap, sPar_ap, sPar3_ap, sRet_ap, sRetN_ap, sNx_ap, sBrk_ap, sCnt_ap, sSeq_ap, sIte_ap, sDrop_ap, sFrz_ap, sAug_ap, iRange1_ap, iRange2_ap, iSeq_ap, sFor_ap, sLc_ap, R.toG_ok, ↓R.bind_bnd, bnd_ok, ↓R.bd_bdn, bdn_ok, ↓R.toF_tof, tof_ok, ↓F.seq_sqn, sqn_nx, sqn_ret, sqn_cnt, sqn_brk, ↓F.turn_trn, trn_nx, trn_ret, trn_cnt, trn_brk, F.end_nx, F.end_ret, ↓br_true, br_true, ↓br_false, br_false, Dbr, Dneg, Dtst, opt_some, dAdd_int, dIAdd_int, dSub_int, dLt_int, dLe_int, dGt_int, dGe_int, dEq_int, dNe_int, dEq_bl, dNe_bl, dMul_cm, dMod_pos, dDiv_pos, dAbs_int, dMax2_int, dMin2_int, dInt_int, dInt_bl, dIx_tup, dIx_lst, dIx_seq, dLen_tup, dLen_lst, dLen_seq, atI_0, atI_1, atI_2, atI_3, List.map_cons, List.map_nil, List.length_cons, List.length_nil, List.replicate_succ, List.replicate_zero, List.cons_append, List.nil_append, List.getElem?_cons_zero, List.getElem?_cons_succ, List.set_cons_zero, List.set_cons_succ, Nat.reduceAdd, Nat.reduceSub, Nat.zero_add, Nat.add_zero, Nat.sub_self, Nat.reduceMul, mostL_def, Nat.reduceLeDiff, Nat.reduceLT, ite_true, ite_false, if_true, if_false, ↓reduceIte, reduceIte, ↓br_ite, Bool.false_eq_true, reduceCtorEq, Bool.not_true, Bool.not_false, decide_true, decide_false, Int.cast_ofNat_Int, Int.reduceBEq, Int.reduceAdd, Int.reduceSub, Int.reduceMul, Int.reduceNeg, Int.reduceLT, Int.reduceLE, Int.reduceMod, Int.reduceDiv, sMeth1_ap, sSl_ap, sRev_ap, oNo_ap, oPart_ap, sDict0_ap, sSetL_ap, sLc2_ap, sStar_ap, sDGet1_ap, sDGet2_ap, sPutD_ap, iItemsD_ap, iValsD_ap, iKeysD_ap, sDict0T_ap, sPutT_ap, sTGet1_ap, sFrzT_ap, iKeysT_ap, e, ha]
theorem gcd_mod {a b : Int} (ha : 0 ≤ a) (hb : 0 ≤ b) : Int.gcd b (a % b) = Int.gcd a b := by
  obtain ⟨m, rfl⟩ := Int.eq_ofNat_of_zero_le ha
  obtain ⟨n, rfl⟩ := Int.eq_ofNat_of_zero_le hb
  rw [← Int.natCast_emod]
  show Nat.gcd n (m % n) = Nat.gcd m n
  rw [Nat.gcd_comm m n, Nat.gcd_rec n m, Nat.gcd_comm]
theorem gcd_loop (c : ST) (hc : ∀ (a b : Int) (h : Ph), 0 ≤ a → 0 ≤ b → c [some (.int a), some (.int b)] h = .ok (decide (0 < b)) h)
    (f : SS) (hf : ∀ (a b : Int) (h : Ph), 0 ≤ a → 0 < b → f [some (.int a), some (.int b)] h = .nx [some (.int b), some (.int (a % b))] h) :
    ∀ (k : Nat) (a b : Int) (h : Ph) (N : Nat), 0 ≤ a → 0 ≤ b → b.toNat ≤ k → k < N → sWhile N c f [some (.int a), some (.int b)] h = .nx [some (.int (Int.gcd a b)), some (.int 0)] h := by
  intro k
  induction k with
  | zero =>
    intro a b h N ha hb hk hN
    obtain ⟨N, rfl⟩ : ∃ M, N = M + 1 := ⟨N - 1, by omega⟩
    have : b = 0 := by omega
    subst this
    unfold sWhile
    rw [hc a 0 h ha (by omega), Int.gcd_zero_right]
    show F.nx [some (.int a), some (.int 0)] h = _
    rw [show ((a.natAbs : Nat) : Int) = a by omega]
  | succ k ih =>
    intro a b h N ha hb hk hN
    obtain ⟨N, rfl⟩ : ∃ M, N = M + 1 := ⟨N - 1, by omega⟩
    by_cases h0 : b = 0
    · subst h0
      unfold sWhile
      rw [hc a 0 h ha (by omega), Int.gcd_zero_right]
      show F.nx [some (.int a), some (.int 0)] h = _
      rw [show ((a.natAbs : Nat) : Int) = a by omega]
    · have hb0 : 0 < b := by omega
      unfold sWhile
      rw [hc a b h ha hb, decide_eq_true hb0]
      show (f [some (.int a), some (.int b)] h).turn _ = _
      rw [hf a b h ha hb0]
      show sWhile N c f [some (.int b), some (.int (a % b))] h = _
      have m0 := Int.emod_nonneg a (Int.ne_of_gt hb0)
      have m1 := Int.emod_lt_of_pos a hb0
      rw [ih b (a % b) h N hb m0 (by omega) (by omega)]
      rw [gcd_mod ha hb]
theorem gcd_cond (a b : Int) (h : Ph) : sTst (sBin dGt (sVar 1) (sC (.int 0))) [some (.int a), some (.int b)] h = .ok (decide (0 < b)) h := by
  simp (maxSteps := 4000000) (dsimp := false) (disch := first | assumption | decide | omega | walk_at "cm") only [runDef_ap, sVar_ap, sC_ap, sBin_ap, sNeg_ap, sAnd_ap, sOr_ap, sNot_ap, sIf_ap, sTst_ap, qAnd_ap, qOr_ap, qNot_ap, qYes_ap, sChain_ap, sChain3_ap, sNil_ap, sCons_ap, sTup_ap, sLst_ap, sLstM_ap, sCall_ap, g1_ap, g2_ap, sFn_ap, sAsg_ap, gNm_ap, gTp_ap, gConsS_ap, gNilS_ap, sPar_ap, sPar3_ap, sRet_ap, sRetN_ap, sNx_ap, sBrk_ap, sCnt_ap, sSeq_ap, sIte_ap, sDrop_ap, sFrz_ap, sAug_ap, iRange1_ap, iRange2_ap, iSeq_ap, sFor_ap, sLc_ap, R.toG_ok, ↓R.bind_bnd, bnd_ok, ↓R.bd_bdn, bdn_ok, ↓R.toF_tof, tof_ok, ↓F.seq_sqn, sqn_nx, sqn_ret, sqn_cnt, sqn_brk, ↓F.turn_trn, trn_nx, trn_ret, trn_cnt, trn_brk, F.end_nx, F.end_ret, ↓br_true, br_true, ↓br_false, br_false, Dbr, Dneg, Dtst, opt_some, dAdd_int, dIAdd_int, dSub_int, dLt_int, dLe_int, dGt_int, dGe_int, dEq_int, dNe_int, dEq_bl, dNe_bl, dMul_cm, dMod_pos, dDiv_pos, dAbs_int, dMax2_int, dMin2_int, dInt_int, dInt_bl, dIx_tup, dIx_lst, dIx_seq, dLen_tup, dLen_lst, dLen_seq, atI_0, atI_1, atI_2, atI_3, List.map_cons, List.map_nil, List.length_cons, List.length_nil, List.replicate_succ, List.replicate_zero, List.cons_append, List.nil_append, List.getElem?_cons_zero, List.getElem?_cons_succ, List.set_cons_zero, List.set_cons_succ, Nat.reduceAdd, Nat.reduceSub, Nat.zero_add, Nat.add_zero, Nat.sub_self, Nat.reduceMul, mostL_def, Nat.reduceLeDiff, Nat.reduceLT, ite_true, ite_false, if_true, if_false, ↓reduceIte, reduceIte, ↓br_ite, Bool.false_eq_true, reduceCtorEq, Bool.not_true, Bool.not_false, decide_true, decide_false, Int.cast_ofNat_Int, Int.reduceBEq, Int.reduceAdd, Int.reduceSub, Int.reduceMul, Int.reduceNeg, Int.reduceLT, Int.reduceLE, Int.reduceMod, Int.reduceDiv, sMeth1_ap, sSl_ap, sRev_ap, oNo_ap, oPart_ap, sDict0_ap, sSetL_ap, sLc2_ap, sStar_ap, sDGet1_ap, sDGet2_ap, sPutD_ap, iItemsD_ap, iValsD_ap, iKeysD_ap, sDict0T_ap, sPutT_ap, sTGet1_ap, sFrzT_ap, iKeysT_ap]
theorem gcd_step (a b : Int) (h : Ph) (hb : 0 < b) : sPar 0 1 (sCons (sVar 1) (sCons (sBin dMod (sCall (g1 dInt) (sCons (sVar 0) (sNil))) (sVar 1)) (sNil))) [some (.int a), some (.int b)] h = .nx [some (.int b), some (.int (a % b))] h := by
  simp (maxSteps := 4000000) (dsimp := false) (disch := first | assumption | decide | omega | walk_at "cm") only [runDef_ap, sVar_ap, sC_ap, sBin_ap, sNeg_ap, sAnd_ap, sOr_ap, sNot_ap, sIf_ap, sTst_ap, qAnd_ap, qOr_ap, qNot_ap, qYes_ap, sChain_ap, sChain3_ap, sNil_ap, sCons_ap, sTup_ap, sLst_ap, sLstM_ap, sCall_ap, g1_ap, g2_ap, sFn_ap, sAsg_ap, gNm_ap, gTp_ap, gConsS_ap, gNilS_ap, sPar_ap, sPar3_ap, sRet_ap, sRetN_ap, sNx_ap, sBrk_ap, sCnt_ap, sSeq_ap, sIte_ap, sDrop_ap, sFrz_ap, sAug_ap, iRange1_ap, iRange2_ap, iSeq_ap, sFor_ap, sLc_ap, R.toG_ok, ↓R.bind_bnd, bnd_ok, ↓R.bd_bdn, bdn_ok, ↓R.toF_tof, tof_ok, ↓F.seq_sqn, sqn_nx, sqn_ret, sqn_cnt, sqn_brk, ↓F.turn_trn, trn_nx, trn_ret, trn_cnt, trn_brk, F.end_nx, F.end_ret, ↓br_true, br_true, ↓br_false, br_false, Dbr, Dneg, Dtst, opt_some, dAdd_int, dIAdd_int, dSub_int, dLt_int, dLe_int, dGt_int, dGe_int, dEq_int, dNe_int, dEq_bl, dNe_bl, dMul_cm, dMod_pos, dDiv_pos, dAbs_int, dMax2_int, dMin2_int, dInt_int, dInt_bl, dIx_tup, dIx_lst, dIx_seq, dLen_tup, dLen_lst, dLen_seq, atI_0, atI_1, atI_2, atI_3, List.map_cons, List.map_nil, List.length_cons, List.length_nil, List.replicate_succ, List.replicate_zero, List.cons_append, List.nil_append, List.getElem?_cons_zero, List.getElem?_cons_succ, List.set_cons_zero, List.set_cons_succ, Nat.reduceAdd, Nat.reduceSub, Nat.zero_add, Nat.add_zero, Nat.sub_self, Nat.reduceMul, mostL_def, Nat.reduceLeDiff, Nat.reduceLT, ite_true, ite_false, if_true, if_false, ↓reduceIte, reduceIte, ↓br_ite, Bool.false_eq_true, reduceCtorEq, Bool.not_true, Bool.not_false, decide_true, decide_false, Int.cast_ofNat_Int, Int.reduceBEq, Int.reduceAdd, Int.reduceSub, Int.reduceMul, Int.reduceNeg, Int.reduceLT, Int.reduceLE, Int.reduceMod, Int.reduceDiv, sMeth1_ap, sSl_ap, sRev_ap, oNo_ap, oPart_ap, sDict0_ap, sSetL_ap, sLc2_ap, sStar_ap, sDGet1_ap, sDGet2_ap, sPutD_ap, iItemsD_ap, iValsD_ap, iKeysD_ap, sDict0T_ap, sPutT_ap, sTGet1_ap, sFrzT_ap, iKeysT_ap]
theorem gcd_abs (a b : Int) : Int.gcd (if a < 0 then -a else a) (if b < 0 then -b else b) = Int.gcd a b := by
  split <;> split <;> simp
theorem gcdL_ok (a b : Int) (h : Ph) (hb : b.natAbs + 1 < FU) : f__law_gcd [.int a, .int b] h = .ok (.int (Int.gcd a b)) h := by
  generalize hF : FU = N at hb
  have e := gcd_loop _ (fun a b h _ _ => gcd_cond a b h) _ (fun a b h _ hb => gcd_step a b h hb)
    b.natAbs (if a < 0 then -a else a) (if b < 0 then -b else b) h N (by split <;> omega) (by split <;> omega) (by split <;> omega) (by omega)
  rw [gcd_abs] at e
  unfold f__law_gcd
  rw [hF]
  simp (maxSteps := 4000000) (dsimp := false) (disch := first | assumption | decide | omega | walk_at "cm") only [runDef_ap, sVar_ap, sC_ap, sBin_ap, sNeg_ap, sAnd_ap, sOr_ap, sNot_ap, sIf_ap, sTst_ap, qAnd_ap, qOr_ap, qNot_ap, qYes_ap, sChain_ap, sChain3_ap, sNil_ap, sCons_ap, sTup_ap, sLst_ap, sLstM_ap, sCall_ap, g1_ap, g2_ap, sFn_ap, sAsg_ap, gNm_ap, gTp_ap, gConsS_ap, gNilS_ap, sPar_ap, sPar3_ap, sRet_ap, sRetN_ap, sNx_ap, sBrk_ap, sCnt_ap, sSeq_ap, sIte_ap, sDrop_ap, sFrz_ap, sAug_ap, iRange1_ap, iRange2_ap, iSeq_ap, sFor_ap, sLc_ap, R.toG_ok, ↓R.bind_bnd, bnd_ok, ↓R.bd_bdn, bdn_ok, ↓R.toF_tof, tof_ok, ↓F.seq_sqn, sqn_nx, sqn_ret, sqn_cnt, sqn_brk, ↓F.turn_trn, trn_nx, trn_ret, trn_cnt, trn_brk, F.end_nx, F.end_ret, ↓br_true, br_true, ↓br_false, br_false, Dbr, Dneg, Dtst, opt_some, dAdd_int, dIAdd_int, dSub_int, dLt_int, dLe_int, dGt_int, dGe_int, dEq_int, dNe_int, dEq_bl, dNe_bl, dMul_cm, dMod_pos, dDiv_pos, dAbs_int, dMax2_int, dMin2_int, dInt_int, dInt_bl, dIx_tup, dIx_lst, dIx_seq, dLen_tup, dLen_lst, dLen_seq, atI_0, atI_1, atI_2, atI_3, List.map_cons, List.map_nil, List.length_cons, List.length_nil, List.replicate_succ, List.replicate_zero, List.cons_append, List.nil_append, List.getElem?_cons_zero, List.getElem?_cons_succ, List.set_cons_zero, List.set_cons_succ, Nat.reduceAdd, Nat.reduceSub, Nat.zero_add, Nat.add_zero, Nat.sub_self, Nat.reduceMul, mostL_def, Nat.reduceLeDiff, Nat.reduceLT, ite_true, ite_false, if_true, if_false, ↓reduceIte, reduceIte, ↓br_ite, Bool.false_eq_true, reduceCtorEq, Bool.not_true, Bool.not_false, decide_true, decide_false, Int.cast_ofNat_Int, Int.reduceBEq, Int.reduceAdd, Int.reduceSub, Int.reduceMul, Int.reduceNeg, Int.reduceLT, Int.reduceLE, Int.reduceMod, Int.reduceDiv, sMeth1_ap, sSl_ap, sRev_ap, oNo_ap, oPart_ap, sDict0_ap, sSetL_ap, sLc2_ap, sStar_ap, sDGet1_ap, sDGet2_ap, sPutD_ap, iItemsD_ap, iValsD_ap, iKeysD_ap, sDict0T_ap, sPutT_ap, sTGet1_ap, sFrzT_ap, iKeysT_ap, e]
end Pd

namespace Pd
open PySem L2 Evl
local macro_rules | `(tactic| simp_arith only [$xs,*]) => `(tactic| simp (maxSteps := 4000000) (dsimp := false) (disch := first | assumption | decide | omega | walk_at "cm") only [runDef_ap, sVar_ap, sC_ap, sBin_ap, sNeg_ap, sAnd_ap, sOr_ap, sNot_ap, sIf_ap, sTst_ap, qAnd_ap, qOr_ap, qNot_ap, qYes_ap, sChain_ap, sChain3_ap, sNil_ap, sCons_ap, sTup_ap, sLst_ap, sLstM_ap, sCall_ap, g1_ap, g2_ap, sFn_ap, sAsg_ap, gNm_ap, gTp_ap, gConsS_ap, gNilS_ap, sPar_ap, sPar3_ap, sRet_ap, sRetN_ap, sNx_ap, sBrk_ap, sCnt_ap, sSeq_ap, sIte_ap, sDrop_ap, sFrz_ap, sAug_ap, iRange1_ap, iRange2_ap, iSeq_ap, sFor_ap, sLc_ap, R.toG_ok, ↓R.bind_bnd, bnd_ok, ↓R.bd_bdn, bdn_ok, ↓R.toF_tof, tof_ok, ↓F.seq_sqn, sqn_nx, sqn_ret, sqn_cnt, sqn_brk, ↓F.turn_trn, trn_nx, trn_ret, trn_cnt, trn_brk, F.end_nx, F.end_ret, ↓br_true, br_true, ↓br_false, br_false, Dbr, Dneg, Dtst, opt_some, dAdd_int, dIAdd_int, dSub_int, dLt_int, dLe_int, dGt_int, dGe_int, dEq_int, dNe_int, dEq_bl, dNe_bl, dMul_cm, dMod_pos, dDiv_pos, dAbs_int, dMax2_int, dMin2_int, dInt_int, dInt_bl, dIx_tup, dIx_lst, dIx_seq, dLen_tup, dLen_lst, dLen_seq, atI_0, atI_1, atI_2, atI_3, List.map_cons, List.map_nil, List.length_cons, List.length_nil, List.replicate_succ, List.replicate_zero, List.cons_append, List.nil_append, List.getElem?_cons_zero, List.getElem?_cons_succ, List.set_cons_zero, List.set_cons_succ, Nat.reduceAdd, Nat.reduceSub, Nat.zero_add, Nat.add_zero, Nat.sub_self, Nat.reduceMul, mostL_def, Nat.reduceLeDiff, Nat.reduceLT, ite_true, ite_false, if_true, if_false, ↓reduceIte, reduceIte, ↓br_ite, Bool.false_eq_true, reduceCtorEq, Bool.not_true, Bool.not_false, decide_true, decide_false, Int.cast_ofNat_Int, Int.reduceBEq, Int.reduceAdd, Int.reduceSub, Int.reduceMul, Int.reduceNeg, Int.reduceLT, Int.reduceLE, Int.reduceMod, Int.reduceDiv, sMeth1_ap, sSl_ap, sRev_ap, oNo_ap, oPart_ap, sDict0_ap, sSetL_ap, sLc2_ap, sStar_ap, sDGet1_ap, sDGet2_ap, sPutD_ap, iItemsD_ap, iValsD_ap, iKeysD_ap, sDict0T_ap, sPutT_ap, sTGet1_ap, sFrzT_ap, iKeysT_ap, $xs,*])
local macro_rules | `(tactic| walk_at "sm") => `(tactic| first | assumption | exact Sm.lit | exact Sm.mul (by walk_at "sm") (by walk_at "sm") | exact Sm.add (by walk_at "sm") (by walk_at "sm") | exact Sm.sub (by walk_at "sm") (by walk_at "sm") | exact Sm.neg (by walk_at "sm"))
local macro_rules | `(tactic| walk_at "cm") => `(tactic| ((with_reducible show CM _ _); first | assumption | exact CM.left (by decide) | exact CM.right (by decide) | exact CM.left (by omega) | exact CM.right (by omega) | exact CM.of (by walk_at "sm") (by walk_at "sm") (by decide)))
def f_is_whole : Fn := runDef 1 (sRet (sAnd (sCall (g2 dIsi) (sCons (sVar 0) (sCons (sC (.ty "int")) (sNil)))) (sNot (sCall (g2 dIsi) (sCons (sVar 0) (sCons (sC (.ty "bool")) (sNil)))))))
def f_is_integer : Fn := runDef 1 (sRet (sAnd (sFn f_is_whole (sCons (sVar 0) (sNil))) (sChain dLt dLt (sNeg (sC (.int (1000000000000000000000000000000000000000000000000000000000000)))) (sVar 0) (sC (.int (1000000000000000000000000000000000000000000000000000000000000))))))
def f_divisor_of : Fn := runDef 2 (sSeq (sWhile FU (sTst (sBin dNe (sVar 1) (sC (.int 0)))) (sPar 0 1 (sCons (sVar 1) (sCons (sBin dMod (sVar 0) (sVar 1)) (sNil))))) (sRet (sCall (g1 dAbs) (sCons (sVar 0) (sNil)))))
theorem compGo_nil {g : SG} {tt : ST} {te : SE} {e : Pe} {h : Ph} : compGo g tt te [] e h = .ok [] h := nr rfl
theorem compGo_cons {g : SG} {tt : ST} {te : SE} {x : D} {r : List D} {e : Pe} {h : Ph} : compGo g tt te (x :: r) e h = (g x e h).bd fun e1 h1 => (tt e1 h1).bd fun b h2 => br b ((te e1 h2).bd fun y h3 => (compGo g tt te r e h3).bd fun ys h4 => .ok (y :: ys) h4) (compGo g tt te r e h2) := rfl
theorem compGo_yes {g : SG} {te : SE} {x : D} {r : List D} {e : Pe} {h : Ph} : compGo g qYes te (x :: r) e h = (g x e h).bd fun e1 h1 => (te e1 h1).bd fun y h3 => (compGo g qYes te r e h3).bd fun ys h4 => .ok (y :: ys) h4 := nr rfl
theorem wipe_nil {e : Pe} : wipeD e [] = e := rfl
theorem wipe_cons {e : Pe} {v : Nat} {vs : List Nat} : wipeD e (v :: vs) = (wipeD e vs).set v none := rfl
theorem isi_int {t : String} {i : Int} {h : Ph} : dIsi (.int i) (.ty t) h = R.opt (kitB "int" t) fun k => .ok (.bl k) h := rfl
theorem isi_tup {t : String} {i : List D} {h : Ph} : dIsi (.tup i) (.ty t) h = R.opt (kitB "tuple" t) fun k => .ok (.bl k) h := rfl
theorem kit_int_int : kitB "int" "int" = some true := rfl
theorem kit_int_bool : kitB "int" "bool" = some false := rfl
theorem kit_tuple_tuple : kitB "tuple" "tuple" = some true := rfl
theorem iSeq_at {f : SE} {e : Pe} {h : Ph} : iSeq f e h = (f e h).bind fun a h1 => match a with
  | .lst xs => .ok xs h1
  | .seq xs => .ok xs h1
  | .tup xs => .ok xs h1
  | _ => .bad := rfl
theorem dAll_lst {xs : List D} {h : Ph} : dAll (.lst xs) h = R.opt (blsOf xs) fun bs => .ok (.bl (bs.all id)) h := rfl
theorem bls_cons {b : Bool} {r : List D} : blsOf (.bl b :: r) = (blsOf r).map (b :: ·) := rfl
theorem bls_nil : blsOf [] = some [] := rfl
theorem whole_int {i : Int} {h : Ph} : f_is_whole [.int i] h = .ok (.bl true) h := by
  unfold f_is_whole; simp_arith only [isi_int, kit_int_int, kit_int_bool]
def Iz (i : Int) : Bool := decide (-1000000000000000000000000000000000000000000000000000000000000 < i) && decide (i < 1000000000000000000000000000000000000000000000000000000000000)
theorem Iz.ok {i : Int} (s : Sm 199 i) : Iz i = true := by
  have := s.lt
  have h2 : (2 : Nat) ^ 199 < 1000000000000000000000000000000000000000000000000000000000000 := by decide
  unfold Iz
  simp
  omega
theorem integer_int {i : Int} {h : Ph} : f_is_integer [.int i] h = .ok (.bl (Iz i)) h := by
  unfold f_is_integer Iz; simp_arith only [whole_int, sNeg_ap, it_bl, br_bl, it_and, br_and]
structure Fm (k : Nat) (a b c : Int) : Prop where
  sa : Sm k a
  sb : Sm k b
  sc : Sm k c
  pos : 0 < a
  mea : 0 < 4 * a * c - b * b
theorem Fm.mono {j k : Nat} {a b c : Int} (f : Fm j a b c) (h : j ≤ k) : Fm k a b c := ⟨f.sa.mono h, f.sb.mono h, f.sc.mono h, f.pos, f.mea⟩
abbrev T3 (a b c : Int) : D := .tup [.int a, .int b, .int c]
abbrev T4 (a b c d : Int) : D := .tup [.int a, .int b, .int c, .int d]
section
variable {a b c : Int} {h : Ph}
def Lst (a b c : Int) : Bool := (decide (-a ≤ b) && (decide (b ≤ a) && decide (a ≤ c))) && (decide (0 ≤ b) || (!(b == -a) && !(a == c)))
end
theorem dMod_f {i j : Int} {h : Ph} (hj : j ≠ 0) : dMod (.int i) (.int j) h = .ok (.int (i.fmod j)) h := by
  show (if 0 < j then _ else _) = _
  by_cases h0 : 0 < j
  · rw [if_pos h0, Int.fmod_eq_emod_of_nonneg i (by omega)]
  · rw [if_neg h0, if_pos hj]
theorem fmod_gcd (a b : Int) : Int.gcd b (a.fmod b) = Int.gcd a b := by
  have e : a.fmod b = a - b * a.fdiv b := by have := Int.mul_fdiv_add_fmod a b; omega
  rw [e, Int.gcd_sub_mul_left_right, Int.gcd_comm]
theorem fmod_lt (a b : Int) (h : b ≠ 0) : (a.fmod b).natAbs < b.natAbs := by
  by_cases h0 : 0 < b
  · have h1 := Int.fmod_lt_of_pos a h0
    have h2 := Int.fmod_nonneg_of_pos a h0
    omega
  · have h1 := Int.fmod_lt_of_pos (-a) (b := -b) (by omega)
    have h2 := Int.fmod_nonneg_of_pos (-a) (b := -b) (by omega)
    rw [Int.neg_fmod_neg] at h1 h2
    omega
theorem div_loop (c : ST) (hc : ∀ (a b : Int) (h : Ph), c [some (.int a), some (.int b)] h = .ok (!(b == 0)) h)
    (f : SS) (hf : ∀ (a b : Int) (h : Ph), b ≠ 0 → f [some (.int a), some (.int b)] h = .nx [some (.int b), some (.int (a.fmod b))] h) :
    ∀ (k : Nat) (a b : Int) (h : Ph) (N : Nat), b.natAbs ≤ k → k < N → ∃ x : Int, x.natAbs = Int.gcd a b ∧ sWhile N c f [some (.int a), some (.int b)] h = .nx [some (.int x), some (.int 0)] h := by
  intro k
  induction k with
  | zero =>
    intro a b h N hk hN
    obtain ⟨N, rfl⟩ : ∃ M, N = M + 1 := ⟨N - 1, by omega⟩
    have : b = 0 := by omega
    subst this
    refine ⟨a, (Int.gcd_zero_right a).symm, ?_⟩
    unfold sWhile
    rw [hc a 0 h]
    rfl
  | succ k ih =>
    intro a b h N hk hN
    obtain ⟨N, rfl⟩ : ∃ M, N = M + 1 := ⟨N - 1, by omega⟩
    by_cases h0 : b = 0
    · subst h0
      refine ⟨a, (Int.gcd_zero_right a).symm, ?_⟩
      unfold sWhile
      rw [hc a 0 h]
      rfl
    · have hl := fmod_lt a b h0
      obtain ⟨x, hx, hw⟩ := ih b (a.fmod b) h N (by omega) (by omega)
      refine ⟨x, by rw [hx, fmod_gcd], ?_⟩
      unfold sWhile
      rw [hc a b h, show (b == 0) = false from beq_false_of_ne h0]
      show (f [some (.int a), some (.int b)] h).turn _ = _
      rw [hf a b h h0]
      exact hw
theorem div_cond (a b : Int) (h : Ph) : sTst (sBin dNe (sVar 1) (sC (.int 0))) [some (.int a), some (.int b)] h = .ok (!(b == 0)) h := by
  simp_arith only []
theorem div_step (a b : Int) (h : Ph) (hb : b ≠ 0) : sPar 0 1 (sCons (sVar 1) (sCons (sBin dMod (sVar 0) (sVar 1)) (sNil))) [some (.int a), some (.int b)] h = .nx [some (.int b), some (.int (a.fmod b))] h := by
  simp_arith only [dMod_f]
theorem divisor_ok {a b : Int} {h : Ph} (hb : b.natAbs + 1 < FU) : f_divisor_of [.int a, .int b] h = .ok (.int (Int.gcd a b)) h := by
  generalize hF : FU = N at hb
  obtain ⟨x, hx, e⟩ := div_loop _ div_cond _ div_step b.natAbs a b h N (Nat.le_refl _) (by omega)
  have hx' : (if x < 0 then -x else x) = (Int.gcd a b : Int) := by rw [← hx]; split <;> omega
  unfold f_divisor_of
  rw [hF]
  simp_arith only [e, hx']
theorem fu_lt {x : Int} (s : Sm 600 x) : x.natAbs + 1 < FU := by
  have := s.lt
  have h2 : (2 : Nat) ^ 600 + 1 < FU := by decide +kernel
  omega
def g3 (a b c : Int) : Nat := Int.gcd (Int.gcd a b) c
structure Mx (k : Nat) (p q r s : Int) : Prop where
  sp : Sm k p
  sq : Sm k q
  sr : Sm k r
  ss : Sm k s
  det : p * s - q * r = 1
theorem Mx.mono {j k : Nat} {p q r s : Int} (f : Mx j p q r s) (h : j ≤ k) : Mx k p q r s := ⟨f.sp.mono h, f.sq.mono h, f.sr.mono h, f.ss.mono h, f.det⟩
section
variable {a b c p q r s : Int} {h : Ph}
abbrev lA (a b c p r : Int) : Int := a * p * p + b * p * r + c * r * r
abbrev lB (a b c p q r s : Int) : Int := 2 * a * p * q + b * (p * s + q * r) + 2 * c * r * s
theorem led_measure (m : p * s - q * r = 1) : 4 * lA a b c p r * lA a b c q s - lB a b c p q r s * lB a b c p q r s = 4 * a * c - b * b := by
  unfold lA lB; grind
end
end Pd

namespace Pd
open PySem L2 Evl
local macro_rules | `(tactic| walk_at "sm") => `(tactic| first | assumption | exact Sm.lit | exact Sm.mul (by walk_at "sm") (by walk_at "sm") | exact Sm.add (by walk_at "sm") (by walk_at "sm") | exact Sm.sub (by walk_at "sm") (by walk_at "sm") | exact Sm.neg (by walk_at "sm"))
local macro_rules | `(tactic| walk_at "cm") => `(tactic| ((with_reducible show CM _ _); first | assumption | exact CM.left (by decide) | exact CM.right (by decide) | exact CM.left (by omega) | exact CM.right (by omega) | exact CM.of (by walk_at "sm") (by walk_at "sm") (by decide)))
theorem forGo_inv {g : SG} {f : SS} (P : Nat → Pe → Ph → Prop) : ∀ (xs : List D) (k : Nat) (e : Pe) (h : Ph), P k e h →
    (∀ x ∈ xs, ∀ j e h, k ≤ j → j < k + xs.length → P j e h → ∃ e1 h1 e2 h2, g x e h = .ok e1 h1 ∧ f e1 h1 = .nx e2 h2 ∧ P (j + 1) e2 h2) →
    ∃ e' h', forGo g f xs e h = .nx e' h' ∧ P (k + xs.length) e' h' := by
  intro xs
  induction xs with
  | nil => intro k e h p _; exact ⟨e, h, rfl, p⟩
  | cons x r ih =>
    intro k e h p H
    obtain ⟨e1, h1, e2, h2, q1, q2, q3⟩ := H x (by simp) k e h (by omega) (by simp) p
    obtain ⟨e', h', r1, r2⟩ := ih (k + 1) e2 h2 q3 (fun y hy j e h hj hj2 pj => H y (by simp [hy]) j e h (by omega) (by simp; omega) pj)
    refine ⟨e', h', ?_, by rw [List.length_cons, show k + (r.length + 1) = k + 1 + r.length by omega]; exact r2⟩
    unfold forGo
    rw [q1]
    show (f e1 h1).turn _ = _
    rw [q2]
    exact r1
theorem range1_ok {f : SA} {n : Int} {e : Pe} {h h1 : Ph} (e1 : f e h = .ok [.int n] h1) (hn : 0 ≤ n) (hb : n < 1000000) : iRange1 f e h = .ok (rangeD 0 n.toNat) h1 := by
  unfold iRange1
  rw [e1]
  show (if -(2 ^ 62) ≤ n ∧ n < 2 ^ 62 then _ else _) = _
  rw [if_pos ⟨by omega, by omega⟩]
theorem rng_ok {n : Int} {h : Ph} (h0 : 0 ≤ n) (hb : n < 1000000) : (if -(2 ^ 62) ≤ n ∧ n < 2 ^ 62 then R.ok (rangeD 0 n.toNat) h else R.bad) = R.ok (rangeD 0 n.toNat) h := if_pos ⟨by omega, by omega⟩
theorem rangeD_len {lo : Int} {n : Nat} : (rangeD lo n).length = n := by unfold rangeD; rw [List.length_map, List.length_range]
theorem rangeD_mem {lo : Int} {n : Nat} {x : D} (h : x ∈ rangeD lo n) : ∃ k : Nat, k < n ∧ x = .int (lo + k) := by
  unfold rangeD at h
  obtain ⟨k, hk, e⟩ := List.mem_map.mp h
  exact ⟨k, List.mem_range.mp hk, e.symm⟩
theorem Sm.add1 {a : Nat} {x y : Int} (s : Sm a x) (t : Sm a y) : Sm (a + 1) (x + y) := ⟨by
  have h1 := s.lt
  have h2 := t.lt
  have h5 : (2 : Nat) ^ (a + 1) = 2 * 2 ^ a := by rw [Nat.pow_succ]; omega
  omega⟩
theorem Sm.of_lt {x : Int} (k : Nat) {n : Int} (h1 : -n < x) (h2 : x < n) (h3 : n ≤ ((2 : Nat) ^ k : Nat)) : Sm k x := ⟨by omega⟩
theorem sq_nonneg' (x : Int) : 0 ≤ x * x := by
  by_cases h : 0 ≤ x
  · exact Int.mul_nonneg h h
  · have := Int.mul_nonneg (a := -x) (b := -x) (by omega) (by omega); rwa [Int.neg_mul_neg] at this
theorem sq_pos' {x : Int} (hx : x ≠ 0) : 0 < x * x := by
  by_cases h : 0 < x
  · exact Int.mul_pos h h
  · have := Int.mul_pos (a := -x) (b := -x) (by omega) (by omega); rwa [Int.neg_mul_neg] at this
theorem value_pos {a b c p r : Int} (ha : 0 < a) (hm : 0 < 4 * a * c - b * b) (hn : p ≠ 0 ∨ r ≠ 0) : 0 < lA a b c p r := by
  have key : 4 * a * lA a b c p r = (2 * a * p + b * r) * (2 * a * p + b * r) + (4 * a * c - b * b) * (r * r) := by unfold lA; grind
  by_cases hr : r = 0
  · subst hr
    have hp : p ≠ 0 := by omega
    have : lA a b c p 0 = a * (p * p) := by unfold lA; grind
    rw [this]
    exact Int.mul_pos ha (sq_pos' hp)
  · have h1 := Int.mul_pos hm (sq_pos' hr)
    have h2 := sq_nonneg' (2 * a * p + b * r)
    have h3 : 0 < 4 * a * lA a b c p r := by rw [key]; omega
    exact Int.pos_of_mul_pos_right h3 (by omega)
theorem Fm.led {k m : Nat} {a b c p q r s : Int} (f : Fm k a b c) (x : Mx m p q r s) : Fm (k + 2 * m + 4) (lA a b c p r) (lB a b c p q r s) (lA a b c q s) := by
  have d := x.det
  have la : ∀ {p r : Int}, Sm m p → Sm m r → Sm (k + 2 * m + 4) (lA a b c p r) := fun sp sr => by
    have h1 : Sm (k + 2 * m) (a * _ * _) := ((f.sa.mul sp).mul sp).mono (by omega)
    have h2 : Sm (k + 2 * m) (b * _ * _) := ((f.sb.mul sp).mul sr).mono (by omega)
    have h3 : Sm (k + 2 * m) (c * _ * _) := ((f.sc.mul sr).mul sr).mono (by omega)
    exact ((h1.add1 h2).add1 (h3.mono (by omega))).mono (by omega)
  refine ⟨la x.sp x.sr, ?_, la x.sq x.ss, ?_, ?_⟩
  · have h1 : Sm (k + 2 * m + 2) (2 * a * p * q) := (((Sm.lit (n := 2)).mul f.sa |>.mul x.sp).mul x.sq).mono (by show (2 + k + m + m) ≤ _; omega)
    have h3 : Sm (k + 2 * m + 2) (2 * c * r * s) := (((Sm.lit (n := 2)).mul f.sc |>.mul x.sr).mul x.ss).mono (by show (2 + k + m + m) ≤ _; omega)
    have h2 : Sm (k + 2 * m + 2) (b * (p * s + q * r)) := (f.sb.mul (((x.sp.mul x.ss)).add1 ((x.sq.mul x.sr)))).mono (by omega)
    exact ((h1.add1 h2).add1 (h3.mono (by omega))).mono (by omega)
  · refine value_pos f.pos f.mea ?_
    by_cases hp : p = 0
    · right
      intro hr
      subst hp; subst hr
      simp at d
    · exact .inl hp
  · have := f.mea
    rw [led_measure d]
    exact this
theorem Mx.prod {j k : Nat} {a b c d p q r s : Int} (x : Mx j a b c d) (y : Mx k p q r s) : Mx (j + k + 1) (a * p + b * r) (a * q + b * s) (c * p + d * r) (c * q + d * s) :=
  ⟨(x.sp.mul y.sp).add1 (x.sq.mul y.sr), (x.sp.mul y.sq).add1 (x.sq.mul y.ss), (x.sr.mul y.sp).add1 (x.ss.mul y.sr), (x.sr.mul y.sq).add1 (x.ss.mul y.ss), by
    have h1 := x.det
    have h2 := y.det
    have : (a * p + b * r) * (c * q + d * s) - (a * q + b * s) * (c * p + d * r) = (a * d - b * c) * (p * s - q * r) := by grind
    rw [this, h1, h2]; rfl⟩
theorem led_led {a b c p q r s p' r' : Int} : lA (lA a b c p r) (lB a b c p q r s) (lA a b c q s) p' r' = lA a b c (p * p' + q * r') (r * p' + s * r') := by unfold lA lB; grind
theorem led_ledB {a b c p q r s p' q' r' s' : Int} : lB (lA a b c p r) (lB a b c p q r s) (lA a b c q s) p' q' r' s' = lB a b c (p * p' + q * r') (p * q' + q * s') (r * p' + s * r') (r * q' + s * s') := by unfold lA lB; grind
end Pd

namespace Pd
open PySem L2 Evl
local macro_rules | `(tactic| simp_arith only [$xs,*]) => `(tactic| simp (maxSteps := 4000000) (dsimp := false) (disch := first | assumption | decide | omega | walk_at "cm") only [runDef_ap, sVar_ap, sC_ap, sBin_ap, sNeg_ap, sAnd_ap, sOr_ap, sNot_ap, sIf_ap, sTst_ap, qAnd_ap, qOr_ap, qNot_ap, qYes_ap, sChain_ap, sChain3_ap, sNil_ap, sCons_ap, sTup_ap, sLst_ap, sLstM_ap, sCall_ap, g1_ap, g2_ap, sFn_ap, sAsg_ap, gNm_ap, gTp_ap, gConsS_ap, gNilS_ap, sPar_ap, sPar3_ap, sRet_ap, sRetN_ap, sNx_ap, sBrk_ap, sCnt_ap, sSeq_ap, sIte_ap, sDrop_ap, sFrz_ap, sAug_ap, iRange1_ap, iRange2_ap, iSeq_ap, sFor_ap, sLc_ap, R.toG_ok, ↓R.bind_bnd, bnd_ok, ↓R.bd_bdn, bdn_ok, ↓R.toF_tof, tof_ok, ↓F.seq_sqn, sqn_nx, sqn_ret, sqn_cnt, sqn_brk, ↓F.turn_trn, trn_nx, trn_ret, trn_cnt, trn_brk, F.end_nx, F.end_ret, ↓br_true, br_true, ↓br_false, br_false, Dbr, Dneg, Dtst, opt_some, dAdd_int, dIAdd_int, dSub_int, dLt_int, dLe_int, dGt_int, dGe_int, dEq_int, dNe_int, dEq_bl, dNe_bl, dMul_cm, dMod_pos, dDiv_pos, dAbs_int, dMax2_int, dMin2_int, dInt_int, dInt_bl, dIx_tup, dIx_lst, dIx_seq, dLen_tup, dLen_lst, dLen_seq, atI_0, atI_1, atI_2, atI_3, List.map_cons, List.map_nil, List.length_cons, List.length_nil, List.replicate_succ, List.replicate_zero, List.cons_append, List.nil_append, List.getElem?_cons_zero, List.getElem?_cons_succ, List.set_cons_zero, List.set_cons_succ, Nat.reduceAdd, Nat.reduceSub, Nat.zero_add, Nat.add_zero, Nat.sub_self, Nat.reduceMul, mostL_def, Nat.reduceLeDiff, Nat.reduceLT, ite_true, ite_false, if_true, if_false, ↓reduceIte, reduceIte, ↓br_ite, Bool.false_eq_true, reduceCtorEq, Bool.not_true, Bool.not_false, decide_true, decide_false, Int.cast_ofNat_Int, Int.reduceBEq, Int.reduceAdd, Int.reduceSub, Int.reduceMul, Int.reduceNeg, Int.reduceLT, Int.reduceLE, Int.reduceMod, Int.reduceDiv, sMeth1_ap, sSl_ap, sRev_ap, oNo_ap, oPart_ap, sDict0_ap, sSetL_ap, sLc2_ap, sStar_ap, sDGet1_ap, sDGet2_ap, sPutD_ap, iItemsD_ap, iValsD_ap, iKeysD_ap, sDict0T_ap, sPutT_ap, sTGet1_ap, sFrzT_ap, iKeysT_ap, $xs,*])
local macro_rules | `(tactic| walk_at "sm") => `(tactic| first | assumption | exact Sm.lit | exact Sm.mul (by walk_at "sm") (by walk_at "sm") | exact Sm.add (by walk_at "sm") (by walk_at "sm") | exact Sm.sub (by walk_at "sm") (by walk_at "sm") | exact Sm.neg (by walk_at "sm"))
local macro_rules | `(tactic| walk_at "cm") => `(tactic| ((with_reducible show CM _ _); first | assumption | exact CM.left (by decide) | exact CM.right (by decide) | exact CM.left (by omega) | exact CM.right (by omega) | exact CM.of (by walk_at "sm") (by walk_at "sm") (by decide)))
def c__law_level_drawn_1 : SE := sLc (iSeq (sVar 2)) (gNm 3) (sTst (sBin dLe (sVar 3) (sVar 1))) (sVar 3) [3]
def f__law_level_drawn : Fn := runDef 4 (sSeq (sAsg (sLst (sCons (sC (.int 1)) (sCons (sC (.int 2)) (sCons (sC (.int 5)) (sCons (sC (.int 11)) (sCons (sC (.int 11)) (sCons (sC (.int 14)) (sCons (sC (.int 15)) (sCons (sC (.int 17)) (sCons (sC (.int 20)) (sCons (sC (.int 22)) (sCons (sC (.int 23)) (sCons (sC (.int 24)) (sCons (sC (.int 26)) (sCons (sC (.int 27)) (sCons (sC (.int 30)) (sCons (sC (.int 33)) (sCons (sC (.int 36)) (sCons (sC (.int 37)) (sCons (sBin dAdd (sC (.int 1)) (sFn f__law_roll (sCons (sVar 0) (sCons (sVar 1) (sNil))))) (sNil))))))))))))))))))))) (gNm 2)) (sRet (sFn f__law_pick (sCons (sVar 0) (sCons (c__law_level_drawn_1) (sNil))))))
def f_is_level : Fn := runDef 1 (sRet (sAnd (sFn f_is_whole (sCons (sVar 0) (sNil))) (sChain dLe dLe (sC (.int 1)) (sVar 0) (sC (.int (100))))))
def f_require_level : Fn := runDef 1 (sIte (qNot (sTst (sFn f_is_level (sCons (sVar 0) (sNil))))) (sBad) (sNx))
def f__law_lowest : Fn := runDef 4 (sSeq (sAsg (sFn f__law_gcd (sCons (sVar 0) (sCons (sVar 1) (sNil)))) (gNm 2)) (sSeq (sAsg (sIf (qOr (sTst (sBin dLt (sVar 1) (sC (.int 0)))) (qAnd (sTst (sBin dEq (sVar 1) (sC (.int 0)))) (sTst (sBin dLt (sVar 0) (sC (.int 0)))))) (sC (.int (-1))) (sC (.int 1))) (gNm 3)) (sRet (sTup (sCons (sBin dDiv (sBin dMul (sVar 3) (sVar 0)) (sVar 2)) (sCons (sBin dDiv (sBin dMul (sVar 3) (sVar 1)) (sVar 2)) (sNil)))))))
def f__law_width : Fn := runDef 2 (sRet (sBin dDiv (sVar 0) (sFn f__law_gcd (sCons (sVar 0) (sCons (sBin dMul (sBin dIx (sVar 1) (sC (.int 1))) (sBin dIx (sVar 1) (sC (.int 1)))) (sNil))))))
def l_common_of_1 : SS := sPar 0 1 (sCons (sVar 1) (sCons (sBin dMod (sVar 0) (sVar 1)) (sNil)))
def f_common_of : Fn := runDef 2 (sSeq (sWhile FU (sTst (sBin dNe (sVar 1) (sC (.int 0)))) (l_common_of_1)) (sRet (sCall (g1 dAbs) (sCons (sVar 0) (sNil)))))
def c_is_fraction_1 : SE := sLc (iSeq (sVar 0)) (gNm 3) (qYes) (sFn f_is_integer (sCons (sVar 3) (sNil))) [3]
def f_is_fraction : Fn := runDef 4 (sSeq (sIte (qOr (qNot (sTst (sCall (g2 dIsi) (sCons (sVar 0) (sCons (sC (.ty "tuple")) (sNil)))))) (qOr (sTst (sBin dNe (sCall (g1 dLen) (sCons (sVar 0) (sNil))) (sC (.int 2)))) (qNot (sTst (sCall (g1 dAll) (sCons (c_is_fraction_1) (sNil))))))) (sRet (sC (.bl false))) (sNx)) (sSeq (sAsg (sVar 0) (gTp 2 (gConsS (gNm 1) (gConsS (gNm 2) (gNilS))))) (sSeq (sIte (qOr (qNot (sTst (sChain dLe dLe (sNeg (sC (.int (100000000000000000000)))) (sVar 1) (sC (.int (100000000000000000000)))))) (qNot (sTst (sChain dLe dLe (sC (.int 0)) (sVar 2) (sC (.int (100000000000000000000))))))) (sRet (sC (.bl false))) (sNx)) (sRet (sIf (sTst (sBin dEq (sVar 2) (sC (.int 0)))) (sBin dEq (sVar 0) (sTup (sCons (sC (.int 1)) (sCons (sC (.int 0)) (sNil))))) (sBin dEq (sFn f_common_of (sCons (sVar 1) (sCons (sVar 2) (sNil)))) (sC (.int 1))))))))
def f_require_fraction : Fn := runDef 1 (sIte (qNot (sTst (sFn f_is_fraction (sCons (sVar 0) (sNil))))) (sBad) (sNx))
def f_width_in : Fn := runDef 2 (sRet (sBin dDiv (sVar 0) (sFn f_common_of (sCons (sVar 0) (sCons (sBin dMul (sBin dIx (sVar 1) (sC (.int 1))) (sBin dIx (sVar 1) (sC (.int 1)))) (sNil))))))
theorem compGo_filter {i : Nat} {tt : ST} {e : Pe} {h : Ph} {p : Int → Bool} (hi : i < e.length) : ∀ {ns : List Int}, (∀ x ∈ ns, tt (e.set i (some (.int x))) h = .ok (p x) h) → compGo (gNm i) tt (sVar i) (ns.map D.int) e h = .ok ((ns.filter p).map D.int) h := by
  intro ns
  induction ns with
  | nil => intro _; rfl
  | cons x r ih =>
    intro H
    have hx := H x (by simp)
    have hr := ih fun y hy => H y (by simp [hy])
    rw [List.map_cons, compGo_cons]
    show (tt (e.set i (some (.int x))) h).bd _ = _
    rw [hx]
    show br (p x) _ _ = _
    cases hp : p x with
    | false =>
      rw [List.filter_cons_of_neg (by simp [hp])]
      exact hr
    | true =>
      rw [List.filter_cons_of_pos (by simp [hp])]
      have hv : sVar i (e.set i (some (.int x))) h = .ok (.int x) h := sVar_at (by rw [List.getElem?_set_self hi])
      show (sVar i (e.set i (some (.int x))) h).bd _ = _
      rw [hv]
      show (compGo (gNm i) tt (sVar i) (r.map D.int) e h).bd _ = _
      rw [hr]
      rfl
theorem wipe_len : ∀ {vs : List Nat} {e : Pe}, (wipeD e vs).length = e.length
  | [], _ => rfl
  | v :: vs, e => by show ((wipeD e vs).set v none).length = _; rw [List.length_set, wipe_len]
theorem lc_filter {it : SIt} {i : Nat} {tt : ST} {vs : List Nat} {e : Pe} {h h1 : Ph} {ns : List Int} {p : Int → Bool} (hit : it e h = .ok (ns.map D.int) h1) (hl : ns.length ≤ mostL) (hi : i < e.length) (H : ∀ x ∈ ns, tt ((wipeD e vs).set i (some (.int x))) h1 = .ok (p x) h1) :
    sLc it (gNm i) tt (sVar i) vs e h = .ok (.lst ((ns.filter p).map D.int)) h1 := by
  unfold sLc
  rw [hit]
  show (if (ns.map D.int).length ≤ mostL then _ else _) = _
  rw [if_pos (by rw [List.length_map]; exact hl)]
  have := compGo_filter (e := wipeD e vs) (h := h1) (by rw [wipe_len]; exact hi) H
  rw [this]
  rfl
def rangeZ (lo : Int) (n : Nat) : List Int := (List.range n).map fun (k : Nat) => lo + (k : Int)
theorem rangeD_map {lo : Int} {n : Nat} : rangeD lo n = (rangeZ lo n).map D.int := by
  unfold rangeD rangeZ
  rw [List.map_map]
  rfl
theorem rangeZ_len {lo : Int} {n : Nat} : (rangeZ lo n).length = n := by unfold rangeZ; rw [List.length_map, List.length_range]
theorem rangeZ_mem {lo x : Int} {n : Nat} : x ∈ rangeZ lo n ↔ lo ≤ x ∧ x < lo + n := by
  unfold rangeZ
  rw [List.mem_map]
  constructor
  · rintro ⟨k, hk, rfl⟩
    have := List.mem_range.mp hk
    omega
  · rintro ⟨h1, h2⟩
    exact ⟨(x - lo).toNat, List.mem_range.mpr (by omega), by omega⟩
theorem range2_ok {f : SA} {m n : Int} {e : Pe} {h h1 : Ph} (e1 : f e h = .ok [.int m, .int n] h1) (hm : Sm 61 m) (hn : Sm 61 n) : iRange2 f e h = .ok ((rangeZ m (n - m).toNat).map D.int) h1 := by
  have a := hm.lt
  have b := hn.lt
  have k : (2 : Nat) ^ 61 = 2305843009213693952 := rfl
  unfold iRange2
  rw [e1]
  show (if -(2 ^ 62) ≤ m ∧ m < 2 ^ 62 ∧ -(2 ^ 62) ≤ n ∧ n < 2 ^ 62 then _ else _) = _
  rw [if_pos ⟨by omega, by omega, by omega, by omega⟩, rangeD_map]
theorem pick_int {h : Ph} {n : Nat} {ns : List Int} (hd : Dc h n) (h0 : ns ≠ []) (hl : ns.length < 1000000) : ∃ x h', f__law_pick [.ref n, .lst (ns.map D.int)] h = .ok (.int x) h' ∧ x ∈ ns ∧ Dr n h h' := by
  obtain ⟨d, h', e, m, dr⟩ := pick_ok (xs := ns.map D.int) hd (by simpa using h0) (by simpa using hl)
  obtain ⟨x, hx, rfl⟩ := List.mem_map.mp m
  exact ⟨x, h', e, hx, dr⟩
def someLevels (x : Int) : List Int := [1, 2, 5, 11, 11, 14, 15, 17, 20, 22, 23, 24, 26, 27, 30, 33, 36, 37, x]
theorem level_drawn_ok {n : Nat} {h : Ph} {T : Int} (hd : Dc h n) (h1 : 0 < T) (h2 : T ≤ 1000) : ∃ L h', f__law_level_drawn [.ref n, .int T] h = .ok (.int L) h' ∧ 1 ≤ L ∧ L ≤ T ∧ Dr n h h' := by
  obtain ⟨v, h1', e1, v0, v1, d1⟩ := roll_ok hd h1 (Nat.lt_of_le_of_lt (log_lt (k := 32) (by omega)) (by decide))
  have hc : c__law_level_drawn_1 [some (.ref n), some (.int T), some (.lst ((someLevels (1 + v)).map D.int)), none] h1' = .ok (.lst (((someLevels (1 + v)).filter fun x => decide (x ≤ T)).map D.int)) h1' := by
    unfold c__law_level_drawn_1
    refine lc_filter (h := h1') (h1 := h1') rfl (show 19 ≤ mostL by decide) (show 3 < 4 by decide) fun x hx => ?_
    simp_arith only [wipe_cons, wipe_nil]
  have hm : (1 : Int) ∈ (someLevels (1 + v)).filter fun x => decide (x ≤ T) := List.mem_filter.mpr ⟨by simp [someLevels], decide_eq_true (by omega)⟩
  obtain ⟨L, h2', e2, m2, d2⟩ := pick_int (ns := (someLevels (1 + v)).filter fun x => decide (x ≤ T)) d1.dc (List.ne_nil_of_mem hm) (Nat.lt_of_le_of_lt (List.length_filter_le _ _) (show 19 < 1000000 by decide))
  obtain ⟨m3, m4⟩ := List.mem_filter.mp m2
  refine ⟨L, h2', ?_, ?_, by simpa using m4, d1.trans d2⟩
  · unfold someLevels at hc e2
    simp only [List.map_cons, List.map_nil] at hc
    unfold f__law_level_drawn
    simp_arith only [e1, hc, e2]
  · unfold someLevels at m3
    simp only [List.mem_cons, List.not_mem_nil, or_false] at m3
    omega
theorem require_level_ok {L : Int} {h : Ph} (h1 : 1 ≤ L) (h2 : L ≤ 100) : f_require_level [.int L] h = .ok .non h := by
  have e : f_is_level [.int L] h = .ok (.bl true) h := by
    have k1 : decide (1 ≤ L) = true := decide_eq_true h1
    have k2 : decide (L ≤ 100) = true := decide_eq_true h2
    unfold f_is_level; simp_arith only [whole_int, k1, k2, it_bl, br_bl]
  unfold f_require_level; simp_arith only [e]
theorem common_ok {a b : Int} {h : Ph} (hb : Sm 600 b) : f_common_of [.int a, .int b] h = .ok (.int (Int.gcd a b)) h := divisor_ok (fu_lt hb)
abbrev T2 (a b : Int) : D := .tup [.int a, .int b]
structure Fr (t b : Int) : Prop where
  co : Int.gcd t b = 1
  pos : 0 ≤ b
  inf : b = 0 → t = 1
theorem dvd_cop {a b c : Int} (h : a ∣ b * c) (g : Int.gcd a b = 1) : a ∣ c := by
  refine Int.natAbs_dvd_natAbs.mp (Nat.Coprime.dvd_of_dvd_mul_left g ?_)
  rw [← Int.natAbs_mul]
  exact Int.natAbs_dvd_natAbs.mpr h
theorem Fr.eq {t b u c : Int} (f : Fr t b) (g : Fr u c) (e : t * c = u * b) : t = u ∧ b = c := by
  have h1 : b ∣ c := by
    have : b ∣ t * c := ⟨u, by rw [e, Int.mul_comm]⟩
    exact dvd_cop this (by rw [Int.gcd_comm]; exact f.co)
  have h2 : c ∣ b := by
    have : c ∣ u * b := ⟨t, by rw [← e, Int.mul_comm]⟩
    exact dvd_cop this (by rw [Int.gcd_comm]; exact g.co)
  have h3 : b = c := Int.dvd_antisymm f.pos g.pos h1 h2
  subst h3
  by_cases hb : b = 0
  · exact ⟨by rw [f.inf hb, g.inf hb], rfl⟩
  · exact ⟨Int.eq_of_mul_eq_mul_right hb e, rfl⟩
def lwS (x y : Int) : Int := if y < 0 ∨ (y = 0 ∧ x < 0) then -1 else 1
def lwT (x y : Int) : Int := lwS x y * x / Int.gcd x y
def lwB (x y : Int) : Int := lwS x y * y / Int.gcd x y
theorem dDiv_n {x : Int} {g : Nat} {h : Ph} (hg : g ≠ 0) (hb : Sm 8000 (g : Int)) : dDiv (.int x) (.int (g : Int)) h = .ok (.int (x / (g : Int))) h :=
  dDiv_pos (by omega) (Nat.lt_of_le_of_lt (log_lt hb.lt) (by decide))
theorem gcd_sm {x y : Int} {k : Nat} (sx : Sm k x) (sy : Sm k y) : Sm k (Int.gcd x y : Int) := by
  by_cases h : x = 0
  · subst h
    rw [Int.gcd_zero_left]
    exact ⟨by have := sy.lt; omega⟩
  · have : Int.gcd x y ≤ x.natAbs := Nat.le_of_dvd (by omega) (by have := Int.natAbs_dvd_natAbs.mpr (Int.gcd_dvd_left x y); rwa [Int.natAbs_natCast] at this)
    exact ⟨by have := sx.lt; omega⟩
theorem gcd_ne {x y : Int} (hn : x ≠ 0 ∨ y ≠ 0) : Int.gcd x y ≠ 0 := by
  intro h
  have := Int.gcd_eq_zero_iff.mp h
  omega
theorem law_lowest_ok {x y : Int} {h : Ph} (sx : Sm 600 x) (sy : Sm 600 y) (hn : x ≠ 0 ∨ y ≠ 0) : f__law_lowest [.int x, .int y] h = .ok (T2 (lwT x y) (lwB x y)) h := by
  have e1 := gcdL_ok x y h (fu_lt sy)
  have hg := gcd_ne hn
  have sg := (gcd_sm sx sy).mono (by decide : 600 ≤ 8000)
  unfold f__law_lowest lwT lwB lwS
  by_cases h1 : y < 0
  · have k : (y < 0 ∨ y = 0 ∧ x < 0) := .inl h1
    simp_arith only [e1, h1, k, dDiv_n, true_or]
  · by_cases h2 : y = 0
    · subst h2
      by_cases h3 : x < 0
      · simp_arith only [e1, h1, h3, dDiv_n, beq_self_eq_true, true_and, or_true]
      · simp_arith only [e1, h1, h3, dDiv_n, beq_self_eq_true, and_false, or_false]
    · have h2' : (y == 0) = false := beq_false_of_ne h2
      simp_arith only [e1, h1, h2, h2', dDiv_n, false_and, or_false]
structure Fs (t b : Int) : Prop where
  fr : Fr t b
  lt : -100000000000000000000 ≤ t ∧ t ≤ 100000000000000000000
  lb : b ≤ 100000000000000000000
theorem Fs.sm {t b : Int} (f : Fs t b) : Sm 67 t ∧ Sm 67 b := by
  have h1 := f.lt
  have h2 := f.lb
  have h3 := f.fr.pos
  exact ⟨Sm.of_lt 67 (n := 100000000000000000001) (by omega) (by omega) (by decide), Sm.of_lt 67 (n := 100000000000000000001) (by omega) (by omega) (by decide)⟩
theorem require_fraction_ok {t b : Int} {h : Ph} (f : Fs t b) : f_require_fraction [T2 t b] h = .ok .non h := by
  obtain ⟨st, sb⟩ := f.sm
  have it := Iz.ok (st.mono (by decide : 67 ≤ 199))
  have ib := Iz.ok (sb.mono (by decide : 67 ≤ 199))
  have e : f_is_fraction [T2 t b] h = .ok (.bl true) h := by
    have k1 : decide (-100000000000000000000 ≤ t) = true := decide_eq_true f.lt.1
    have k2 : decide (t ≤ 100000000000000000000) = true := decide_eq_true f.lt.2
    have k3 : decide (0 ≤ b) = true := decide_eq_true f.fr.pos
    have k4 : decide (b ≤ 100000000000000000000) = true := decide_eq_true f.lb
    have e1 := common_ok (a := t) (h := h) (sb.mono (by decide : 67 ≤ 600))
    rw [f.fr.co] at e1
    have e2 : dEq (T2 t b) (T2 1 0) h = .ok (.bl (t == 1 && (b == 0 && true))) h := rfl
    have ed : (((1 : Nat) : Int) == 1) = true := rfl
    by_cases hb : b = 0
    · have ht := f.fr.inf hb
      subst hb
      subst ht
      unfold f_is_fraction c_is_fraction_1
      simp_arith only [isi_tup, kit_tuple_tuple, compGo_cons, compGo_nil, wipe_cons, wipe_nil, iSeq_at, dAll_lst, bls_cons, bls_nil, Option.map_some, List.all_cons, List.all_nil, id, integer_int, it, ib, Bool.and_true, gTp_ap, gConsS_ap, gNilS_ap, sNeg_ap, k1, k2, k3, k4, e1, e2, beq_self_eq_true, sChain_ap, Bool.and_self]
    · have hb' : (b == 0) = false := beq_false_of_ne hb
      unfold f_is_fraction c_is_fraction_1
      simp_arith only [isi_tup, kit_tuple_tuple, compGo_cons, compGo_nil, wipe_cons, wipe_nil, iSeq_at, dAll_lst, bls_cons, bls_nil, Option.map_some, List.all_cons, List.all_nil, id, integer_int, it, ib, Bool.and_true, gTp_ap, gConsS_ap, gNilS_ap, sNeg_ap, k1, k2, k3, k4, e1, e2, hb', ed, sChain_ap, Bool.and_self]
  unfold f_require_fraction; simp_arith only [e]
theorem dDiv_f {i j : Int} {h : Ph} (hj : j ≠ 0) (hb : Sm 30 j) : dDiv (.int i) (.int j) h = .ok (.int (i.fdiv j)) h := by
  by_cases h0 : 0 < j
  · rw [dDiv_pos h0 (Nat.lt_of_le_of_lt (log_lt hb.lt) (by decide)), Int.fdiv_eq_ediv_of_nonneg i (by omega)]
  · show (if 0 < j then _ else (if j ≠ 0 ∧ j.natAbs < 1073741824 then _ else _)) = _
    rw [if_neg h0, if_pos ⟨hj, hb.lt⟩]
def Un1 (s : Int) : Prop := s = 1 ∨ s = -1
theorem un_div {s : Int} (hs : Un1 s) (A B : Nat) : (s * (A : Int)).fdiv (s * (B : Int)) = ((A / B : Nat) : Int) ∧ (s * (A : Int)).fmod (s * (B : Int)) = s * ((A % B : Nat) : Int) := by
  rcases hs with rfl | rfl
  · rw [Int.one_mul, Int.one_mul, Int.one_mul, Int.fdiv_eq_ediv_of_nonneg _ (Int.natCast_nonneg _), Int.fmod_eq_emod_of_nonneg _ (Int.natCast_nonneg _)]
    exact ⟨rfl, rfl⟩
  · rw [show (-1 : Int) * (A : Int) = -(A : Int) by omega, show (-1 : Int) * (B : Int) = -(B : Int) by omega, Int.neg_fdiv_neg, Int.neg_fmod_neg, Int.fdiv_eq_ediv_of_nonneg _ (Int.natCast_nonneg _), Int.fmod_eq_emod_of_nonneg _ (Int.natCast_nonneg _)]
    exact ⟨rfl, by rw [Int.neg_one_mul]; rfl⟩
theorem sgn_split {c : Int} (hc : c ≠ 0) : ∃ s, Un1 s ∧ c = s * (c.natAbs : Int) ∧ ∀ d : Int, d.fmod c = s * ((d.fmod c).natAbs : Int) := by
  by_cases h : 0 < c
  · refine ⟨1, .inl rfl, by omega, fun d => ?_⟩
    have := Int.fmod_nonneg_of_pos d h
    omega
  · refine ⟨-1, .inr rfl, by omega, fun d => ?_⟩
    have := Int.fmod_nonneg_of_pos (-d) (b := -c) (by omega)
    rw [Int.neg_fmod_neg] at this
    omega
theorem fdiv_bound (d c : Int) (hc : c ≠ 0) : (d.fdiv c).natAbs * c.natAbs ≤ d.natAbs + c.natAbs := by
  have h1 := Int.mul_fdiv_add_fmod d c
  have h2 := fmod_lt d c hc
  have h3 : (d.fdiv c).natAbs * c.natAbs = (c * d.fdiv c).natAbs := by rw [Int.natAbs_mul, Nat.mul_comm]
  rw [h3]
  omega
section
variable {a b c d p q r s : Int} {h : Ph}
theorem Fr.ne {t b : Int} (f : Fr t b) : t ≠ 0 ∨ b ≠ 0 := by
  by_cases hb : b = 0
  · left; rw [f.inf hb]; decide
  · exact .inr hb
end
end Pd

namespace Pd
open PySem L2 Evl
local macro_rules | `(tactic| simp_arith only [$xs,*]) => `(tactic| simp (maxSteps := 4000000) (dsimp := false) (disch := first | assumption | decide | omega | walk_at "cm") only [runDef_ap, sVar_ap, sC_ap, sBin_ap, sNeg_ap, sAnd_ap, sOr_ap, sNot_ap, sIf_ap, sTst_ap, qAnd_ap, qOr_ap, qNot_ap, qYes_ap, sChain_ap, sChain3_ap, sNil_ap, sCons_ap, sTup_ap, sLst_ap, sLstM_ap, sCall_ap, g1_ap, g2_ap, sFn_ap, sAsg_ap, gNm_ap, gTp_ap, gConsS_ap, gNilS_ap, sPar_ap, sPar3_ap, sRet_ap, sRetN_ap, sNx_ap, sBrk_ap, sCnt_ap, sSeq_ap, sIte_ap, sDrop_ap, sFrz_ap, sAug_ap, iRange1_ap, iRange2_ap, iSeq_ap, sFor_ap, sLc_ap, R.toG_ok, ↓R.bind_bnd, bnd_ok, ↓R.bd_bdn, bdn_ok, ↓R.toF_tof, tof_ok, ↓F.seq_sqn, sqn_nx, sqn_ret, sqn_cnt, sqn_brk, ↓F.turn_trn, trn_nx, trn_ret, trn_cnt, trn_brk, F.end_nx, F.end_ret, ↓br_true, br_true, ↓br_false, br_false, Dbr, Dneg, Dtst, opt_some, dAdd_int, dIAdd_int, dSub_int, dLt_int, dLe_int, dGt_int, dGe_int, dEq_int, dNe_int, dEq_bl, dNe_bl, dMul_cm, dMod_pos, dDiv_pos, dAbs_int, dMax2_int, dMin2_int, dInt_int, dInt_bl, dIx_tup, dIx_lst, dIx_seq, dLen_tup, dLen_lst, dLen_seq, atI_0, atI_1, atI_2, atI_3, List.map_cons, List.map_nil, List.length_cons, List.length_nil, List.replicate_succ, List.replicate_zero, List.cons_append, List.nil_append, List.getElem?_cons_zero, List.getElem?_cons_succ, List.set_cons_zero, List.set_cons_succ, Nat.reduceAdd, Nat.reduceSub, Nat.zero_add, Nat.add_zero, Nat.sub_self, Nat.reduceMul, mostL_def, Nat.reduceLeDiff, Nat.reduceLT, ite_true, ite_false, if_true, if_false, ↓reduceIte, reduceIte, ↓br_ite, Bool.false_eq_true, reduceCtorEq, Bool.not_true, Bool.not_false, decide_true, decide_false, Int.cast_ofNat_Int, Int.reduceBEq, Int.reduceAdd, Int.reduceSub, Int.reduceMul, Int.reduceNeg, Int.reduceLT, Int.reduceLE, Int.reduceMod, Int.reduceDiv, sMeth1_ap, sSl_ap, sRev_ap, oNo_ap, oPart_ap, sDict0_ap, sSetL_ap, sLc2_ap, sStar_ap, sDGet1_ap, sDGet2_ap, sPutD_ap, iItemsD_ap, iValsD_ap, iKeysD_ap, sDict0T_ap, sPutT_ap, sTGet1_ap, sFrzT_ap, iKeysT_ap, $xs,*])
local macro_rules | `(tactic| walk_at "sm") => `(tactic| first | assumption | exact Sm.lit | exact Sm.mul (by walk_at "sm") (by walk_at "sm") | exact Sm.add (by walk_at "sm") (by walk_at "sm") | exact Sm.sub (by walk_at "sm") (by walk_at "sm") | exact Sm.neg (by walk_at "sm"))
local macro_rules | `(tactic| walk_at "cm") => `(tactic| ((with_reducible show CM _ _); first | assumption | exact CM.left (by decide) | exact CM.right (by decide) | exact CM.left (by omega) | exact CM.right (by omega) | exact CM.of (by walk_at "sm") (by walk_at "sm") (by decide)))
section
variable {a b c d L : Int} {h : Ph}
end
section
variable {a b c d p q r s : Int} {h : Ph}
theorem Mx.back {j : Nat} (x : Mx j a b c d) : Mx j d (-b) (-c) a := ⟨x.ss, x.sq.neg, x.sr.neg, x.sp, by have := x.det; grind⟩
end
def wid (L q : Int) : Int := L / (Int.gcd L (q * q) : Int)
theorem wid_ok {L q : Int} (hL : 1 ≤ L) : 1 ≤ wid L q ∧ wid L q ≤ L ∧ wid L q * (Int.gcd L (q * q) : Int) = L := by
  have hg : 0 < Int.gcd L (q * q) := by have := gcd_ne (x := L) (y := q * q) (.inl (by omega)); omega
  have hd : (Int.gcd L (q * q) : Int) ∣ L := Int.gcd_dvd_left _ _
  have e : wid L q * (Int.gcd L (q * q) : Int) = L := Int.ediv_mul_cancel hd
  have h1 : 1 ≤ wid L q := by
    by_cases h : 1 ≤ wid L q
    · exact h
    · have : wid L q * (Int.gcd L (q * q) : Int) ≤ 0 := Int.mul_nonpos_of_nonpos_of_nonneg (by omega) (by omega)
      omega
  refine ⟨h1, ?_, e⟩
  have : wid L q * 1 ≤ wid L q * (Int.gcd L (q * q) : Int) := Int.mul_le_mul_of_nonneg_left (by omega) (by omega)
  omega
theorem wid_dvd {L q x : Int} (hL : 1 ≤ L) : L ∣ q * q * x ↔ wid L q ∣ x := by
  obtain ⟨w1, w2, w3⟩ := wid_ok (q := q) hL
  have hg : (Int.gcd L (q * q) : Int) ≠ 0 := by have := gcd_ne (x := L) (y := q * q) (.inl (by omega)); omega
  obtain ⟨k, hk⟩ := Int.gcd_dvd_right L (q * q)
  have hc : Int.gcd (wid L q) k = 1 := by
    have h1 : Int.gcd (wid L q * (Int.gcd L (q * q) : Int)) (k * (Int.gcd L (q * q) : Int)) = Int.gcd L (q * q) := by
      rw [w3, Int.mul_comm k, ← hk]
    rw [Int.gcd_mul_right, Int.natAbs_natCast] at h1
    have h2 : 0 < Int.gcd L (q * q) := by omega
    exact Nat.eq_of_mul_eq_mul_right h2 (by rw [h1, Nat.one_mul])
  constructor
  · rintro ⟨m, hm⟩
    have e : (Int.gcd L (q * q) : Int) * (k * x) = (Int.gcd L (q * q) : Int) * (wid L q * m) := by
      calc (Int.gcd L (q * q) : Int) * (k * x) = (Int.gcd L (q * q) : Int) * k * x := by rw [Int.mul_assoc]
        _ = q * q * x := by rw [← hk]
        _ = L * m := hm
        _ = wid L q * (Int.gcd L (q * q) : Int) * m := by rw [w3]
        _ = (Int.gcd L (q * q) : Int) * (wid L q * m) := by grind
    have e2 := Int.eq_of_mul_eq_mul_left hg e
    exact dvd_cop ⟨m, e2⟩ hc
  · rintro ⟨m, rfl⟩
    refine ⟨k * m, ?_⟩
    calc q * q * (wid L q * m) = (Int.gcd L (q * q) : Int) * k * (wid L q * m) := by rw [← hk]
      _ = wid L q * (Int.gcd L (q * q) : Int) * (k * m) := by grind
      _ = L * (k * m) := by rw [w3]
section
variable {L p q : Int} {h : Ph}
theorem law_width_ok (hL : 1 ≤ L) (hL2 : L ≤ 100) (sq : Sm 200 q) : f__law_width [.int L, T2 p q] h = .ok (.int (wid L q)) h := by
  have e1 := gcdL_ok L (q * q) h (fu_lt ((sq.mul sq).mono (by decide)))
  have hg := gcd_ne (x := L) (y := q * q) (.inl (by omega))
  have sL : Sm 400 L := Sm.of_lt 400 (n := 101) (by omega) (by omega) (by decide +kernel)
  have sg := (gcd_sm sL (sq.mul sq)).mono (by decide : 400 ≤ 8000)
  unfold f__law_width wid; simp_arith only [e1, dDiv_n]
theorem width_in_ok (hL : 1 ≤ L) (hL2 : L ≤ 100) (sq : Sm 200 q) : f_width_in [.int L, T2 p q] h = .ok (.int (wid L q)) h := by
  have e1 := common_ok (a := L) (h := h) ((sq.mul sq).mono (by decide : 200 + 200 ≤ 600))
  have hg := gcd_ne (x := L) (y := q * q) (.inl (by omega))
  have sL : Sm 400 L := Sm.of_lt 400 (n := 101) (by omega) (by omega) (by decide +kernel)
  have sg := (gcd_sm sL (sq.mul sq)).mono (by decide : 400 ≤ 8000)
  unfold f_width_in wid; simp_arith only [e1, dDiv_n]
end
end Pd

namespace Pd
theorem lst_iff {a b c : Int} : Lst a b c = true ↔ (-a ≤ b ∧ b ≤ a ∧ a ≤ c) ∧ (0 ≤ b ∨ (b ≠ -a ∧ a ≠ c)) := by
  unfold Lst
  simp only [Bool.and_eq_true, Bool.or_eq_true, decide_eq_true_eq, Bool.not_eq_true', beq_eq_false_iff_ne, ne_eq]
end Pd

namespace Pd
open PySem L2 Evl
local macro_rules | `(tactic| simp_arith only [$xs,*]) => `(tactic| simp (maxSteps := 4000000) (dsimp := false) (disch := first | assumption | decide | omega | walk_at "cm") only [runDef_ap, sVar_ap, sC_ap, sBin_ap, sNeg_ap, sAnd_ap, sOr_ap, sNot_ap, sIf_ap, sTst_ap, qAnd_ap, qOr_ap, qNot_ap, qYes_ap, sChain_ap, sChain3_ap, sNil_ap, sCons_ap, sTup_ap, sLst_ap, sLstM_ap, sCall_ap, g1_ap, g2_ap, sFn_ap, sAsg_ap, gNm_ap, gTp_ap, gConsS_ap, gNilS_ap, sPar_ap, sPar3_ap, sRet_ap, sRetN_ap, sNx_ap, sBrk_ap, sCnt_ap, sSeq_ap, sIte_ap, sDrop_ap, sFrz_ap, sAug_ap, iRange1_ap, iRange2_ap, iSeq_ap, sFor_ap, sLc_ap, R.toG_ok, ↓R.bind_bnd, bnd_ok, ↓R.bd_bdn, bdn_ok, ↓R.toF_tof, tof_ok, ↓F.seq_sqn, sqn_nx, sqn_ret, sqn_cnt, sqn_brk, ↓F.turn_trn, trn_nx, trn_ret, trn_cnt, trn_brk, F.end_nx, F.end_ret, ↓br_true, br_true, ↓br_false, br_false, Dbr, Dneg, Dtst, opt_some, dAdd_int, dIAdd_int, dSub_int, dLt_int, dLe_int, dGt_int, dGe_int, dEq_int, dNe_int, dEq_bl, dNe_bl, dMul_cm, dMod_pos, dDiv_pos, dAbs_int, dMax2_int, dMin2_int, dInt_int, dInt_bl, dIx_tup, dIx_lst, dIx_seq, dLen_tup, dLen_lst, dLen_seq, atI_0, atI_1, atI_2, atI_3, List.map_cons, List.map_nil, List.length_cons, List.length_nil, List.replicate_succ, List.replicate_zero, List.cons_append, List.nil_append, List.getElem?_cons_zero, List.getElem?_cons_succ, List.set_cons_zero, List.set_cons_succ, Nat.reduceAdd, Nat.reduceSub, Nat.zero_add, Nat.add_zero, Nat.sub_self, Nat.reduceMul, mostL_def, Nat.reduceLeDiff, Nat.reduceLT, ite_true, ite_false, if_true, if_false, ↓reduceIte, reduceIte, ↓br_ite, Bool.false_eq_true, reduceCtorEq, Bool.not_true, Bool.not_false, decide_true, decide_false, Int.cast_ofNat_Int, Int.reduceBEq, Int.reduceAdd, Int.reduceSub, Int.reduceMul, Int.reduceNeg, Int.reduceLT, Int.reduceLE, Int.reduceMod, Int.reduceDiv, sMeth1_ap, sSl_ap, sRev_ap, oNo_ap, oPart_ap, sDict0_ap, sSetL_ap, sLc2_ap, sStar_ap, sDGet1_ap, sDGet2_ap, sPutD_ap, iItemsD_ap, iValsD_ap, iKeysD_ap, sDict0T_ap, sPutT_ap, sTGet1_ap, sFrzT_ap, iKeysT_ap, $xs,*])
local macro_rules | `(tactic| walk_at "sm") => `(tactic| first | assumption | exact Sm.lit | exact Sm.mul (by walk_at "sm") (by walk_at "sm") | exact Sm.add (by walk_at "sm") (by walk_at "sm") | exact Sm.sub (by walk_at "sm") (by walk_at "sm") | exact Sm.neg (by walk_at "sm"))
local macro_rules | `(tactic| walk_at "cm") => `(tactic| ((with_reducible show CM _ _); first | assumption | exact CM.left (by decide) | exact CM.right (by decide) | exact CM.left (by omega) | exact CM.right (by omega) | exact CM.of (by walk_at "sm") (by walk_at "sm") (by decide)))
theorem while_run {c : ST} {f : SS} (P : Nat → Pe → Ph → Prop) (Q : Pe → Ph → Prop) (H : ∀ m e h, P m e h → (∃ h1, c e h = .ok false h1 ∧ Q e h1) ∨ ∃ h1 e2 h2 m2, c e h = .ok true h1 ∧ (f e h1 = .nx e2 h2 ∨ f e h1 = .cnt e2 h2) ∧ m2 < m ∧ P m2 e2 h2) :
    ∀ (m N : Nat) (e : Pe) (h : Ph), m < N → P m e h → ∃ e1 h1, sWhile N c f e h = .nx e1 h1 ∧ Q e1 h1 := by
  intro m
  induction m using Nat.strongRecOn with
  | _ m ih =>
    intro N e h hN p
    obtain ⟨N, rfl⟩ : ∃ M, N = M + 1 := ⟨N - 1, by omega⟩
    rcases H m e h p with ⟨h1, e1, q⟩ | ⟨h1, e2, h2, m2, e1, e3, lt, p2⟩
    · refine ⟨e, h1, ?_, q⟩
      unfold sWhile
      rw [e1]
      rfl
    · obtain ⟨e4, h4, q1, q2⟩ := ih m2 lt N e2 h2 (by omega) p2
      refine ⟨e4, h4, ?_, q2⟩
      unfold sWhile
      rw [e1]
      show (f e h1).turn _ = _
      rcases e3 with e3 | e3 <;> rw [e3] <;> exact q1
structure S7 where
  A : Int
  B : Int
  C : Int
  p : Int
  q : Int
  r : Int
  s : Int
def S7.nxt (x : S7) : S7 := if -x.A < x.B ∧ x.B ≤ x.A then ⟨x.C, -x.B, x.A, x.q, -x.p, x.s, -x.r⟩ else ⟨x.A, x.B + 2 * x.A * ((x.A - x.B) / (2 * x.A)), x.A * ((x.A - x.B) / (2 * x.A)) * ((x.A - x.B) / (2 * x.A)) + x.B * ((x.A - x.B) / (2 * x.A)) + x.C, x.p, x.p * ((x.A - x.B) / (2 * x.A)) + x.q, x.r, x.r * ((x.A - x.B) / (2 * x.A)) + x.s⟩
inductive Rch (x : S7) : Nat → S7 → Prop
  | one : Rch x 0 x
  | step {n : Nat} {y : S7} : Rch x n y → Lst y.A y.B y.C = false → Rch x (n + 1) y.nxt
theorem Rch.pre {x y : S7} {n : Nat} (h : Rch x n y) : ∀ m, m < n → ∃ z, Rch x m z ∧ Lst z.A z.B z.C = false := by
  induction h with
  | one => intro m hm; omega
  | @step n y h l ih =>
    intro m hm
    by_cases e : m = n
    · subst e; exact ⟨y, h, l⟩
    · exact ih m (by omega)
theorem Rch.det {x y z : S7} {n : Nat} (h : Rch x n y) : Rch x n z → y = z := by
  intro g
  induction h generalizing z with
  | one => cases g; rfl
  | step h l ih =>
    cases g with
    | step g' l' => rw [ih g']
theorem Rch.same {x y z : S7} {n m : Nat} (h : Rch x n y) (g : Rch x m z) (l : Lst y.A y.B y.C = true) (l' : Lst z.A z.B z.C = true) : y = z := by
  rcases Nat.lt_trichotomy n m with c | c | c
  · obtain ⟨w, hw, lw⟩ := g.pre n c
    rw [← h.det hw, l] at lw; cases lw
  · subst c; exact h.det g
  · obtain ⟨w, hw, lw⟩ := h.pre m c
    rw [← g.det hw, l'] at lw; cases lw
structure Rst (k : Nat) (a b c A B C p q r s : Int) : Prop where
  eA : lA a b c p r = A
  eB : lB a b c p q r s = B
  eC : lA a b c q s = C
  det : p * s - q * r = 1
  pos : 0 < A
  le : A ≤ a
  sB : Sm k B
  ra : ∃ n, Rch ⟨a, b, c, 1, 0, 0, 1⟩ n ⟨A, B, C, p, q, r, s⟩
theorem Rst.same {k k' : Nat} {a b c A B C p q r s A' B' C' p' q' r' s' : Int} (x : Rst k a b c A B C p q r s) (y : Rst k' a b c A' B' C' p' q' r' s') (l : Lst A B C = true) (l' : Lst A' B' C' = true) : p = p' ∧ q = q' ∧ r = r' ∧ s = s' := by
  obtain ⟨n, h⟩ := x.ra
  obtain ⟨m, g⟩ := y.ra
  have e := h.same g l l'
  cases e
  exact ⟨rfl, rfl, rfl, rfl⟩
theorem Rst.mea {k : Nat} {a b c A B C p q r s : Int} (x : Rst k a b c A B C p q r s) : 4 * A * C - B * B = 4 * a * c - b * b := by
  rw [← x.eA, ← x.eB, ← x.eC]; exact led_measure x.det
theorem Rst.one {k : Nat} {a b c : Int} (f : Fm k a b c) : Rst k a b c a b c 1 0 0 1 := ⟨by unfold lA; grind, by unfold lB; grind, by unfold lA; grind, by decide, f.pos, Int.le_refl _, f.sb, 0, .one⟩
def rmu (A B C : Int) : Nat := 4 * A.toNat + (if -A < B ∧ B ≤ A then (if Lst A B C = true then 0 else 1) else 3)
theorem rmu_le {A B C : Int} : rmu A B C ≤ 4 * A.toNat + 3 := by unfold rmu; split <;> (try split) <;> omega
theorem rmu_in {A B C : Int} (h1 : -A < B ∧ B ≤ A) : rmu A B C = 4 * A.toNat + (if Lst A B C = true then 0 else 1) := by unfold rmu; rw [if_pos h1]
theorem Rst.turn {k : Nat} {a b c A B C p q r s : Int} (x : Rst k a b c A B C p q r s) (h1 : -A < B ∧ B ≤ A) (hl : Lst A B C = false) (hC : 0 < C) : Rst k a b c C (-B) A q (-p) s (-r) ∧ rmu C (-B) A < rmu A B C := by
  have hn : ¬ ((-A ≤ B ∧ B ≤ A ∧ A ≤ C) ∧ (0 ≤ B ∨ (B ≠ -A ∧ A ≠ C))) := fun z => by rw [lst_iff.mpr z] at hl; cases hl
  have hle := x.le
  refine ⟨⟨x.eC, by rw [← x.eB]; unfold lB; grind, by rw [← x.eA]; unfold lA; grind, by have := x.det; grind, hC, ?_, x.sB.neg, by obtain ⟨n, h⟩ := x.ra; have e := h.step hl; unfold S7.nxt at e; rw [if_pos h1] at e; exact ⟨_, e⟩⟩, ?_⟩
  · by_cases h : C ≤ A
    · omega
    · exact absurd ⟨⟨by omega, h1.2, by omega⟩, .inr ⟨by omega, by omega⟩⟩ hn
  · have v1 := rmu_in (C := C) h1
    rw [hl] at v1
    simp only [Bool.false_eq_true, if_false] at v1
    by_cases h : C < A
    · have v2 := rmu_le (A := C) (B := -B) (C := A)
      omega
    · have e : C = A := by
        by_cases h2 : C = A
        · exact h2
        · exact absurd ⟨⟨by omega, h1.2, by omega⟩, .inr ⟨by omega, by omega⟩⟩ hn
      subst e
      have hb : B < 0 := by
        by_cases h2 : 0 ≤ B
        · exact absurd ⟨⟨by omega, h1.2, by omega⟩, .inl h2⟩ hn
        · omega
      have l2 : Lst C (-B) C = true := lst_iff.mpr ⟨⟨by omega, by omega, by omega⟩, .inl (by omega)⟩
      have v2 := rmu_in (A := C) (B := -B) (C := C) (by omega)
      rw [l2] at v2
      simp only [if_true] at v2
      omega
end Pd

namespace Pd
open PySem L2 Evl
local macro_rules | `(tactic| simp_arith only [$xs,*]) => `(tactic| simp (maxSteps := 4000000) (dsimp := false) (disch := first | assumption | decide | omega | walk_at "cm") only [runDef_ap, sVar_ap, sC_ap, sBin_ap, sNeg_ap, sAnd_ap, sOr_ap, sNot_ap, sIf_ap, sTst_ap, qAnd_ap, qOr_ap, qNot_ap, qYes_ap, sChain_ap, sChain3_ap, sNil_ap, sCons_ap, sTup_ap, sLst_ap, sLstM_ap, sCall_ap, g1_ap, g2_ap, sFn_ap, sAsg_ap, gNm_ap, gTp_ap, gConsS_ap, gNilS_ap, sPar_ap, sPar3_ap, sRet_ap, sRetN_ap, sNx_ap, sBrk_ap, sCnt_ap, sSeq_ap, sIte_ap, sDrop_ap, sFrz_ap, sAug_ap, iRange1_ap, iRange2_ap, iSeq_ap, sFor_ap, sLc_ap, R.toG_ok, ↓R.bind_bnd, bnd_ok, ↓R.bd_bdn, bdn_ok, ↓R.toF_tof, tof_ok, ↓F.seq_sqn, sqn_nx, sqn_ret, sqn_cnt, sqn_brk, ↓F.turn_trn, trn_nx, trn_ret, trn_cnt, trn_brk, F.end_nx, F.end_ret, ↓br_true, br_true, ↓br_false, br_false, Dbr, Dneg, Dtst, opt_some, dAdd_int, dIAdd_int, dSub_int, dLt_int, dLe_int, dGt_int, dGe_int, dEq_int, dNe_int, dEq_bl, dNe_bl, dMul_cm, dMod_pos, dDiv_pos, dAbs_int, dMax2_int, dMin2_int, dInt_int, dInt_bl, dIx_tup, dIx_lst, dIx_seq, dLen_tup, dLen_lst, dLen_seq, atI_0, atI_1, atI_2, atI_3, List.map_cons, List.map_nil, List.length_cons, List.length_nil, List.replicate_succ, List.replicate_zero, List.cons_append, List.nil_append, List.getElem?_cons_zero, List.getElem?_cons_succ, List.set_cons_zero, List.set_cons_succ, Nat.reduceAdd, Nat.reduceSub, Nat.zero_add, Nat.add_zero, Nat.sub_self, Nat.reduceMul, mostL_def, Nat.reduceLeDiff, Nat.reduceLT, ite_true, ite_false, if_true, if_false, ↓reduceIte, reduceIte, ↓br_ite, Bool.false_eq_true, reduceCtorEq, Bool.not_true, Bool.not_false, decide_true, decide_false, Int.cast_ofNat_Int, Int.reduceBEq, Int.reduceAdd, Int.reduceSub, Int.reduceMul, Int.reduceNeg, Int.reduceLT, Int.reduceLE, Int.reduceMod, Int.reduceDiv, sMeth1_ap, sSl_ap, sRev_ap, oNo_ap, oPart_ap, sDict0_ap, sSetL_ap, sLc2_ap, sStar_ap, sDGet1_ap, sDGet2_ap, sPutD_ap, iItemsD_ap, iValsD_ap, iKeysD_ap, sDict0T_ap, sPutT_ap, sTGet1_ap, sFrzT_ap, iKeysT_ap, $xs,*])
local macro_rules | `(tactic| walk_at "sm") => `(tactic| first | assumption | exact Sm.lit | exact Sm.mul (by walk_at "sm") (by walk_at "sm") | exact Sm.add (by walk_at "sm") (by walk_at "sm") | exact Sm.sub (by walk_at "sm") (by walk_at "sm") | exact Sm.neg (by walk_at "sm"))
local macro_rules | `(tactic| walk_at "cm") => `(tactic| ((with_reducible show CM _ _); first | assumption | exact CM.left (by decide) | exact CM.right (by decide) | exact CM.left (by omega) | exact CM.right (by omega) | exact CM.of (by walk_at "sm") (by walk_at "sm") (by decide)))
theorem for_brk {g : SG} {f : SS} (P : Nat → Pe → Ph → Prop) (Q : Pe → Ph → Prop) (H : ∀ m x e h, P m e h → ∃ e1 h1, g x e h = .ok e1 h1 ∧ ((∃ e2 h2, f e1 h1 = .brk e2 h2 ∧ Q e2 h2) ∨ ∃ e2 h2 m2, (f e1 h1 = .nx e2 h2 ∨ f e1 h1 = .cnt e2 h2) ∧ m2 < m ∧ P m2 e2 h2)) :
    ∀ (xs : List D) (m : Nat) (e : Pe) (h : Ph), m < xs.length → P m e h → ∃ e1 h1, forGo g f xs e h = .nx e1 h1 ∧ Q e1 h1 := by
  intro xs
  induction xs with
  | nil => intro m e h hm; exact absurd hm (by simp)
  | cons x r ih =>
    intro m e h hm p
    obtain ⟨e1, h1, a, b⟩ := H m x e h p
    unfold forGo
    rw [a]
    show ∃ e3 h3, (f e1 h1).turn _ = _ ∧ _
    rcases b with ⟨e2, h2, b, q⟩ | ⟨e2, h2, m2, b, lt, p2⟩
    · rw [b]; exact ⟨e2, h2, rfl, q⟩
    · obtain ⟨e4, h4, q1, q2⟩ := ih m2 e2 h2 (by rw [List.length_cons] at hm; omega) p2
      refine ⟨e4, h4, ?_, q2⟩
      rcases b with b | b <;> rw [b] <;> exact q1
theorem compGo_fm {i : Nat} {tt : ST} {te : SE} {e : Pe} {h : Ph} (p : D → Bool) (f : D → D) : ∀ (xs : List D), (∀ x ∈ xs, tt (e.set i (some x)) h = .ok (p x) h) → (∀ x ∈ xs, p x = true → te (e.set i (some x)) h = .ok (f x) h) → compGo (gNm i) tt te xs e h = .ok ((xs.filter p).map f) h := by
  intro xs
  induction xs with
  | nil => intro _ _; rfl
  | cons x r ih =>
    intro hp hf
    have k := ih (fun y hy => hp y (List.mem_cons_of_mem _ hy)) (fun y hy => hf y (List.mem_cons_of_mem _ hy))
    rw [compGo_cons]
    show (tt (e.set i (some x)) h).bd _ = _
    rw [hp x List.mem_cons_self]
    cases hq : p x with
    | false =>
      rw [List.filter_cons_of_neg (by rw [hq]; simp)]
      exact k
    | true =>
      rw [List.filter_cons_of_pos hq]
      show (te (e.set i (some x)) h).bd _ = _
      rw [hf x List.mem_cons_self hq]
      show (compGo (gNm i) tt te r e h).bd _ = _
      rw [k]
      rfl
theorem lc_fm {it : SIt} {i : Nat} {tt : ST} {te : SE} {vs : List Nat} {e : Pe} {h h1 : Ph} {xs : List D} (p : D → Bool) (f : D → D) (hit : it e h = .ok xs h1) (hl : xs.length ≤ mostL) (hp : ∀ x ∈ xs, tt ((wipeD e vs).set i (some x)) h1 = .ok (p x) h1) (hf : ∀ x ∈ xs, p x = true → te ((wipeD e vs).set i (some x)) h1 = .ok (f x) h1) :
    sLc it (gNm i) tt te vs e h = .ok (.lst ((xs.filter p).map f)) h1 := by
  unfold sLc
  rw [hit]
  show (if xs.length ≤ mostL then _ else _) = _
  rw [if_pos hl, compGo_fm p f xs hp hf]
  rfl
theorem lc_mp {it : SIt} {i : Nat} {te : SE} {vs : List Nat} {e : Pe} {h h1 : Ph} {xs : List D} (f : D → D) (hit : it e h = .ok xs h1) (hl : xs.length ≤ mostL) (hf : ∀ x ∈ xs, te ((wipeD e vs).set i (some x)) h1 = .ok (f x) h1) :
    sLc it (gNm i) qYes te vs e h = .ok (.lst (xs.map f)) h1 := by
  have k := lc_fm (tt := qYes) (fun _ => true) f hit hl (fun _ _ => rfl) fun x hx _ => hf x hx
  rw [List.filter_eq_self.mpr (fun _ _ => rfl)] at k
  exact k
theorem det_mul {p q r s p' q' r' s' : Int} (d : p * s - q * r = 1) (d' : p' * s' - q' * r' = 1) : (p * p' + q * r') * (r * q' + s * s') - (p * q' + q * s') * (r * p' + s * r') = 1 := by
  have e : (p * p' + q * r') * (r * q' + s * s') - (p * q' + q * s') * (r * p' + s * r') = (p * s - q * r) * (p' * s' - q' * r') := by grind
  rw [e, d, d']; decide
structure Rdc (a b c A B C : Int) : Prop where
  l : Lst A B C = true
  u : ∀ A' B' C' p q r s, p * s - q * r = 1 → lA a b c p r = A' → lB a b c p q r s = B' → lA a b c q s = C' → Lst A' B' C' = true → A' = A ∧ B' = B ∧ C' = C
theorem Rdc.led {a b c A B C p q r s : Int} (x : Rdc a b c A B C) (d : p * s - q * r = 1) {a' b' c' : Int} (e1 : lA a b c p r = a') (e2 : lB a b c p q r s = b') (e3 : lA a b c q s = c') : Rdc a' b' c' A B C := by
  refine ⟨x.l, fun A' B' C' p' q' r' s' d' h1 h2 h3 l' => ?_⟩
  subst e1 e2 e3
  rw [led_led] at h1 h3
  rw [led_ledB] at h2
  exact x.u A' B' C' (p * p' + q * r') (p * q' + q * s') (r * p' + s * r') (r * q' + s * s') (det_mul d d') h1 h2 h3 l'
theorem Rdc.one {a b c A B C A' B' C' : Int} (x : Rdc a b c A B C) (y : Rdc a b c A' B' C') {p q r s : Int} (d : p * s - q * r = 1) (e1 : lA a b c p r = A) (e2 : lB a b c p q r s = B) (e3 : lA a b c q s = C) : A = A' ∧ B = B' ∧ C = C' := y.u A B C p q r s d e1 e2 e3 x.l
theorem Dr.put {d m : Nat} {h h' : Ph} (a : Dr d h h') (hd : d < h.length) (hm : h.length ≤ m) (o : PO) : Dr d h (h'.set m o) := by
  refine ⟨?_, by rw [List.length_set]; exact a.len, fun k hk hl => ?_⟩
  · obtain ⟨l, x, t, e⟩ := a.dc
    exact ⟨l, x, t, by rw [List.getElem?_set_ne (by omega)]; exact e⟩
  · rw [List.getElem?_set_ne (by omega)]
    exact a.keep k hk hl
structure Mk (d m : Nat) (P : D → Prop) (k : Nat) (h h' : Ph) : Prop where
  dr : Dr d h h'
  hd : d < h.length
  hm : h.length ≤ m
  ob : ∃ ys, h'[m]? = some (.lst ys) ∧ (∀ y ∈ ys, P y) ∧ ys.length ≤ k
theorem Mk.mono {d m k j : Nat} {P : D → Prop} {h h' : Ph} (x : Mk d m P k h h') (hk : k ≤ j) : Mk d m P j h h' := by
  obtain ⟨ys, e, p, l⟩ := x.ob
  exact ⟨x.dr, x.hd, x.hm, ys, e, p, by omega⟩
theorem Mk.app {d m k : Nat} {P : D → Prop} {h h' : Ph} (x : Mk d m P k h h') (hk : k < 1000000) {v : D} (hv : P v) : ∃ h2, dAppend (.ref m) v h' = .ok .non h2 ∧ Mk d m P (k + 1) h h2 := by
  obtain ⟨ys, e, p, l⟩ := x.ob
  have hl := (List.getElem?_eq_some_iff.mp e).1
  refine ⟨h'.set m (.lst (ys ++ [v])), ?_, x.dr.put x.hd x.hm _, x.hd, x.hm, ys ++ [v], List.getElem?_set_self hl, fun y hy => ?_, by rw [List.length_append, List.length_singleton]; omega⟩
  · unfold dAppend onLst
    simp only [e]
    rw [if_pos (by unfold mostL; omega)]
  · rcases List.mem_append.mp hy with q | q
    · exact p y q
    · rw [List.mem_singleton.mp q]; exact hv
theorem Mk.frz {d m k : Nat} {P : D → Prop} {h h' : Ph} (x : Mk d m P k h h') : ∃ ys h2, frzD (.ref m) h' = (.lst ys, h2) ∧ (∀ y ∈ ys, P y) ∧ ys.length ≤ k ∧ Dr d h h2 := by
  obtain ⟨ys, e, p, l⟩ := x.ob
  exact ⟨ys, h'.set m .dead, by unfold frzD; simp only [e], p, l, x.dr.put x.hd x.hm _⟩
theorem Mk.new {d : Nat} {P : D → Prop} {h : Ph} (hd : Dc h d) {ys : List D} (p : ∀ y ∈ ys, P y) : Mk d h.length P ys.length h (h ++ [.lst ys]) := by
  obtain ⟨l, x, t, e⟩ := id hd
  exact ⟨(Dr.refl hd).push _, (List.getElem?_eq_some_iff.mp e).1, Nat.le_refl _, ys, by simp, p, Nat.le_refl _⟩
end Pd

namespace Pd
open PySem L2 Evl
local macro_rules | `(tactic| walk_at "sm") => `(tactic| first | assumption | exact Sm.lit | exact Sm.mul (by walk_at "sm") (by walk_at "sm") | exact Sm.add (by walk_at "sm") (by walk_at "sm") | exact Sm.sub (by walk_at "sm") (by walk_at "sm") | exact Sm.neg (by walk_at "sm"))
local macro_rules | `(tactic| walk_at "cm") => `(tactic| ((with_reducible show CM _ _); first | assumption | exact CM.left (by decide) | exact CM.right (by decide) | exact CM.left (by omega) | exact CM.right (by omega) | exact CM.of (by walk_at "sm") (by walk_at "sm") (by decide)))
local macro_rules | `(tactic| simp_arith only [$xs,*]) => `(tactic| simp (maxSteps := 4000000) (dsimp := false) (disch := first | assumption | decide | omega | walk_at "cm") only [runDef_ap, sVar_ap, sC_ap, sBin_ap, sNeg_ap, sAnd_ap, sOr_ap, sNot_ap, sIf_ap, sTst_ap, qAnd_ap, qOr_ap, qNot_ap, qYes_ap, sChain_ap, sChain3_ap, sNil_ap, sCons_ap, sTup_ap, sLst_ap, sLstM_ap, sCall_ap, g1_ap, g2_ap, sFn_ap, sAsg_ap, gNm_ap, gTp_ap, gConsS_ap, gNilS_ap, sPar_ap, sPar3_ap, sRet_ap, sRetN_ap, sNx_ap, sBrk_ap, sCnt_ap, sSeq_ap, sIte_ap, sDrop_ap, sFrz_ap, sAug_ap, iRange1_ap, iRange2_ap, iSeq_ap, sFor_ap, sLc_ap, R.toG_ok, ↓R.bind_bnd, bnd_ok, ↓R.bd_bdn, bdn_ok, ↓R.toF_tof, tof_ok, ↓F.seq_sqn, sqn_nx, sqn_ret, sqn_cnt, sqn_brk, ↓F.turn_trn, trn_nx, trn_ret, trn_cnt, trn_brk, F.end_nx, F.end_ret, ↓br_true, br_true, ↓br_false, br_false, Dbr, Dneg, Dtst, opt_some, dAdd_int, dIAdd_int, dSub_int, dLt_int, dLe_int, dGt_int, dGe_int, dEq_int, dNe_int, dEq_bl, dNe_bl, dMul_cm, dMod_pos, dDiv_pos, dAbs_int, dMax2_int, dMin2_int, dInt_int, dInt_bl, dIx_tup, dIx_lst, dIx_seq, dLen_tup, dLen_lst, dLen_seq, atI_0, atI_1, atI_2, atI_3, List.map_cons, List.map_nil, List.length_cons, List.length_nil, List.replicate_succ, List.replicate_zero, List.cons_append, List.nil_append, List.getElem?_cons_zero, List.getElem?_cons_succ, List.set_cons_zero, List.set_cons_succ, Nat.reduceAdd, Nat.reduceSub, Nat.zero_add, Nat.add_zero, Nat.sub_self, Nat.reduceMul, mostL_def, Nat.reduceLeDiff, Nat.reduceLT, ite_true, ite_false, if_true, if_false, ↓reduceIte, reduceIte, ↓br_ite, Bool.false_eq_true, reduceCtorEq, Bool.not_true, Bool.not_false, decide_true, decide_false, Int.cast_ofNat_Int, Int.reduceBEq, Int.reduceAdd, Int.reduceSub, Int.reduceMul, Int.reduceNeg, Int.reduceLT, Int.reduceLE, Int.reduceMod, Int.reduceDiv, sMeth1_ap, sSl_ap, sRev_ap, oNo_ap, oPart_ap, sDict0_ap, sSetL_ap, sLc2_ap, sStar_ap, sDGet1_ap, sDGet2_ap, sPutD_ap, iItemsD_ap, iValsD_ap, iKeysD_ap, sDict0T_ap, sPutT_ap, sTGet1_ap, sFrzT_ap, iKeysT_ap, $xs,*])
def l_least_top_1 : SS := sAug 3 dIAdd (sVar 1)
def f_least_top : Fn := runDef 4 (sSeq (sAsg (sBin dMod (sVar 2) (sVar 1)) (gNm 3)) (sSeq (sWhile FU (sTst (sBin dNe (sFn f_common_of (sCons (sVar 3) (sCons (sVar 0) (sNil)))) (sC (.int 1)))) (l_least_top_1)) (sRet (sVar 3))))
def f_rim_in : Fn := runDef 5 (sSeq (sAsg (sVar 1) (gTp 2 (gConsS (gNm 3) (gConsS (gNm 4) (gNilS))))) (sSeq (sAsg (sFn f_common_of (sCons (sVar 4) (sCons (sVar 0) (sNil)))) (gNm 2)) (sRet (sTup (sCons (sFn f_least_top (sCons (sVar 2) (sCons (sFn f_common_of (sCons (sVar 2) (sCons (sBin dDiv (sVar 0) (sVar 2)) (sNil)))) (sCons (sBin dMul (sVar 3) (sBin dDiv (sVar 4) (sVar 2))) (sNil))))) (sCons (sVar 2) (sNil)))))))
def f_rim_of : Fn := runDef 2 (sSeq (sDrop (sFn f_require_level (sCons (sVar 0) (sNil)))) (sSeq (sDrop (sFn f_require_fraction (sCons (sVar 1) (sNil)))) (sRet (sFn f_rim_in (sCons (sVar 0) (sCons (sVar 1) (sNil)))))))
def l_column_beside_1 : SS := sSeq (sAsg (sBin dDiv (sVar 2) (sVar 3)) (gNm 8)) (sSeq (sPar 2 3 (sCons (sVar 3) (sCons (sBin dSub (sVar 2) (sBin dMul (sVar 8) (sVar 3))) (sNil)))) (sSeq (sPar 4 5 (sCons (sVar 5) (sCons (sBin dSub (sVar 4) (sBin dMul (sVar 8) (sVar 5))) (sNil)))) (sPar 6 7 (sCons (sVar 7) (sCons (sBin dSub (sVar 6) (sBin dMul (sVar 8) (sVar 7))) (sNil))))))
def f_column_beside : Fn := runDef 9 (sSeq (sAsg (sTup (sCons (sVar 1) (sCons (sVar 0) (sCons (sC (.int 0)) (sCons (sC (.int 1)) (sNil)))))) (gTp 4 (gConsS (gNm 2) (gConsS (gNm 3) (gConsS (gNm 4) (gConsS (gNm 5) (gNilS))))))) (sSeq (sAsg (sTup (sCons (sC (.int 1)) (sCons (sC (.int 0)) (sNil)))) (gTp 2 (gConsS (gNm 6) (gConsS (gNm 7) (gNilS))))) (sSeq (sWhile FU (sTst (sBin dNe (sVar 3) (sC (.int 0)))) (l_column_beside_1)) (sRet (sTup (sCons (sBin dMul (sNeg (sVar 6)) (sVar 2)) (sCons (sBin dMul (sVar 4) (sVar 2)) (sNil))))))))
structure Cb1 (B T : Int) (M : Nat) (a b f s l r : Int) : Prop where
  ea : l * B + f * T = a
  eb : r * B + s * T = b
  g : Int.gcd a b = 1
  sa : a.natAbs < 2 ^ 30
  sb : b.natAbs < 2 ^ 30
  sf : f.natAbs ≤ M
  sl : l.natAbs ≤ M
  ss : s.natAbs ≤ M
  sr : r.natAbs ≤ M
structure Cb2 (B T : Int) (M : Nat) (a b f s l r : Int) : Prop extends Cb1 B T M a b f s l r where
  sg : (0 ≤ a ∧ 0 ≤ b) ∨ (a ≤ 0 ∧ b ≤ 0)
  p1 : s.natAbs * a.natAbs + f.natAbs * b.natAbs ≤ M
  p2 : r.natAbs * a.natAbs + l.natAbs * b.natAbs ≤ M
theorem fdiv_nat {a b : Int} (hb : b ≠ 0) (sg : (0 ≤ a ∧ 0 ≤ b) ∨ (a ≤ 0 ∧ b ≤ 0)) : a.fdiv b = ((a.natAbs / b.natAbs : Nat) : Int) ∧ (a - a.fdiv b * b).natAbs = a.natAbs % b.natAbs ∧ ((0 ≤ b ∧ 0 ≤ a - a.fdiv b * b) ∨ (b ≤ 0 ∧ a - a.fdiv b * b ≤ 0)) := by
  have em := Int.mul_fdiv_add_fmod a b
  rcases sg with ⟨h1, h2⟩ | ⟨h1, h2⟩
  · obtain ⟨q1, q2⟩ := un_div (s := 1) (.inl rfl) a.natAbs b.natAbs
    have ea : (1 : Int) * (a.natAbs : Int) = a := by omega
    have eb : (1 : Int) * (b.natAbs : Int) = b := by omega
    rw [ea, eb] at q1 q2
    have e : a - a.fdiv b * b = a.fmod b := by rw [Int.mul_comm]; omega
    rw [e]
    exact ⟨q1, by rw [q2]; omega, .inl ⟨h2, by rw [q2]; omega⟩⟩
  · obtain ⟨q1, q2⟩ := un_div (s := -1) (.inr rfl) a.natAbs b.natAbs
    have ea : (-1 : Int) * (a.natAbs : Int) = a := by omega
    have eb : (-1 : Int) * (b.natAbs : Int) = b := by omega
    rw [ea, eb] at q1 q2
    have e : a - a.fdiv b * b = a.fmod b := by rw [Int.mul_comm]; omega
    rw [e]
    exact ⟨q1, by rw [q2]; omega, .inr ⟨h2, by rw [q2]; omega⟩⟩
theorem gcd_fdiv {a b : Int} : Int.gcd b (a - a.fdiv b * b) = Int.gcd a b := by
  have e : a - a.fdiv b * b = a.fmod b := by have := Int.mul_fdiv_add_fmod a b; rw [Int.mul_comm]; omega
  rw [e]; exact fmod_gcd a b
theorem Cb2.next {B T : Int} {M : Nat} {a b f s l r : Int} (x : Cb2 B T M a b f s l r) (hb : b ≠ 0) : Cb2 B T M b (a - a.fdiv b * b) s (f - a.fdiv b * s) r (l - a.fdiv b * r) ∧ (a - a.fdiv b * b).natAbs < b.natAbs := by
  obtain ⟨q1, q2, q3⟩ := fdiv_nat hb x.sg
  have hlt : (a - a.fdiv b * b).natAbs < b.natAbs := by rw [q2]; exact Nat.mod_lt _ (by omega)
  have ha : 1 ≤ a.natAbs ∨ a.natAbs = 0 := by omega
  have bnd : ∀ u v : Int, u.natAbs * a.natAbs + v.natAbs * b.natAbs ≤ M → (v - a.fdiv b * u).natAbs * b.natAbs + u.natAbs * (a.natAbs % b.natAbs) ≤ M := by
    intro u v h
    have h1 : (v - a.fdiv b * u).natAbs ≤ v.natAbs + (a.natAbs / b.natAbs) * u.natAbs := by
      rw [q1]
      refine Nat.le_trans (Int.natAbs_sub_le _ _) ?_
      rw [Int.natAbs_mul, Int.natAbs_natCast]
      exact Nat.le_refl _
    have h2 := Nat.mul_le_mul_right b.natAbs h1
    have h3 := Nat.div_add_mod a.natAbs b.natAbs
    have h4 : (v.natAbs + a.natAbs / b.natAbs * u.natAbs) * b.natAbs + u.natAbs * (a.natAbs % b.natAbs) = v.natAbs * b.natAbs + u.natAbs * (b.natAbs * (a.natAbs / b.natAbs) + a.natAbs % b.natAbs) := by grind
    rw [h3] at h4
    omega
  have le1 : ∀ u v : Int, (v - a.fdiv b * u).natAbs * b.natAbs + u.natAbs * (a.natAbs % b.natAbs) ≤ M → (v - a.fdiv b * u).natAbs ≤ M := by
    intro u v h
    have : (v - a.fdiv b * u).natAbs * 1 ≤ (v - a.fdiv b * u).natAbs * b.natAbs := Nat.mul_le_mul_left _ (by omega)
    omega
  have b1 := bnd _ _ x.p1
  have b2 := bnd _ _ x.p2
  refine ⟨⟨⟨x.eb, ?_, ?_, x.sb, ?_, x.ss, x.sr, le1 _ _ b1, le1 _ _ b2⟩, q3, ?_, ?_⟩, hlt⟩
  · have h1 := x.ea
    have h2 := x.eb
    rw [← h1, ← h2]
    generalize (l * B + f * T).fdiv (r * B + s * T) = q
    grind
  · rw [gcd_fdiv]; exact x.g
  · have := x.sb; omega
  · rw [q2]; exact b1
  · rw [q2]; exact b2
theorem Cb2.start {B T : Int} (hg : Int.gcd B T = 1) (hB : 0 ≤ B) (hT : 0 ≤ T) (sB : Sm 30 B) (sT : Sm 30 T) : Cb2 B T (B.natAbs + 2 * T.natAbs + 1) B T 0 1 1 0 := by
  refine ⟨⟨by omega, by omega, hg, sB.lt, sT.lt, by omega, by omega, by omega, by omega⟩, .inl ⟨hB, hT⟩, ?_, ?_⟩
  · show 1 * B.natAbs + 0 * T.natAbs ≤ _; omega
  · show 0 * B.natAbs + 1 * T.natAbs ≤ _; omega
theorem Cb2.start2 {B T : Int} (hg : Int.gcd B T = 1) (hB : 0 ≤ B) (hT : T < 0) (sB : Sm 30 B) (sT : Sm 30 T) : Cb2 B T (B.natAbs + 2 * T.natAbs + 1) T (B - B.fdiv T * T) 1 (0 - B.fdiv T * 1) 0 (1 - B.fdiv T * 0) ∧ (B - B.fdiv T * T).natAbs < T.natAbs := by
  have e : B - B.fdiv T * T = B.fmod T := by have := Int.mul_fdiv_add_fmod B T; rw [Int.mul_comm]; omega
  have hlt := fmod_lt B T (by omega)
  have hs : B.fmod T ≤ 0 := by
    obtain ⟨s, hs, e1, e2⟩ := sgn_split (c := T) (by omega)
    have e3 := e2 B
    rcases hs with rfl | rfl <;> omega
  have hq : (B.fdiv T).natAbs * T.natAbs ≤ B.natAbs + T.natAbs := fdiv_bound B T (by omega)
  have h1 : (B.fdiv T).natAbs * 1 ≤ (B.fdiv T).natAbs * T.natAbs := Nat.mul_le_mul_left _ (by omega)
  have hqn : (0 - B.fdiv T * 1).natAbs = (B.fdiv T).natAbs := by omega
  refine ⟨⟨⟨by omega, ?_, by rw [gcd_fdiv]; exact hg, sT.lt, by rw [e]; have := sT.lt; omega, by omega, by omega, by rw [hqn]; omega, by omega⟩, .inr ⟨by omega, by rw [e]; exact hs⟩, ?_, ?_⟩, by rw [e]; exact hlt⟩
  · generalize B.fdiv T = q; grind
  · rw [hqn, e]; show _ + 1 * _ ≤ _; omega
  · have : (1 - B.fdiv T * 0).natAbs = 1 := by rw [Int.mul_zero]; rfl
    rw [this]; show 1 * _ + 0 * _ ≤ _; omega
theorem column_step {B T : Int} {M : Nat} {a b f s l r : Int} {o0 o1 o8 : Option D} {h : Ph} (x : Cb1 B T M a b f s l r) (hb : b ≠ 0) :
    l_column_beside_1 [o0, o1, some (.int a), some (.int b), some (.int f), some (.int s), some (.int l), some (.int r), o8] h = .nx [o0, o1, some (.int b), some (.int (a - a.fdiv b * b)), some (.int s), some (.int (f - a.fdiv b * s)), some (.int r), some (.int (l - a.fdiv b * r)), some (.int (a.fdiv b))] h := by
  have sq : (a.fdiv b).natAbs < 18446744073709551616 := by
    have h1 := fdiv_bound a b hb
    have h2 := x.sa
    have h3 := x.sb
    have h4 : (a.fdiv b).natAbs * 1 ≤ (a.fdiv b).natAbs * b.natAbs := Nat.mul_le_mul_left _ (by omega)
    omega
  have e1 := dDiv_f (i := a) (h := h) hb ⟨x.sb⟩
  have c1 : CM (a.fdiv b) b := CM.left sq
  have c2 : CM (a.fdiv b) s := CM.left sq
  have c3 : CM (a.fdiv b) r := CM.left sq
  unfold l_column_beside_1
  simp_arith only [e1, c1, c2, c3]
theorem column_run {B T : Int} {M : Nat} {o0 o1 : Option D} {h : Ph} (N : Nat) (hN : 2 ^ 30 < N) {a b f s l r : Int} {o8 : Option D} (x : Cb2 B T M a b f s l r) :
    ∃ a' f' s' l' r' o8', sWhile N (sTst (sBin dNe (sVar 3) (sC (.int 0)))) l_column_beside_1 [o0, o1, some (.int a), some (.int b), some (.int f), some (.int s), some (.int l), some (.int r), o8] h = .nx [o0, o1, some (.int a'), some (.int 0), some (.int f'), some (.int s'), some (.int l'), some (.int r'), o8'] h ∧ Cb1 B T M a' 0 f' s' l' r' := by
  obtain ⟨e1, h1, q1, rfl, a', f', s', l', r', o8', rfl, y⟩ := while_run (c := sTst (sBin dNe (sVar 3) (sC (.int 0)))) (f := l_column_beside_1)
    (fun m e h' => h' = h ∧ ∃ a b f s l r o8, e = [o0, o1, some (.int a), some (.int b), some (.int f), some (.int s), some (.int l), some (.int r), o8] ∧ Cb2 B T M a b f s l r ∧ m = b.natAbs)
    (fun e h' => h' = h ∧ ∃ a f s l r o8, e = [o0, o1, some (.int a), some (.int 0), some (.int f), some (.int s), some (.int l), some (.int r), o8] ∧ Cb1 B T M a 0 f s l r)
    (by
      rintro m e h' ⟨rfl, a, b, f, s, l, r, o8, rfl, x, rfl⟩
      have hc : sTst (sBin dNe (sVar 3) (sC (.int 0))) [o0, o1, some (.int a), some (.int b), some (.int f), some (.int s), some (.int l), some (.int r), o8] h' = .ok (!(b == 0)) h' := by simp_arith only []
      by_cases hb : b = 0
      · subst hb
        exact .inl ⟨h', hc, rfl, a, f, s, l, r, o8, rfl, x.toCb1⟩
      · obtain ⟨y, lt⟩ := x.next hb
        refine .inr ⟨h', _, h', _, by rw [hc, beq_false_of_ne hb]; rfl, .inl (column_step x.toCb1 hb), lt, rfl, _, _, _, _, _, _, _, rfl, y, rfl⟩)
    b.natAbs N [o0, o1, some (.int a), some (.int b), some (.int f), some (.int s), some (.int l), some (.int r), o8] h (by have := x.sb; omega) ⟨rfl, _, _, _, _, _, _, _, rfl, x, rfl⟩
  exact ⟨a', f', s', l', r', o8', q1, y⟩
theorem column_ok {B T : Int} {k : Nat} {h : Ph} (hg : Int.gcd B T = 1) (hB : 0 ≤ B) (hk : k ≤ 30) (sB : Sm k B) (sT : Sm k T) : ∃ X Y, f_column_beside [.int T, .int B] h = .ok (T2 X Y) h ∧ T * Y - X * B = 1 ∧ Sm (k + 2) X ∧ Sm (k + 2) Y := by
  have fin : ∀ {a f s l r : Int}, Cb1 B T (B.natAbs + 2 * T.natAbs + 1) a 0 f s l r → (a = 1 ∨ a = -1) ∧ T * (f * a) - (-l * a) * B = 1 ∧ Sm (k + 2) (-l * a) ∧ Sm (k + 2) (f * a) := by
    intro a f s l r x
    have ha : a.natAbs = 1 := by have := x.g; rw [Int.gcd_zero_right] at this; exact this
    have h1 : a = 1 ∨ a = -1 := by omega
    have e := x.ea
    have pk : (2 : Nat) ^ (k + 2) = 4 * 2 ^ k := by rw [Nat.pow_add]; omega
    have b1 := sB.lt
    have b2 := sT.lt
    have b3 := x.sf
    have b4 := x.sl
    refine ⟨h1, ?_, ⟨?_⟩, ⟨?_⟩⟩
    · rcases h1 with rfl | rfl <;> grind
    · rw [Int.natAbs_mul, Int.natAbs_neg, ha]; omega
    · rw [Int.natAbs_mul, ha]; omega
  have hF : 2 ^ 30 + 2 < FU := by unfold FU; decide
  by_cases hT : 0 ≤ T
  · obtain ⟨a, f, s, l, r, o8, q1, x⟩ := column_run (o0 := some (.int T)) (o1 := some (.int B)) (o8 := none) (h := h) FU (by omega) (Cb2.start hg hB hT (sB.mono hk) (sT.mono hk))
    obtain ⟨h1, h2, h3, h4⟩ := fin x
    refine ⟨-l * a, f * a, ?_, h2, h3, h4⟩
    have c1 : CM (-l) a := CM.right (by omega)
    have c2 : CM f a := CM.right (by omega)
    unfold f_column_beside
    simp_arith only [q1, c1, c2]
  · obtain ⟨y, lt⟩ := Cb2.start2 hg hB (by omega) (sB.mono hk) (sT.mono hk)
    obtain ⟨N, hN⟩ : ∃ N, FU = N + 1 := ⟨FU - 1, by omega⟩
    obtain ⟨a, f, s, l, r, o8, q1, x⟩ := column_run (o0 := some (.int T)) (o1 := some (.int B)) (o8 := some (.int (B.fdiv T))) (h := h) N (by omega) y
    obtain ⟨h1, h2, h3, h4⟩ := fin x
    refine ⟨-l * a, f * a, ?_, h2, h3, h4⟩
    have c1 : CM (-l) a := CM.right (by omega)
    have c2 : CM f a := CM.right (by omega)
    have x0 : Cb1 B T (B.natAbs + 2 * T.natAbs + 1) B T 0 1 1 0 := ⟨by omega, by omega, hg, (sB.mono hk).lt, (sT.mono hk).lt, by omega, by omega, by omega, by omega⟩
    have hb : T ≠ 0 := by omega
    have st := column_step (o0 := some (.int T)) (o1 := some (.int B)) (o8 := none) (h := h) x0 hb
    have q0 : sWhile FU (sTst (sBin dNe (sVar 3) (sC (.int 0)))) l_column_beside_1 [some (.int T), some (.int B), some (.int B), some (.int T), some (.int 0), some (.int 1), some (.int 1), some (.int 0), none] h = .nx [some (.int T), some (.int B), some (.int a), some (.int 0), some (.int f), some (.int s), some (.int l), some (.int r), o8] h := by
      rw [hN]
      unfold sWhile
      have hc : sTst (sBin dNe (sVar 3) (sC (.int 0))) [some (.int T), some (.int B), some (.int B), some (.int T), some (.int 0), some (.int 1), some (.int 1), some (.int 0), none] h = .ok (!(T == 0)) h := by simp_arith only []
      rw [hc, beq_false_of_ne hb]
      show (l_column_beside_1 _ h).turn _ = _
      rw [st]
      exact q1
    unfold f_column_beside
    simp_arith only [q0, c1, c2]
end Pd

namespace Pd
theorem dvR {a b c : Int} (h : a ∣ c) : a ∣ b * c := by obtain ⟨k, rfl⟩ := h; exact ⟨b * k, by grind⟩
theorem dvL {a b c : Int} (h : a ∣ b) : a ∣ b * c := by obtain ⟨k, rfl⟩ := h; exact ⟨k * c, by grind⟩
theorem bez_nat : ∀ n m : Nat, ∃ A B : Int, (Nat.gcd m n : Int) = m * A + n * B := by
  intro n
  induction n using Nat.strongRecOn with
  | _ n ih =>
    intro m
    by_cases h : n = 0
    · subst h; exact ⟨1, 0, by simp⟩
    · obtain ⟨A, B, e⟩ := ih (m % n) (Nat.mod_lt _ (by omega)) n
      refine ⟨B, A - (m / n : Nat) * B, ?_⟩
      have e1 : Nat.gcd m n = Nat.gcd n (m % n) := by rw [Nat.gcd_comm m n, Nat.gcd_rec n m, Nat.gcd_comm]
      rw [e1, e]
      have e2 : (m : Int) = n * (m / n : Nat) + (m % n : Nat) := by have := Nat.div_add_mod m n; omega
      generalize ((m / n : Nat) : Int) = q at *
      generalize ((m % n : Nat) : Int) = r at *
      rw [e2]; grind
theorem bez_int (m n : Int) : ∃ A B : Int, (Int.gcd m n : Int) = m * A + n * B := by
  obtain ⟨A, B, e⟩ := bez_nat n.natAbs m.natAbs
  have h1 : ∃ s : Int, (m.natAbs : Int) = m * s := by
    by_cases h : 0 ≤ m
    · exact ⟨1, by omega⟩
    · exact ⟨-1, by omega⟩
  have h2 : ∃ s : Int, (n.natAbs : Int) = n * s := by
    by_cases h : 0 ≤ n
    · exact ⟨1, by omega⟩
    · exact ⟨-1, by omega⟩
  obtain ⟨s, e1⟩ := h1
  obtain ⟨t, e2⟩ := h2
  exact ⟨s * A, t * B, by show ((Nat.gcd m.natAbs n.natAbs : Nat) : Int) = _; rw [e, e1, e2]; grind⟩
theorem gcd_nz {b L : Int} (hL : 1 ≤ L) : 0 < Int.gcd b L := Nat.pos_of_ne_zero (gcd_ne (.inr (by omega)))
abbrev rP (L b : Int) : Int := (Int.gcd b L : Int)
abbrev rU (L b : Int) : Int := b / rP L b
abbrev rS (L b : Int) : Int := (Int.gcd (rP L b) (L / rP L b) : Int)
abbrev rR (L t b : Int) : Int := t * rU L b
theorem rP_pos {L b : Int} (hL : 1 ≤ L) : 0 < rP L b := by have := gcd_nz (b := b) hL; show (0 : Int) < (Int.gcd b L : Int); omega
theorem rP_dvd {L b : Int} : rP L b ∣ b ∧ rP L b ∣ L := ⟨Int.gcd_dvd_left _ _, Int.gcd_dvd_right _ _⟩
theorem rU_eq {L b : Int} (hL : 1 ≤ L) : rP L b * rU L b = b ∧ rP L b * (L / rP L b) = L := ⟨Int.mul_ediv_cancel' rP_dvd.1, Int.mul_ediv_cancel' rP_dvd.2⟩
theorem rU_cop {L b : Int} (hL : 1 ≤ L) : Int.gcd (rU L b) (L / rP L b) = 1 := Int.gcd_ediv_gcd_ediv_gcd (gcd_nz hL)
theorem rS_dvd {L b : Int} : rS L b ∣ rP L b ∧ rS L b ∣ L / rP L b := ⟨Int.gcd_dvd_left _ _, Int.gcd_dvd_right _ _⟩
theorem cop_of_dvd {a b c : Int} (h : Int.gcd a b = 1) (d : c ∣ b) : Int.gcd a c = 1 := by
  have h1 : (Int.gcd a c : Int) ∣ Int.gcd a b := Int.dvd_coe_gcd (Int.gcd_dvd_left _ _) (Int.dvd_trans (Int.gcd_dvd_right _ _) d)
  rw [h] at h1
  have := Int.natAbs_dvd_natAbs.mpr h1
  simpa using this
theorem cop_mul {a b c : Int} (h1 : Int.gcd a c = 1) (h2 : Int.gcd b c = 1) : Int.gcd (a * b) c = 1 := by
  have d1 : (Int.gcd (a * b) c : Int) ∣ a * b := Int.gcd_dvd_left _ _
  have d2 : (Int.gcd (a * b) c : Int) ∣ c := Int.gcd_dvd_right _ _
  have c1 : Int.gcd (Int.gcd (a * b) c : Int) a = 1 := by rw [Int.gcd_comm]; exact cop_of_dvd h1 d2
  have d3 := dvd_cop d1 c1
  have c2 : Int.gcd b (Int.gcd (a * b) c : Int) = 1 := cop_of_dvd h2 d2
  have d4 : (Int.gcd (a * b) c : Int) ∣ Int.gcd b (Int.gcd (a * b) c : Int) := Int.dvd_coe_gcd d3 (Int.dvd_refl _)
  rw [c2] at d4
  have := Int.natAbs_dvd_natAbs.mpr d4
  simpa using this
theorem rR_cop {L t b : Int} (hL : 1 ≤ L) (f : Int.gcd t b = 1) : Int.gcd (rR L t b) (rS L b) = 1 :=
  cop_mul (cop_of_dvd f (Int.dvd_trans rS_dvd.1 rP_dvd.1)) (cop_of_dvd (rU_cop hL) rS_dvd.2)
theorem shift_iff {L m c : Int} (hL : 1 ≤ L) : (∃ k : Int, 0 ≤ k ∧ k < L ∧ L ∣ c - k * m) ↔ (Int.gcd m L : Int) ∣ c := by
  constructor
  · rintro ⟨k, _, _, h⟩
    have d1 : (Int.gcd m L : Int) ∣ c - k * m := Int.dvd_trans (Int.gcd_dvd_right _ _) h
    have d2 : (Int.gcd m L : Int) ∣ k * m := dvR (Int.gcd_dvd_left _ _)
    have := Int.dvd_add d1 d2
    rwa [Int.sub_add_cancel] at this
  · rintro ⟨t, rfl⟩
    obtain ⟨A, B, e⟩ := bez_int m L
    refine ⟨(A * t) % L, Int.emod_nonneg _ (by omega), Int.emod_lt_of_pos _ (by omega), ?_⟩
    have e2 := Int.mul_ediv_add_emod (A * t) L
    refine ⟨B * t + (A * t / L) * m, ?_⟩
    rw [e]
    have : A * t % L = A * t - L * (A * t / L) := by omega
    rw [this]
    generalize A * t / L = z
    grind
theorem class_iff {L p q p' q' y x y' x' : Int} (hL : 1 ≤ L) (d : p * y - x * q = 1) (d' : p' * y' - x' * q' = 1) :
    ((Int.gcd (q * q') L : Int) ∣ q' * y - y' * q) ↔ (rP L q = rP L q' ∧ rS L q ∣ rR L p q - rR L p' q') := by
  have c1 : Int.gcd y q = 1 := by
    have h1 : (Int.gcd y q : Int) ∣ p * y - x * q := Int.dvd_sub (dvR (Int.gcd_dvd_left _ _)) (dvR (Int.gcd_dvd_right _ _))
    rw [d] at h1
    have := Int.natAbs_dvd_natAbs.mpr h1
    simpa using this
  have c2 : Int.gcd y' q' = 1 := by
    have h1 : (Int.gcd y' q' : Int) ∣ p' * y' - x' * q' := Int.dvd_sub (dvR (Int.gcd_dvd_left _ _)) (dvR (Int.gcd_dvd_right _ _))
    rw [d'] at h1
    have := Int.natAbs_dvd_natAbs.mpr h1
    simpa using this
  have half : ∀ {q q' y y' : Int}, Int.gcd y q = 1 → (Int.gcd (q * q') L : Int) ∣ q' * y - y' * q → rP L q ∣ q' := by
    intro q q' y y' c h
    have h1 : rP L q ∣ (Int.gcd (q * q') L : Int) := Int.dvd_coe_gcd (dvL rP_dvd.1) rP_dvd.2
    have h2 := Int.dvd_trans h1 h
    have h3 : rP L q ∣ y' * q := dvR rP_dvd.1
    have h4 := Int.dvd_add h2 h3
    rw [Int.sub_add_cancel, Int.mul_comm] at h4
    exact dvd_cop h4 (by rw [Int.gcd_comm]; exact cop_of_dvd c rP_dvd.1)
  have same : rP L q = rP L q' → ((Int.gcd (q * q') L : Int) ∣ q' * y - y' * q ↔ rS L q ∣ rR L p q - rR L p' q') := by
    intro hP
    have hp := rP_pos (b := q) hL
    obtain ⟨e1, e2⟩ := rU_eq (b := q) hL
    obtain ⟨e3, e4⟩ := rU_eq (b := q') hL
    have k1 := rU_cop (b := q) hL
    have k2 := rU_cop (b := q') hL
    have s1 := rS_dvd (L := L) (b := q)
    have hrR : rR L p q = p * rU L q := rfl
    have hrR' : rR L p' q' = p' * rU L q' := rfl
    rw [← hP] at e3 e4 k2
    have hS : rS L q = (Int.gcd (rP L q) (L / rP L q) : Int) := rfl
    rw [hrR, hrR']
    generalize rU L q = u at *
    generalize rU L q' = u' at *
    generalize hS' : rS L q = S at *
    generalize rP L q = P at *
    generalize hM : L / P = M at *
    -- gcd(q q', L) = P S
    have eg : (Int.gcd (q * q') L : Int) = P * S := by
      have : Int.gcd (q * q') L = Int.gcd (P * (P * (u * u'))) (P * M) := by
        rw [e2, ← e1, ← e3]; congr 1; grind
      rw [this, Int.gcd_mul_left, hS]
      have e5 : Int.gcd (P * (u * u')) M = Int.gcd P M := by
        have a1 : (Int.gcd (P * (u * u')) M : Int) ∣ P := by
          have b1 : (Int.gcd (P * (u * u')) M : Int) ∣ (u * u') * P := by rw [Int.mul_comm]; exact Int.gcd_dvd_left _ _
          refine dvd_cop b1 ?_
          rw [Int.gcd_comm]
          exact cop_of_dvd (cop_mul k1 k2) (Int.gcd_dvd_right _ _)
        have a2 : (Int.gcd (P * (u * u')) M : Int) ∣ Int.gcd P M := Int.dvd_coe_gcd a1 (Int.gcd_dvd_right _ _)
        have a3 : (Int.gcd P M : Int) ∣ Int.gcd (P * (u * u')) M := Int.dvd_coe_gcd (dvL (Int.gcd_dvd_left _ _)) (Int.gcd_dvd_right _ _)
        have b1 := Int.natAbs_dvd_natAbs.mpr a2
        have b2 := Int.natAbs_dvd_natAbs.mpr a3
        simp only [Int.natAbs_natCast] at b1 b2
        exact Nat.dvd_antisymm b1 b2
      rw [e5]
      have : ((P.natAbs * Int.gcd P M : Nat) : Int) = P * (Int.gcd P M : Int) := by
        rw [Int.natCast_mul]; congr 1; omega
      exact this
    rw [eg]
    have e6 : q' * y - y' * q = P * (u' * y - y' * u) := by rw [← e1, ← e3]; grind
    rw [e6]
    have hdiv : P * S ∣ P * (u' * y - y' * u) ↔ S ∣ u' * y - y' * u := ⟨fun h => Int.dvd_of_mul_dvd_mul_left (by omega) h, fun h => Int.mul_dvd_mul_left _ h⟩
    rw [hdiv]
    have hSq : S ∣ q := by rw [← e1]; exact dvL s1.1
    have hSq' : S ∣ q' := by rw [← e3]; exact dvL s1.1
    -- modulo S: p y = 1, p' y' = 1
    obtain ⟨z, hz⟩ := hSq
    obtain ⟨z', hz'⟩ := hSq'
    have m1 : p * y = 1 + S * (x * z) := by rw [hz] at d; grind
    have m2 : p' * y' = 1 + S * (x' * z') := by rw [hz'] at d'; grind
    constructor
    · rintro ⟨w, hw⟩
      -- p p' (u' y - y' u) = p' u' - p u + S ..
      refine ⟨-(p * p' * w) + p' * u' * (x * z) - p * u * (x' * z'), ?_⟩
      have e : p * p' * (u' * y - y' * u) = p' * u' * (p * y) - p * u * (p' * y') := by grind
      rw [hw, m1, m2] at e
      grind
    · rintro ⟨w, hw⟩
      refine ⟨-(y * y' * w) - u' * y * (x' * z') + u * y' * (x * z), ?_⟩
      have e : y * y' * (p * u - p' * u') = u * y' * (p * y) - u' * y * (p' * y') := by grind
      rw [hw, m1, m2] at e
      grind
  constructor
  · intro h
    have h1 := half c1 h
    have h2 : rP L q' ∣ q := by
      refine half (y' := y) c2 ?_
      rw [Int.mul_comm q' q]
      have : q * y' - y * q' = -(q' * y - y' * q) := by grind
      rw [this]
      exact Int.dvd_neg.mpr h
    have a1 : rP L q ∣ rP L q' := Int.dvd_coe_gcd h1 rP_dvd.2
    have a2 : rP L q' ∣ rP L q := Int.dvd_coe_gcd h2 rP_dvd.2
    have hP : rP L q = rP L q' := by
      have b1 := Int.natAbs_dvd_natAbs.mpr a1
      have b2 := Int.natAbs_dvd_natAbs.mpr a2
      simp only [Int.natAbs_natCast] at b1 b2
      show ((Int.gcd q L : Nat) : Int) = (Int.gcd q' L : Nat)
      rw [Nat.dvd_antisymm b1 b2]
    exact ⟨hP, (same hP).mp h⟩
  · rintro ⟨hP, h⟩
    exact (same hP).mpr h
end Pd

namespace Pd
open PySem L2 Evl
local macro_rules | `(tactic| walk_at "sm") => `(tactic| first | assumption | exact Sm.lit | exact Sm.mul (by walk_at "sm") (by walk_at "sm") | exact Sm.add (by walk_at "sm") (by walk_at "sm") | exact Sm.sub (by walk_at "sm") (by walk_at "sm") | exact Sm.neg (by walk_at "sm"))
local macro_rules | `(tactic| walk_at "cm") => `(tactic| ((with_reducible show CM _ _); first | assumption | exact CM.left (by decide) | exact CM.right (by decide) | exact CM.left (by omega) | exact CM.right (by omega) | exact CM.of (by walk_at "sm") (by walk_at "sm") (by decide)))
local macro_rules | `(tactic| simp_arith only [$xs,*]) => `(tactic| simp (maxSteps := 4000000) (dsimp := false) (disch := first | assumption | decide | omega | walk_at "cm") only [runDef_ap, sVar_ap, sC_ap, sBin_ap, sNeg_ap, sAnd_ap, sOr_ap, sNot_ap, sIf_ap, sTst_ap, qAnd_ap, qOr_ap, qNot_ap, qYes_ap, sChain_ap, sChain3_ap, sNil_ap, sCons_ap, sTup_ap, sLst_ap, sLstM_ap, sCall_ap, g1_ap, g2_ap, sFn_ap, sAsg_ap, gNm_ap, gTp_ap, gConsS_ap, gNilS_ap, sPar_ap, sPar3_ap, sRet_ap, sRetN_ap, sNx_ap, sBrk_ap, sCnt_ap, sSeq_ap, sIte_ap, sDrop_ap, sFrz_ap, sAug_ap, iRange1_ap, iRange2_ap, iSeq_ap, sFor_ap, sLc_ap, R.toG_ok, ↓R.bind_bnd, bnd_ok, ↓R.bd_bdn, bdn_ok, ↓R.toF_tof, tof_ok, ↓F.seq_sqn, sqn_nx, sqn_ret, sqn_cnt, sqn_brk, ↓F.turn_trn, trn_nx, trn_ret, trn_cnt, trn_brk, F.end_nx, F.end_ret, ↓br_true, br_true, ↓br_false, br_false, Dbr, Dneg, Dtst, opt_some, dAdd_int, dIAdd_int, dSub_int, dLt_int, dLe_int, dGt_int, dGe_int, dEq_int, dNe_int, dEq_bl, dNe_bl, dMul_cm, dMod_pos, dDiv_pos, dAbs_int, dMax2_int, dMin2_int, dInt_int, dInt_bl, dIx_tup, dIx_lst, dIx_seq, dLen_tup, dLen_lst, dLen_seq, atI_0, atI_1, atI_2, atI_3, List.map_cons, List.map_nil, List.length_cons, List.length_nil, List.replicate_succ, List.replicate_zero, List.cons_append, List.nil_append, List.getElem?_cons_zero, List.getElem?_cons_succ, List.set_cons_zero, List.set_cons_succ, Nat.reduceAdd, Nat.reduceSub, Nat.zero_add, Nat.add_zero, Nat.sub_self, Nat.reduceMul, mostL_def, Nat.reduceLeDiff, Nat.reduceLT, ite_true, ite_false, if_true, if_false, ↓reduceIte, reduceIte, ↓br_ite, Bool.false_eq_true, reduceCtorEq, Bool.not_true, Bool.not_false, decide_true, decide_false, Int.cast_ofNat_Int, Int.reduceBEq, Int.reduceAdd, Int.reduceSub, Int.reduceMul, Int.reduceNeg, Int.reduceLT, Int.reduceLE, Int.reduceMod, Int.reduceDiv, sMeth1_ap, sSl_ap, sRev_ap, oNo_ap, oPart_ap, sDict0_ap, sSetL_ap, sLc2_ap, sStar_ap, sDGet1_ap, sDGet2_ap, sPutD_ap, iItemsD_ap, iValsD_ap, iKeysD_ap, sDict0T_ap, sPutT_ap, sTGet1_ap, sFrzT_ap, iKeysT_ap, $xs,*])
structure Ltop (P S r x : Int) : Prop where
  x0 : 0 ≤ x
  dv : S ∣ x - r
  co : Int.gcd x P = 1
  le : ∀ y, 0 ≤ y → S ∣ y - r → Int.gcd y P = 1 → x ≤ y
  lt : x < P * S
def chkTop : Bool := (List.range 101).all fun p => (List.range (p + 1)).all fun s => s == 0 || (p % s != 0 || (List.range s).all fun r => Nat.gcd r s != 1 || (List.range p).any fun k => Nat.gcd (r + s * k) p == 1)
theorem chkTop_ok : chkTop = true := by decide +kernel
theorem top_some {p s r : Nat} (hp : p ≤ 100) (hs : 0 < s) (hd : s ∣ p) (hp0 : 0 < p) (hr : r < s) (hg : Nat.gcd r s = 1) : ∃ k, k < p ∧ Nat.gcd (r + s * k) p = 1 := by
  have h := chkTop_ok
  unfold chkTop at h
  have h1 := List.all_eq_true.mp h p (List.mem_range.mpr (by omega))
  have h2 := List.all_eq_true.mp h1 s (List.mem_range.mpr (by have := Nat.le_of_dvd hp0 hd; omega))
  have e1 : (s == 0) = false := by rw [beq_eq_false_iff_ne]; omega
  have e2 : (p % s != 0) = false := by rw [Nat.mod_eq_zero_of_dvd hd]; rfl
  rw [e1, e2, Bool.false_or, Bool.false_or] at h2
  have h3 := List.all_eq_true.mp h2 r (List.mem_range.mpr hr)
  have e3 : (Nat.gcd r s != 1) = false := by rw [hg]; rfl
  rw [e3, Bool.false_or] at h3
  obtain ⟨k, hk, e⟩ := List.any_eq_true.mp h3
  exact ⟨k, List.mem_range.mp hk, beq_iff_eq.mp e⟩
theorem gcd_emod {r S : Int} (hS : 0 < S) : Int.gcd (r % S) S = Int.gcd r S := by
  have e := Int.mul_ediv_add_emod r S
  have d1 : (Int.gcd (r % S) S : Int) ∣ Int.gcd r S := Int.dvd_coe_gcd (by
    have e3 : (Int.gcd (r % S) S : Int) ∣ S * (r / S) + r % S := Int.dvd_add (dvL (Int.gcd_dvd_right _ _)) (Int.gcd_dvd_left _ _)
    rwa [e] at e3) (Int.gcd_dvd_right _ _)
  have d2 : (Int.gcd r S : Int) ∣ Int.gcd (r % S) S := Int.dvd_coe_gcd (by
    have : r % S = r - S * (r / S) := by omega
    rw [this]
    exact Int.dvd_sub (Int.gcd_dvd_left _ _) (dvL (Int.gcd_dvd_right _ _))) (Int.gcd_dvd_right _ _)
  have b1 := Int.natAbs_dvd_natAbs.mpr d1
  have b2 := Int.natAbs_dvd_natAbs.mpr d2
  simp only [Int.natAbs_natCast] at b1 b2
  exact Nat.dvd_antisymm b1 b2
theorem rest_form {S r y : Int} (hS : 0 < S) (hy : 0 ≤ y) (hd : S ∣ y - r) : ∃ i : Nat, y = r % S + S * i := by
  have e : y % S = r % S := Int.emod_emod_of_dvd_sub hd
  have e2 := Int.mul_ediv_add_emod y S
  have h0 : 0 ≤ y / S := Int.ediv_nonneg hy (by omega)
  obtain ⟨i, hi⟩ := Int.eq_ofNat_of_zero_le h0
  exact ⟨i, by rw [← e, ← hi]; omega⟩
where
  Int.emod_emod_of_dvd_sub {S y r : Int} (hd : S ∣ y - r) : y % S = r % S := by
    obtain ⟨k, hk⟩ := hd
    have : y = r + S * k := by omega
    rw [this, Int.add_mul_emod_self_left]
theorem least_top_ok {P S r : Int} {h : Ph} (hP : 0 < P) (hP2 : P ≤ 100) (hS : 0 < S) (hd : S ∣ P) (hg : Int.gcd r S = 1) : ∃ x, f_least_top [.int P, .int S, .int r] h = .ok (.int x) h ∧ Ltop P S r x := by
  have hr0 := Int.emod_nonneg r (by omega : S ≠ 0)
  have hr1 := Int.emod_lt_of_pos r hS
  have hg' : Int.gcd (r % S) S = 1 := by rw [gcd_emod hS]; exact hg
  have hSP := Int.le_of_dvd hP hd
  obtain ⟨K, hK, hKg⟩ : ∃ K : Nat, (K : Int) < P ∧ Int.gcd (r % S + S * K) P = 1 := by
    obtain ⟨k, h1, h2⟩ := top_some (p := P.natAbs) (s := S.natAbs) (r := (r % S).natAbs) (by omega) (by omega) (Int.natAbs_dvd_natAbs.mpr hd) (by omega) (by omega) hg'
    refine ⟨k, by omega, ?_⟩
    show Nat.gcd (r % S + S * k).natAbs P.natAbs = 1
    have : (r % S + S * k).natAbs = (r % S).natAbs + S.natAbs * k := by
      have : (((r % S).natAbs + S.natAbs * k : Nat) : Int) = r % S + S * k := by
        rw [Int.natCast_add, Int.natCast_mul]
        have a1 : ((r % S).natAbs : Int) = r % S := by omega
        have a2 : (S.natAbs : Int) = S := by omega
        rw [a1, a2]
      omega
    rw [this]
    exact h2
  have sz : ∀ j : Nat, j ≤ K → 0 ≤ r % S + S * j ∧ r % S + S * j < P * S := by
    intro j hj
    have h1 : S * (j : Int) ≤ S * (P - 1) := Int.mul_le_mul_of_nonneg_left (by omega) (by omega)
    have h2 : 0 ≤ S * (j : Int) := Int.mul_nonneg (by omega) (by omega)
    have h3 : S * (P - 1) = P * S - S := by grind
    omega
  have hPS : P * S ≤ 10000 := by
    have : P * S ≤ 100 * 100 := Int.mul_le_mul hP2 (by omega) (by omega) (by omega)
    omega
  have cond : ∀ (x : Int) (h' : Ph), 0 ≤ x → sTst (sBin dNe (sFn f_common_of (sCons (sVar 3) (sCons (sVar 0) (sNil)))) (sC (.int 1))) [some (.int P), some (.int S), some (.int r), some (.int x)] h' = .ok (!((Int.gcd x P : Int) == 1)) h' := by
    intro x h' _
    have e := common_ok (a := x) (b := P) (h := h') (Sm.of_lt 600 (n := 101) (by omega) (by omega) (by decide +kernel))
    simp_arith only [e]
  obtain ⟨e1, h1, q1, rfl, j, rfl, hj, hjm⟩ := while_run (c := sTst (sBin dNe (sFn f_common_of (sCons (sVar 3) (sCons (sVar 0) (sNil)))) (sC (.int 1)))) (f := l_least_top_1)
    (fun m e h' => h' = h ∧ ∃ j : Nat, e = [some (.int P), some (.int S), some (.int r), some (.int (r % S + S * j))] ∧ j ≤ K ∧ m = K - j ∧ ∀ i : Nat, i < j → Int.gcd (r % S + S * i) P ≠ 1)
    (fun e h' => h' = h ∧ ∃ j : Nat, e = [some (.int P), some (.int S), some (.int r), some (.int (r % S + S * j))] ∧ (j ≤ K ∧ Int.gcd (r % S + S * j) P = 1) ∧ ∀ i : Nat, i < j → Int.gcd (r % S + S * i) P ≠ 1)
    (by
      rintro m e h' ⟨rfl, j, rfl, hj, rfl, hi⟩
      have z := sz j hj
      by_cases hg2 : Int.gcd (r % S + S * j) P = 1
      · refine .inl ⟨h', ?_, rfl, j, rfl, ⟨hj, hg2⟩, hi⟩
        rw [cond _ _ z.1, hg2]; rfl
      · have hne : j ≠ K := fun e => hg2 (by rw [e]; exact hKg)
        refine .inr ⟨h', _, h', K - (j + 1), ?_, .inl (?_ : _ = F.nx [some (.int P), some (.int S), some (.int r), some (.int (r % S + S * (j + 1 : Nat)))] h'), by omega, rfl, j + 1, rfl, by omega, rfl, fun i hi2 => ?_⟩
        · rw [cond _ _ z.1]
          have : ((Int.gcd (r % S + S * j) P : Int) == 1) = false := by rw [beq_eq_false_iff_ne]; omega
          rw [this]; rfl
        · have e : r % S + S * j + S = r % S + S * (j + 1 : Nat) := by rw [Int.natCast_add]; grind
          unfold l_least_top_1
          simp_arith only [e]
        · by_cases h2 : i < j
          · exact hi i h2
          · have : i = j := by omega
            rw [this]; exact hg2)
    K FU [some (.int P), some (.int S), some (.int r), some (.int (r % S))] h (Nat.lt_trans (by omega : K < 100) (by unfold FU; decide : 100 < FU)) ⟨rfl, 0, by simp, by omega, by omega, fun i hi => absurd hi (by omega)⟩
  refine ⟨r % S + S * j, ?_, (sz j hj.1).1, ?_, hj.2, fun y hy hdv hg2 => ?_, (sz j hj.1).2⟩
  · unfold f_least_top
    simp_arith only [q1]
  · have := Int.mul_ediv_add_emod r S
    exact ⟨j - r / S, by rw [Int.mul_sub]; omega⟩
  · obtain ⟨i, rfl⟩ := rest_form hS hy hdv
    by_cases h2 : i < j
    · exact absurd hg2 (hjm i h2)
    · have : S * (j : Int) ≤ S * (i : Int) := Int.mul_le_mul_of_nonneg_left (by omega) (by omega)
      omega
theorem Ltop.uniq {P S r x y : Int} (a : Ltop P S r x) (b : Ltop P S r y) : x = y := by
  have h1 := a.le y b.x0 b.dv b.co
  have h2 := b.le x a.x0 a.dv a.co
  omega
theorem Ltop.congr {P S r r' x : Int} (a : Ltop P S r x) (h : S ∣ r - r') : Ltop P S r' x := by
  refine ⟨a.x0, ?_, a.co, fun y h1 h2 h3 => a.le y h1 ?_ h3, a.lt⟩
  · have := Int.dvd_add a.dv h; rwa [show x - r + (r - r') = x - r' by omega] at this
  · have := Int.dvd_sub h2 h; rwa [show y - r' - (r - r') = y - r by omega] at this
def RimOf (L t b x : Int) : Prop := Ltop (rP L b) (rS L b) (rR L t b) x
theorem rim_in_ok {L t b : Int} {k : Nat} {h : Ph} (hL : 1 ≤ L) (hL2 : L ≤ 100) (f : Fr t b) (hk : k ≤ 500) (st : Sm k t) (sb : Sm k b) : ∃ x, f_rim_in [.int L, T2 t b] h = .ok (T2 x (rP L b)) h ∧ RimOf L t b x := by
  have hp := rP_pos (b := b) hL
  have hp2 : rP L b ≤ L := Int.le_of_dvd (by omega) rP_dvd.2
  have hs : 0 < rS L b := rP_pos (L := L / rP L b) (b := rP L b) (by
    obtain ⟨_, e⟩ := rU_eq (b := b) hL
    by_cases h : 1 ≤ L / rP L b
    · exact h
    · have : rP L b * (L / rP L b) ≤ 0 := Int.mul_nonpos_of_nonneg_of_nonpos (by omega) (by omega)
      omega)
  have sL : Sm 600 L := Sm.of_lt 600 (n := 101) (by omega) (by omega) (by decide +kernel)
  have e1 := common_ok (a := b) (b := L) (h := h) sL
  have hq : L / rP L b ≤ L ∧ 0 ≤ L / rP L b := ⟨Int.ediv_le_self _ (by omega), Int.ediv_nonneg (by omega) (by omega)⟩
  have e2 := common_ok (a := rP L b) (b := L / rP L b) (h := h) (Sm.of_lt 600 (n := 101) (by omega) (by omega) (by decide +kernel))
  obtain ⟨x, e3, lt⟩ := least_top_ok (P := rP L b) (S := rS L b) (r := rR L t b) (h := h) hp (by omega) hs rS_dvd.1 (rR_cop hL f.co)
  refine ⟨x, ?_, lt⟩
  have lg : (rP L b).natAbs.log2 < 9000 := Nat.lt_of_le_of_lt (log_lt (k := 7) (by omega)) (by decide)
  have su : Sm 500 (rU L b) := ⟨by
    have h1 := Int.natAbs_ediv_le_natAbs b (rP L b)
    have h2 := (sb.mono hk).lt
    exact Nat.lt_of_le_of_lt h1 h2⟩
  have c1 : CM t (rU L b) := CM.of st su (by omega)
  have e1' : f_common_of [.int b, .int L] h = .ok (.int (rP L b)) h := e1
  have d1 : dDiv (.int L) (.int (rP L b)) h = .ok (.int (L / rP L b)) h := dDiv_pos hp lg
  have d2 : dDiv (.int b) (.int (rP L b)) h = .ok (.int (rU L b)) h := dDiv_pos hp lg
  have e2' : f_common_of [.int (rP L b), .int (L / rP L b)] h = .ok (.int (rS L b)) h := e2
  have e3' : f_least_top [.int (rP L b), .int (rS L b), .int (t * rU L b)] h = .ok (.int x) h := e3
  unfold f_rim_in
  simp_arith only [e1', d1, d2, e2', e3', c1]
def Cls (L t b t' b' : Int) : Prop := rP L b = rP L b' ∧ rS L b ∣ rR L t b - rR L t' b'
theorem rim_same {L t b t' b' x x' : Int} (r : RimOf L t b x) (r' : RimOf L t' b' x') : (x = x' ∧ rP L b = rP L b') ↔ Cls L t b t' b' := by
  constructor
  · rintro ⟨rfl, e⟩
    refine ⟨e, ?_⟩
    have h1 := r.dv
    have h2 := r'.dv
    have eS : rS L b' = rS L b := by show (Int.gcd (rP L b') (L / rP L b') : Int) = (Int.gcd (rP L b) (L / rP L b) : Int); rw [e]
    rw [eS] at h2
    have := Int.dvd_sub h2 h1
    rwa [show x - rR L t' b' - (x - rR L t b) = rR L t b - rR L t' b' by omega] at this
  · rintro ⟨e, h⟩
    have eS : rS L b' = rS L b := by show (Int.gcd (rP L b') (L / rP L b') : Int) = (Int.gcd (rP L b) (L / rP L b) : Int); rw [e]
    have r2 := r.congr h
    unfold RimOf at r'
    rw [eS, ← e] at r'
    exact ⟨r2.uniq r', e⟩
end Pd

namespace Pd
open PySem L2 Evl
local macro_rules | `(tactic| walk_at "sm") => `(tactic| first | assumption | exact Sm.lit | exact Sm.mul (by walk_at "sm") (by walk_at "sm") | exact Sm.add (by walk_at "sm") (by walk_at "sm") | exact Sm.sub (by walk_at "sm") (by walk_at "sm") | exact Sm.neg (by walk_at "sm"))
local macro_rules | `(tactic| walk_at "cm") => `(tactic| ((with_reducible show CM _ _); first | assumption | exact CM.left (by decide) | exact CM.right (by decide) | exact CM.left (by omega) | exact CM.right (by omega) | exact CM.of (by walk_at "sm") (by walk_at "sm") (by decide)))
local macro_rules | `(tactic| simp_arith only [$xs,*]) => `(tactic| simp (maxSteps := 4000000) (dsimp := false) (disch := first | assumption | decide | omega | walk_at "cm") only [runDef_ap, sVar_ap, sC_ap, sBin_ap, sNeg_ap, sAnd_ap, sOr_ap, sNot_ap, sIf_ap, sTst_ap, qAnd_ap, qOr_ap, qNot_ap, qYes_ap, sChain_ap, sChain3_ap, sNil_ap, sCons_ap, sTup_ap, sLst_ap, sLstM_ap, sCall_ap, g1_ap, g2_ap, sFn_ap, sAsg_ap, gNm_ap, gTp_ap, gConsS_ap, gNilS_ap, sPar_ap, sPar3_ap, sRet_ap, sRetN_ap, sNx_ap, sBrk_ap, sCnt_ap, sSeq_ap, sIte_ap, sDrop_ap, sFrz_ap, sAug_ap, iRange1_ap, iRange2_ap, iSeq_ap, sFor_ap, sLc_ap, R.toG_ok, ↓R.bind_bnd, bnd_ok, ↓R.bd_bdn, bdn_ok, ↓R.toF_tof, tof_ok, ↓F.seq_sqn, sqn_nx, sqn_ret, sqn_cnt, sqn_brk, ↓F.turn_trn, trn_nx, trn_ret, trn_cnt, trn_brk, F.end_nx, F.end_ret, ↓br_true, br_true, ↓br_false, br_false, Dbr, Dneg, Dtst, opt_some, dAdd_int, dIAdd_int, dSub_int, dLt_int, dLe_int, dGt_int, dGe_int, dEq_int, dNe_int, dEq_bl, dNe_bl, dMul_cm, dMod_pos, dDiv_pos, dAbs_int, dMax2_int, dMin2_int, dInt_int, dInt_bl, dIx_tup, dIx_lst, dIx_seq, dLen_tup, dLen_lst, dLen_seq, atI_0, atI_1, atI_2, atI_3, List.map_cons, List.map_nil, List.length_cons, List.length_nil, List.replicate_succ, List.replicate_zero, List.cons_append, List.nil_append, List.getElem?_cons_zero, List.getElem?_cons_succ, List.set_cons_zero, List.set_cons_succ, Nat.reduceAdd, Nat.reduceSub, Nat.zero_add, Nat.add_zero, Nat.sub_self, Nat.reduceMul, mostL_def, Nat.reduceLeDiff, Nat.reduceLT, ite_true, ite_false, if_true, if_false, ↓reduceIte, reduceIte, ↓br_ite, Bool.false_eq_true, reduceCtorEq, Bool.not_true, Bool.not_false, decide_true, decide_false, Int.cast_ofNat_Int, Int.reduceBEq, Int.reduceAdd, Int.reduceSub, Int.reduceMul, Int.reduceNeg, Int.reduceLT, Int.reduceLE, Int.reduceMod, Int.reduceDiv, sMeth1_ap, sSl_ap, sRev_ap, oNo_ap, oPart_ap, sDict0_ap, sSetL_ap, sLc2_ap, sStar_ap, sDGet1_ap, sDGet2_ap, sPutD_ap, iItemsD_ap, iValsD_ap, iKeysD_ap, sDict0T_ap, sPutT_ap, sTGet1_ap, sFrzT_ap, iKeysT_ap, $xs,*])
end Pd

namespace Pd
open PySem L2 Evl
local macro_rules | `(tactic| walk_at "sm") => `(tactic| first | assumption | exact Sm.lit | exact Sm.mul (by walk_at "sm") (by walk_at "sm") | exact Sm.add (by walk_at "sm") (by walk_at "sm") | exact Sm.sub (by walk_at "sm") (by walk_at "sm") | exact Sm.neg (by walk_at "sm"))
local macro_rules | `(tactic| walk_at "cm") => `(tactic| ((with_reducible show CM _ _); first | assumption | exact CM.left (by decide) | exact CM.right (by decide) | exact CM.left (by omega) | exact CM.right (by omega) | exact CM.of (by walk_at "sm") (by walk_at "sm") (by decide)))
local macro_rules | `(tactic| simp_arith only [$xs,*]) => `(tactic| simp (maxSteps := 4000000) (dsimp := false) (disch := first | assumption | decide | omega | walk_at "cm") only [runDef_ap, sVar_ap, sC_ap, sBin_ap, sNeg_ap, sAnd_ap, sOr_ap, sNot_ap, sIf_ap, sTst_ap, qAnd_ap, qOr_ap, qNot_ap, qYes_ap, sChain_ap, sChain3_ap, sNil_ap, sCons_ap, sTup_ap, sLst_ap, sLstM_ap, sCall_ap, g1_ap, g2_ap, sFn_ap, sAsg_ap, gNm_ap, gTp_ap, gConsS_ap, gNilS_ap, sPar_ap, sPar3_ap, sRet_ap, sRetN_ap, sNx_ap, sBrk_ap, sCnt_ap, sSeq_ap, sIte_ap, sDrop_ap, sFrz_ap, sAug_ap, iRange1_ap, iRange2_ap, iSeq_ap, sFor_ap, sLc_ap, R.toG_ok, ↓R.bind_bnd, bnd_ok, ↓R.bd_bdn, bdn_ok, ↓R.toF_tof, tof_ok, ↓F.seq_sqn, sqn_nx, sqn_ret, sqn_cnt, sqn_brk, ↓F.turn_trn, trn_nx, trn_ret, trn_cnt, trn_brk, F.end_nx, F.end_ret, ↓br_true, br_true, ↓br_false, br_false, Dbr, Dneg, Dtst, opt_some, dAdd_int, dIAdd_int, dSub_int, dLt_int, dLe_int, dGt_int, dGe_int, dEq_int, dNe_int, dEq_bl, dNe_bl, dMul_cm, dMod_pos, dDiv_pos, dAbs_int, dMax2_int, dMin2_int, dInt_int, dInt_bl, dIx_tup, dIx_lst, dIx_seq, dLen_tup, dLen_lst, dLen_seq, atI_0, atI_1, atI_2, atI_3, List.map_cons, List.map_nil, List.length_cons, List.length_nil, List.replicate_succ, List.replicate_zero, List.cons_append, List.nil_append, List.getElem?_cons_zero, List.getElem?_cons_succ, List.set_cons_zero, List.set_cons_succ, Nat.reduceAdd, Nat.reduceSub, Nat.zero_add, Nat.add_zero, Nat.sub_self, Nat.reduceMul, mostL_def, Nat.reduceLeDiff, Nat.reduceLT, ite_true, ite_false, if_true, if_false, ↓reduceIte, reduceIte, ↓br_ite, Bool.false_eq_true, reduceCtorEq, Bool.not_true, Bool.not_false, decide_true, decide_false, Int.cast_ofNat_Int, Int.reduceBEq, Int.reduceAdd, Int.reduceSub, Int.reduceMul, Int.reduceNeg, Int.reduceLT, Int.reduceLE, Int.reduceMod, Int.reduceDiv, sMeth1_ap, sSl_ap, sRev_ap, oNo_ap, oPart_ap, sDict0_ap, sSetL_ap, sLc2_ap, sStar_ap, sDGet1_ap, sDGet2_ap, sPutD_ap, iItemsD_ap, iValsD_ap, iKeysD_ap, sDict0T_ap, sPutT_ap, sTGet1_ap, sFrzT_ap, iKeysT_ap, $xs,*])
def look (l : List (Int × Int)) (f : Int) : Int := ((l.find? fun p => decide (p.1 = f)).map (·.2)).getD 0
def putI (l : List (Int × Int)) (f v : Int) : List (Int × Int) := if (l.any fun p => decide (p.1 = f)) = true then l.map (fun p => if p.1 = f then (p.1, v) else p) else l ++ [(f, v)]
theorem at_end (h : Ph) (o : PO) : (h ++ [o])[h.length]? = some o := by simp
theorem set_end (h : Ph) (o o2 : PO) : (h ++ [o]).set h.length o2 = h ++ [o2] := by simp
def inn : Nat → Int → Int → List (Int × Int) → Option (Int × List (Int × Int))
  | 0, _, _, _ => none
  | N + 1, left, f, l => if left % f = 0 then (if l.length < mostL then inn N (left / f) f (putI l f (look l f + 1)) else none) else some (left, l)
def outer : Nat → Int → Int → List (Int × Int) → Option (Int × List (Int × Int))
  | 0, _, _, _ => none
  | N + 1, left, f, l => if ¬ f < 1000000000 then none else if f * f ≤ left then (match inn FU left f l with
    | some (left', l') => outer N left' (f + if f = 2 then 1 else 2) l'
    | none => none) else some (left, l)
def f_require_count : Fn := runDef 3 (sIte (qOr (qNot (sTst (sFn f_is_integer (sCons (sVar 0) (sNil))))) (qNot (sTst (sChain dLe dLe (sVar 1) (sVar 0) (sVar 2))))) (sBad) (sNx))
def f_require_positive : Fn := runDef 1 (sIte (qOr (qNot (sTst (sFn f_is_integer (sCons (sVar 0) (sNil))))) (sTst (sBin dLt (sVar 0) (sC (.int 1))))) (sBad) (sNx))
def f_require_factored : Fn := runDef 1 (sIte (sTst (sBin dGt (sVar 0) (sC (.int (1000000000))))) (sBad) (sNx))
def l_powers_in_1 : SS := sSeq (sPutD (sBin dAdd (sDGet2 (sVar 1) (sVar 3) (sC (.int 0))) (sC (.int 1))) (sVar 1) (sVar 3)) (sAug 2 dIDiv (sVar 3))
def l_powers_in_2 : SS := sSeq (sWhile FU (sTst (sBin dEq (sBin dMod (sVar 2) (sVar 3)) (sC (.int 0)))) (l_powers_in_1)) (sAug 3 dIAdd (sIf (sTst (sBin dEq (sVar 3) (sC (.int 2)))) (sC (.int 1)) (sC (.int 2))))
def f_powers_in : Fn := runDef 4 (sSeq (sPar3 1 2 3 (sCons (sDict0) (sCons (sVar 0) (sCons (sC (.int 2)) (sNil))))) (sSeq (sWhile FU (sTst (sBin dLe (sBin dMul (sVar 3) (sVar 3)) (sVar 2))) (l_powers_in_2)) (sSeq (sIte (sTst (sBin dGt (sVar 2) (sC (.int 1)))) (sPutD (sBin dAdd (sDGet2 (sVar 1) (sVar 2) (sC (.int 0))) (sC (.int 1))) (sVar 1) (sVar 2)) (sNx)) (sRet (sFrz (sVar 1))))))
def c_divisors_in_1 : SE := sLc (iSeq (sVar 1)) (gNm 7) (qYes) (sBin dMul (sVar 7) (sVar 5)) [7]
def l_divisors_in_2 : SS := sSeq (sAug 5 dIMul (sVar 2)) (sDrop (sMeth1 dExtend (sVar 6) (c_divisors_in_1)))
def l_divisors_in_3 : SS := sSeq (sAsg (sTup (sCons (sC (.int 1)) (sCons (sCall (g1 dListM) (sCons (sVar 1) (sNil))) (sNil)))) (gTp 2 (gConsS (gNm 5) (gConsS (gNm 6) (gNilS))))) (sSeq (sFor (iRange1 (sCons (sVar 3) (sNil))) (gNm 4) (l_divisors_in_2)) (sAsg (sFrz (sVar 6)) (gNm 1)))
def f_divisors_in : Fn := runDef 8 (sSeq (sAsg (sLst (sCons (sC (.int 1)) (sNil))) (gNm 1)) (sSeq (sFor (iItemsD (sFn f_powers_in (sCons (sVar 0) (sNil)))) (gTp 2 (gConsS (gNm 2) (gConsS (gNm 3) (gNilS)))) (l_divisors_in_3)) (sRet (sCall (g1 dSorted) (sCons (sVar 1) (sNil))))))
def f_divisors : Fn := runDef 1 (sSeq (sDrop (sFn f_require_positive (sCons (sVar 0) (sNil)))) (sSeq (sDrop (sFn f_require_factored (sCons (sVar 0) (sNil)))) (sRet (sCall (g1 dTuple) (sCons (sFn f_divisors_in (sCons (sVar 0) (sNil))) (sNil))))))
def l_units_in_1 : SS := sAsg (sBin dMul (sBin dDiv (sVar 1) (sVar 2)) (sBin dSub (sVar 2) (sC (.int 1)))) (gNm 1)
def f_units_in : Fn := runDef 3 (sSeq (sAsg (sVar 0) (gNm 1)) (sSeq (sFor (iKeysD (sFn f_powers_in (sCons (sVar 0) (sNil)))) (gNm 2) (l_units_in_1)) (sRet (sVar 1))))
def f_count_units : Fn := runDef 1 (sSeq (sDrop (sFn f_require_count (sCons (sVar 0) (sCons (sC (.int 1)) (sCons (sC (.int (10000))) (sNil)))))) (sRet (sFn f_units_in (sCons (sVar 0) (sNil)))))
def ext (p : Int) (xs : List Int) : Nat → Int → List Int → Option (List Int)
  | 0, _, acc => some acc
  | k + 1, pw, acc => if p.natAbs < 1000000000000 ∧ (pw * p).natAbs < 1000000000000 ∧ xs.length ≤ mostL ∧ acc.length + xs.length ≤ mostL then ext p xs k (pw * p) (acc ++ xs.map (· * (pw * p))) else none
def dvs : List (Int × Int) → List Int → Option (List Int)
  | [], xs => some xs
  | (p, m) :: r, xs => if 0 ≤ m ∧ m < 1000 then (match ext p xs m.toNat 1 xs with
    | some ys => dvs r ys
    | none => none) else none
theorem intsOf_map : ∀ l : List Int, intsOf (l.map D.int) = some l
  | [] => rfl
  | i :: l => by
    rw [List.map_cons]
    unfold intsOf
    rw [intsOf_map l]; rfl
end Pd

namespace Pd
open PySem L2 Evl
local macro_rules | `(tactic| walk_at "sm") => `(tactic| first | assumption | exact Sm.lit | exact Sm.mul (by walk_at "sm") (by walk_at "sm") | exact Sm.add (by walk_at "sm") (by walk_at "sm") | exact Sm.sub (by walk_at "sm") (by walk_at "sm") | exact Sm.neg (by walk_at "sm"))
local macro_rules | `(tactic| walk_at "cm") => `(tactic| ((with_reducible show CM _ _); first | assumption | exact CM.left (by decide) | exact CM.right (by decide) | exact CM.left (by omega) | exact CM.right (by omega) | exact CM.of (by walk_at "sm") (by walk_at "sm") (by decide)))
local macro_rules | `(tactic| simp_arith only [$xs,*]) => `(tactic| simp (maxSteps := 4000000) (dsimp := false) (disch := first | assumption | decide | omega | walk_at "cm") only [runDef_ap, sVar_ap, sC_ap, sBin_ap, sNeg_ap, sAnd_ap, sOr_ap, sNot_ap, sIf_ap, sTst_ap, qAnd_ap, qOr_ap, qNot_ap, qYes_ap, sChain_ap, sChain3_ap, sNil_ap, sCons_ap, sTup_ap, sLst_ap, sLstM_ap, sCall_ap, g1_ap, g2_ap, sFn_ap, sAsg_ap, gNm_ap, gTp_ap, gConsS_ap, gNilS_ap, sPar_ap, sPar3_ap, sRet_ap, sRetN_ap, sNx_ap, sBrk_ap, sCnt_ap, sSeq_ap, sIte_ap, sDrop_ap, sFrz_ap, sAug_ap, iRange1_ap, iRange2_ap, iSeq_ap, sFor_ap, sLc_ap, R.toG_ok, ↓R.bind_bnd, bnd_ok, ↓R.bd_bdn, bdn_ok, ↓R.toF_tof, tof_ok, ↓F.seq_sqn, sqn_nx, sqn_ret, sqn_cnt, sqn_brk, ↓F.turn_trn, trn_nx, trn_ret, trn_cnt, trn_brk, F.end_nx, F.end_ret, ↓br_true, br_true, ↓br_false, br_false, Dbr, Dneg, Dtst, opt_some, dAdd_int, dIAdd_int, dSub_int, dLt_int, dLe_int, dGt_int, dGe_int, dEq_int, dNe_int, dEq_bl, dNe_bl, dMul_cm, dMod_pos, dDiv_pos, dAbs_int, dMax2_int, dMin2_int, dInt_int, dInt_bl, dIx_tup, dIx_lst, dIx_seq, dLen_tup, dLen_lst, dLen_seq, atI_0, atI_1, atI_2, atI_3, List.map_cons, List.map_nil, List.length_cons, List.length_nil, List.replicate_succ, List.replicate_zero, List.cons_append, List.nil_append, List.getElem?_cons_zero, List.getElem?_cons_succ, List.set_cons_zero, List.set_cons_succ, Nat.reduceAdd, Nat.reduceSub, Nat.zero_add, Nat.add_zero, Nat.sub_self, Nat.reduceMul, mostL_def, Nat.reduceLeDiff, Nat.reduceLT, ite_true, ite_false, if_true, if_false, ↓reduceIte, reduceIte, ↓br_ite, Bool.false_eq_true, reduceCtorEq, Bool.not_true, Bool.not_false, decide_true, decide_false, Int.cast_ofNat_Int, Int.reduceBEq, Int.reduceAdd, Int.reduceSub, Int.reduceMul, Int.reduceNeg, Int.reduceLT, Int.reduceLE, Int.reduceMod, Int.reduceDiv, sMeth1_ap, sSl_ap, sRev_ap, oNo_ap, oPart_ap, sDict0_ap, sSetL_ap, sLc2_ap, sStar_ap, sDGet1_ap, sDGet2_ap, sPutD_ap, iItemsD_ap, iValsD_ap, iKeysD_ap, sDict0T_ap, sPutT_ap, sTGet1_ap, sFrzT_ap, iKeysT_ap, $xs,*])
def c_units_modulo_1 : SE := sLc (iRange1 (sCons (sVar 0) (sNil))) (gNm 1) (sTst (sBin dEq (sFn f_common_of (sCons (sVar 1) (sCons (sVar 0) (sNil)))) (sC (.int 1)))) (sVar 1) [1]
def f_units_modulo : Fn := runDef 2 (sRet (c_units_modulo_1))
def f_do_tell : Fn := runDef 3 (sRet (sBin dEq (sFn f_common_of (sCons (sFn f_common_of (sCons (sVar 1) (sCons (sVar 2) (sNil)))) (sCons (sVar 0) (sNil)))) (sC (.int 1))))
def c_least_pair_1 : SE := sLc (iSeq (sFn f_units_modulo (sCons (sVar 0) (sNil)))) (gNm 3) (qYes) (sTup (sCons (sBin dMod (sBin dMul (sVar 3) (sVar 1)) (sVar 0)) (sCons (sBin dMod (sBin dMul (sVar 3) (sVar 2)) (sVar 0)) (sNil)))) [3]
def f_least_pair : Fn := runDef 4 (sRet (sCall (g1 dMinA) (sCons (c_least_pair_1) (sNil))))
def uz (n : Int) : List Int := (rangeZ 0 n.toNat).filter fun u => ((Int.gcd u n : Nat) : Int) == 1
theorem uz_mem {n u : Int} : u ∈ uz n ↔ 0 ≤ u ∧ u < n ∧ Int.gcd u n = 1 := by
  unfold uz
  rw [List.mem_filter, rangeZ_mem]
  simp only [beq_iff_eq]
  omega
theorem uz_ne {n : Int} (h : 1 ≤ n) : uz n ≠ [] := by
  intro z
  by_cases h2 : n = 1
  · subst h2; cases z
  · have : (1 : Int) ∈ uz n := uz_mem.mpr ⟨by omega, by omega, Int.one_gcd⟩
    rw [z] at this; cases this
theorem uz_len {n : Int} : (uz n).length ≤ n.toNat := Nat.le_trans (List.length_filter_le _ _) (by rw [rangeZ_len]; omega)
theorem sm_in {n : Int} (h0 : -1000000 < n) (h : n < 1000000) : Sm 199 n := Sm.of_lt 199 (n := 1000000) (by omega) (by omega) (by decide)
theorem units_mod_ok {n : Int} (h1 : 1 ≤ n) (h2 : n ≤ 1000) (h : Ph) : f_units_modulo [.int n] h = .ok (.lst ((uz n).map D.int)) h := by
  have hc : c_units_modulo_1 [some (.int n), none] h = .ok (.lst ((uz n).map D.int)) h := by
    unfold c_units_modulo_1 uz
    refine lc_filter (h := h) (h1 := h) (ns := rangeZ 0 n.toNat) ?_ (Nat.le_trans (by rw [rangeZ_len]; omega) (show 10000 ≤ mostL by decide)) (show 1 < 2 by decide) fun x hx => ?_
    · rw [← rangeD_map]
      exact range1_ok (by simp_arith only []) (by omega) (by omega)
    · have := rangeZ_mem.mp hx
      have g : f_common_of [.int x, .int n] h = .ok (.int (Int.gcd x n)) h := common_ok ((sm_in (by omega) (by omega)).mono (by decide))
      simp_arith only [wipe_cons, wipe_nil, g]
  unfold f_units_modulo
  simp_arith only [hc]
def lpm (n c d u : Int) : List Int := [u * c % n, u * d % n]
def minL : List (List Int) → List Int
  | [] => []
  | m :: r => minS m r
def lpz (n c d : Int) : List Int := minL ((uz n).map (lpm n c d))
theorem tupsOf_map : ∀ {l : List (List Int)}, (∀ x ∈ l, x ≠ []) → tupsOf (l.map tupZ) = some l
  | [], _ => rfl
  | [] :: r, h => absurd rfl (h _ List.mem_cons_self)
  | (x :: xs) :: r, h => by
    have ih := tupsOf_map (l := r) fun y hy => h y (List.mem_cons_of_mem _ hy)
    show (match intsOf ((x :: xs).map D.int) with | some (n :: ns) => (tupsOf (r.map tupZ)).map ((n :: ns) :: ·) | _ => none) = _
    rw [intsOf_map, ih]
    rfl
theorem minA_tups {l : List (List Int)} (h0 : l ≠ []) (h1 : ∀ x ∈ l, x ≠ []) (h : Ph) : dMinA (.lst (l.map tupZ)) h = .ok (tupZ (minL l)) h := by
  cases l with
  | nil => exact absurd rfl h0
  | cons m r =>
    have e0 : dMinA (.lst ((m :: r).map tupZ)) h = minAll ((m :: r).map tupZ) h := rfl
    rw [e0]
    unfold minAll
    have e : intsOf ((m :: r).map tupZ) = none := rfl
    rw [e]
    show R.opt (tupsOf ((m :: r).map tupZ)) _ = _
    rw [tupsOf_map h1]
    rfl
theorem leastp_ok {n c d : Int} (h1 : 1 ≤ n) (h2 : n ≤ 1000) (h : Ph) : f_least_pair [.int n, .int c, .int d] h = .ok (tupZ (lpz n c d)) h := by
  have hc : c_least_pair_1 [some (.int n), some (.int c), some (.int d), none] h = .ok (.lst (((uz n).map (lpm n c d)).map tupZ)) h := by
    unfold c_least_pair_1
    rw [lc_mp (xs := (uz n).map D.int) (h1 := h) (fun x => match x with | .int u => tupZ (lpm n c d u) | z => z) (by simp_arith only [units_mod_ok h1 h2 h]) (by rw [List.length_map]; exact Nat.le_trans uz_len (Nat.le_trans (by omega : n.toNat ≤ 10000) (by decide))) (by
      intro x hx
      obtain ⟨u, hu, rfl⟩ := List.mem_map.mp hx
      obtain ⟨u0, u1, _⟩ := uz_mem.mp hu
      have c1 : CM u c := CM.left (by omega)
      have c2 : CM u d := CM.left (by omega)
      have h0 : 0 < n := by omega
      simp_arith only [wipe_cons, wipe_nil]
      rfl)]
    rw [List.map_map, List.map_map]
    rfl
  unfold f_least_pair
  simp_arith only [hc, minA_tups (l := (uz n).map (lpm n c d)) (by simpa using uz_ne h1) (fun x hx => by obtain ⟨u, _, rfl⟩ := List.mem_map.mp hx; simp [lpm]) h]
  rfl
def tl (n c d : Int) : Bool := ((Int.gcd (Int.gcd c d : Nat) n : Nat) : Int) == 1
theorem tell_ok {n c d : Int} (h1 : 1 ≤ n) (h2 : n ≤ 1000) (sd : Sm 600 d) (h : Ph) : f_do_tell [.int n, .int c, .int d] h = .ok (.bl (tl n c d)) h := by
  have g1 : f_common_of [.int c, .int d] h = .ok (.int (Int.gcd c d)) h := common_ok sd
  have g2 : f_common_of [.int (Int.gcd c d : Nat), .int n] h = .ok (.int (Int.gcd (Int.gcd c d : Nat) n)) h := common_ok ((sm_in (by omega) (by omega)).mono (by decide))
  unfold f_do_tell tl
  simp_arith only [g1, g2]
def uk (n c : Int) : List Int := (uz n).filter fun u => u * c % n == c
def mnZ : List Int → Int
  | [] => 0
  | m :: r => minZ m r
def pwp (n c d : Int) : Bool := tl n c d && (d == mnZ ((uk n c).map fun u => u * d % n))
def pw (n c : Int) : List (List Int) := ((rangeZ 0 n.toNat).filter (pwp n c)).map fun d => [c, d]
theorem uk_ne {n c : Int} (h : 1 ≤ n) (c0 : 0 ≤ c) (c1 : c < n) : uk n c ≠ [] := by
  intro z
  by_cases h2 : n = 1
  · subst h2
    have : c = 0 := by omega
    subst this
    cases z
  · have : (1 : Int) ∈ uk n c := by
      refine List.mem_filter.mpr ⟨uz_mem.mpr ⟨by omega, by omega, Int.one_gcd⟩, ?_⟩
      rw [Int.one_mul, Int.emod_eq_of_lt c0 c1]
      exact beq_self_eq_true _
    rw [z] at this; cases this
def fez (n : Int) : List Int := 0 :: (rangeZ 1 (n - 1).toNat).filter fun x => n % x == 0
theorem fez_mem {n c : Int} (h1 : 1 ≤ n) (h : c ∈ fez n) : 0 ≤ c ∧ c < n := by
  rcases List.mem_cons.mp h with rfl | h
  · omega
  · have := rangeZ_mem.mp (List.mem_filter.mp h).1
    omega
def ap (n : Int) : List (List Int) := (fez n).flatMap (pw n)
end Pd

namespace Pd
open PySem L2
section
variable {n : Int}
theorem gcd_red (u n : Int) : Int.gcd (u % n) n = Int.gcd u n := by
  rw [Int.gcd_comm, Int.gcd_comm u]
  have h1 : (Int.gcd n (u % n) : Int) ∣ Int.gcd n u := Int.dvd_coe_gcd (Int.gcd_dvd_left _ _) (by
    have e := Int.emod_add_mul_ediv u n
    have d1 : (Int.gcd n (u % n) : Int) ∣ u % n := Int.gcd_dvd_right _ _
    have d2 : (Int.gcd n (u % n) : Int) ∣ n * (u / n) := dvL (Int.gcd_dvd_left _ _)
    have := Int.dvd_add d1 d2
    rwa [e] at this)
  have h2 : (Int.gcd n u : Int) ∣ Int.gcd n (u % n) := Int.dvd_coe_gcd (Int.gcd_dvd_left _ _) (by
    have e := Int.emod_add_mul_ediv u n
    have d1 : (Int.gcd n u : Int) ∣ u := Int.gcd_dvd_right _ _
    have d2 : (Int.gcd n u : Int) ∣ n * (u / n) := dvL (Int.gcd_dvd_left _ _)
    have h3 := Int.dvd_sub d1 d2
    have : u - n * (u / n) = u % n := by omega
    rwa [this] at h3)
  exact Nat.dvd_antisymm (Int.ofNat_dvd.mp h1) (Int.ofNat_dvd.mp h2)
theorem uz_of {u : Int} (h : 1 ≤ n) (g : Int.gcd u n = 1) : u % n ∈ uz n := uz_mem.mpr ⟨Int.emod_nonneg _ (by omega), Int.emod_lt_of_pos _ (by omega), by rw [gcd_red]; exact g⟩
theorem uz_one (h : 1 ≤ n) : 1 % n ∈ uz n := uz_of h Int.one_gcd
theorem inv_cop {u : Int} (g : Int.gcd u n = 1) : ∃ v, Int.gcd v n = 1 ∧ n ∣ u * v - 1 := by
  obtain ⟨A, B, e⟩ := bez_int u n
  rw [g] at e
  refine ⟨A, ?_, ⟨-B, by grind⟩⟩
  have d1 : (Int.gcd A n : Int) ∣ u * A := dvR (Int.gcd_dvd_left _ _)
  have d2 : (Int.gcd A n : Int) ∣ n * B := dvL (Int.gcd_dvd_right _ _)
  have d := Int.dvd_add d1 d2
  rw [← e] at d
  have := Int.natAbs_dvd_natAbs.mpr d
  simpa using this
theorem uz_inv {u : Int} (h : 1 ≤ n) (hu : u ∈ uz n) : ∃ v ∈ uz n, n ∣ u * v - 1 := by
  obtain ⟨A, g, k, e⟩ := inv_cop (uz_mem.mp hu).2.2
  refine ⟨A % n, uz_of h g, k - u * (A / n), ?_⟩
  have := Int.emod_add_mul_ediv A n
  grind
end
def MulP (n : Int) (p q : Int × Int) : Prop := ∃ u ∈ uz n, n ∣ u * p.1 - q.1 ∧ n ∣ u * p.2 - q.2
section
variable {n : Int} {p q r : Int × Int}
theorem MulP.cong (h : 1 ≤ n) (h1 : n ∣ p.1 - q.1) (h2 : n ∣ p.2 - q.2) : MulP n p q := by
  refine ⟨1 % n, uz_one h, ?_, ?_⟩
  · obtain ⟨k, e⟩ := h1
    have := Int.emod_add_mul_ediv 1 n
    exact ⟨k - (1 / n) * p.1, by grind⟩
  · obtain ⟨k, e⟩ := h2
    have := Int.emod_add_mul_ediv 1 n
    exact ⟨k - (1 / n) * p.2, by grind⟩
theorem MulP.refl (h : 1 ≤ n) : MulP n p p := .cong h (by rw [Int.sub_self]; exact Int.dvd_zero _) (by rw [Int.sub_self]; exact Int.dvd_zero _)
theorem MulP.of_unit {u : Int} (h : 1 ≤ n) (g : Int.gcd u n = 1) (h1 : n ∣ u * p.1 - q.1) (h2 : n ∣ u * p.2 - q.2) : MulP n p q := by
  have := Int.emod_add_mul_ediv u n
  refine ⟨u % n, uz_of h g, ?_, ?_⟩
  · obtain ⟨k, e⟩ := h1
    exact ⟨k - (u / n) * p.1, by grind⟩
  · obtain ⟨k, e⟩ := h2
    exact ⟨k - (u / n) * p.2, by grind⟩
theorem MulP.trans (h : 1 ≤ n) (x : MulP n p q) (y : MulP n q r) : MulP n p r := by
  obtain ⟨u, hu, ⟨a, ea⟩, ⟨b, eb⟩⟩ := x
  obtain ⟨v, hv, ⟨c, ec⟩, ⟨d, ed⟩⟩ := y
  exact .of_unit h (cop_mul (uz_mem.mp hv).2.2 (uz_mem.mp hu).2.2) ⟨v * a + c, by grind⟩ ⟨v * b + d, by grind⟩
theorem MulP.symm (h : 1 ≤ n) (x : MulP n p q) : MulP n q p := by
  obtain ⟨u, hu, ⟨a, ea⟩, ⟨b, eb⟩⟩ := x
  obtain ⟨v, hv, c, ec⟩ := uz_inv h hu
  exact ⟨v, hv, ⟨c * p.1 - v * a, by grind⟩, ⟨c * p.2 - v * b, by grind⟩⟩
theorem tl_iff : tl n p.1 p.2 = true ↔ ∀ k : Int, k ∣ p.1 → k ∣ p.2 → k ∣ n → k ∣ 1 := by
  unfold tl
  rw [beq_iff_eq]
  constructor
  · intro e k h1 h2 h3
    have := Int.dvd_coe_gcd (Int.dvd_coe_gcd h1 h2) h3
    rwa [e] at this
  · intro hk
    have h1 : (Int.gcd (Int.gcd p.1 p.2 : Nat) n : Int) ∣ (Int.gcd p.1 p.2 : Nat) := Int.gcd_dvd_left _ _
    have d := hk (Int.gcd (Int.gcd p.1 p.2 : Nat) n) (Int.dvd_trans h1 (Int.gcd_dvd_left _ _)) (Int.dvd_trans h1 (Int.gcd_dvd_right _ _)) (Int.gcd_dvd_right _ _)
    have := Int.natAbs_dvd_natAbs.mpr d
    have : Int.gcd (Int.gcd p.1 p.2 : Nat) n = 1 := by simpa using this
    rw [this]; rfl
theorem dvd_cancel {k u x y : Int} (g : Int.gcd u n = 1) (hk : k ∣ n) (e : n ∣ u * x - y) (hy : k ∣ y) : k ∣ x := by
  have h1 : k ∣ u * x := by
    have := Int.dvd_add (Int.dvd_trans hk e) hy
    rwa [Int.sub_add_cancel] at this
  have h2 : Int.gcd k u = 1 := by rw [Int.gcd_comm]; exact cop_of_dvd g hk
  exact dvd_cop h1 h2
theorem MulP.tell (h : 1 ≤ n) (x : MulP n p q) : tl n p.1 p.2 = tl n q.1 q.2 := by
  have go : ∀ {p q : Int × Int}, MulP n p q → tl n p.1 p.2 = true → tl n q.1 q.2 = true := by
    intro p q x t
    rw [tl_iff] at t ⊢
    obtain ⟨u, hu, e1, e2⟩ := x
    have g := (uz_mem.mp hu).2.2
    exact fun k h1 h2 h3 => t k (dvd_cancel g h3 e1 h1) (dvd_cancel g h3 e2 h2) h3
  cases a : tl n p.1 p.2 with
  | true => rw [go x a]
  | false =>
    cases b : tl n q.1 q.2 with
    | false => rfl
    | true => rw [go (x.symm h) b] at a; cases a
def lt2 (p q : Int × Int) : Prop := p.1 < q.1 ∨ (p.1 = q.1 ∧ p.2 < q.2)
theorem lex2 {a b c d : Int} : HT.lexLt [a, b] [c, d] = true ↔ lt2 (a, b) (c, d) := by
  rw [HT.lexLt_cons, HT.lexLt_cons, HT.lexLt_nil_nil]
  unfold lt2
  by_cases e : a = c
  · rw [if_pos e]
    by_cases e2 : b = d
    · rw [if_pos e2]; simp only; constructor
      · intro z; cases z
      · intro z; omega
    · rw [if_neg e2, decide_eq_true_eq]; simp only; omega
  · rw [if_neg e, decide_eq_true_eq]; simp only; omega
theorem lt2_irr (p q : Int × Int) (h1 : ¬ lt2 p q) (h2 : ¬ lt2 q p) : p = q := by
  unfold lt2 at h1 h2
  exact Prod.ext (by omega) (by omega)
def res (n : Int) (p : Int × Int) : Prop := 0 ≤ p.1 ∧ p.1 < n ∧ 0 ≤ p.2 ∧ p.2 < n
def md (n : Int) (p : Int × Int) : Int × Int := (p.1 % n, p.2 % n)
theorem md_res (h : 1 ≤ n) : res n (md n p) := ⟨Int.emod_nonneg _ (by omega), Int.emod_lt_of_pos _ (by omega), Int.emod_nonneg _ (by omega), Int.emod_lt_of_pos _ (by omega)⟩
theorem dv_mod {a b : Int} (h : n ∣ a - b) : a % n = b % n := Int.emod_eq_emod_iff_emod_sub_eq_zero.mpr (Int.emod_eq_zero_of_dvd h)
theorem md_dvd : n ∣ p.1 - (md n p).1 ∧ n ∣ p.2 - (md n p).2 := ⟨Int.dvd_self_sub_emod, Int.dvd_self_sub_emod⟩
theorem md_of (h : res n p) : md n p = p := Prod.ext (Int.emod_eq_of_lt h.1 h.2.1) (Int.emod_eq_of_lt h.2.2.1 h.2.2.2)
theorem MulP.md_r (h : 1 ≤ n) : MulP n p (md n p) := .cong h md_dvd.1 md_dvd.2
theorem mem_min {l : List (List Int)} (h : l ≠ []) : minL l ∈ l ∧ ∀ x ∈ l, HT.lexLt x (minL l) = false := by
  cases l with
  | nil => exact absurd rfl h
  | cons m r =>
    refine ⟨minS_mem m r, ?_⟩
    show ∀ x ∈ m :: r, HT.lexLt x (minS m r) = false
    clear h
    induction r generalizing m with
    | nil =>
      intro x hx
      rw [List.mem_singleton.mp hx]
      show HT.lexLt m m = false
      cases z : HT.lexLt m m with
      | false => rfl
      | true => rw [lex_asym z] at z; cases z
    | cons y r ih =>
      intro x hx
      have e : minS m (y :: r) = minS (if HT.lexLt y m then y else m) r := rfl
      rw [e]
      have base := ih (if HT.lexLt y m then y else m) _ List.mem_cons_self
      cases z : HT.lexLt y m with
      | true =>
        rw [z] at base
        rcases List.mem_cons.mp hx with rfl | hx
        · exact lex_tr (b := y) base (lex_asym z)
        · rcases List.mem_cons.mp hx with rfl | hx
          · exact base
          · exact ih _ x (List.mem_cons_of_mem _ hx)
      | false =>
        rw [z] at base
        rcases List.mem_cons.mp hx with rfl | hx
        · exact base
        · rcases List.mem_cons.mp hx with rfl | hx
          · exact lex_tr (b := m) base z
          · exact ih _ x (List.mem_cons_of_mem _ hx)
structure IsLp (n : Int) (q p : Int × Int) : Prop where
  r : res n p
  m : MulP n q p
  l : ∀ x, res n x → MulP n q x → ¬ lt2 x p
theorem IsLp.one {x y : Int × Int} (a : IsLp n q x) (b : IsLp n q y) : x = y := lt2_irr _ _ (b.l _ a.r a.m) (a.l _ b.r b.m)
theorem IsLp.of_mul {q' : Int × Int} (h : 1 ≤ n) (a : IsLp n q p) (x : MulP n q q') : IsLp n q' p := ⟨a.r, (x.symm h).trans h a.m, fun y hy my => a.l y hy (x.trans h my)⟩
def lp (n : Int) (q : Int × Int) : Int × Int := ((lpz n q.1 q.2).getD 0 0, (lpz n q.1 q.2).getD 1 0)
theorem lp_is (h : 1 ≤ n) (q : Int × Int) : IsLp n q (lp n q) ∧ lpz n q.1 q.2 = [(lp n q).1, (lp n q).2] := by
  obtain ⟨m1, m2⟩ := mem_min (l := (uz n).map (lpm n q.1 q.2)) (by simpa using uz_ne h)
  obtain ⟨u, hu, e⟩ := List.mem_map.mp m1
  have e' : lpz n q.1 q.2 = [(md n (u * q.1, u * q.2)).1, (md n (u * q.1, u * q.2)).2] := e.symm
  have e2 : lp n q = md n (u * q.1, u * q.2) := by unfold lp; rw [e']; rfl
  refine ⟨⟨e2 ▸ md_res h, ⟨u, hu, ?_, ?_⟩, fun x hx ⟨v, hv, v1, v2⟩ => ?_⟩, by rw [e', e2]⟩
  · rw [e2]; exact (md_dvd (p := (u * q.1, u * q.2))).1
  · rw [e2]; exact (md_dvd (p := (u * q.1, u * q.2))).2
  · have z := m2 _ (List.mem_map_of_mem hv)
    have z2 : HT.lexLt [(md n (v * q.1, v * q.2)).1, (md n (v * q.1, v * q.2)).2] (lpz n q.1 q.2) = false := z
    rw [e', ← e2] at z2
    have ex : x = md n (v * q.1, v * q.2) := by
      rw [← md_of hx]
      exact Prod.ext (dv_mod v1).symm (dv_mod v2).symm
    rw [ex]
    exact fun w => by
      have w2 : HT.lexLt [(md n (v * q.1, v * q.2)).1, (md n (v * q.1, v * q.2)).2] [(lp n q).1, (lp n q).2] = true := lex2.mpr w
      rw [z2] at w2; cases w2

theorem lp_lp (h : 1 ≤ n) : lp n (lp n q) = lp n q := (lp_is h (lp n q)).1.one (((lp_is h q).1).of_mul h (lp_is h q).1.m)
theorem lp_mul (h : 1 ≤ n) (x : MulP n p q) : lp n p = lp n q := ((lp_is h p).1.of_mul h x).one (lp_is h q).1
theorem mul_of_lp (h : 1 ≤ n) (e : lp n p = lp n q) : MulP n p q := ((lp_is h p).1.m).trans h (by rw [e]; exact ((lp_is h q).1.m).symm h)
theorem lp_md (h : 1 ≤ n) : lp n (md n p) = lp n p := (lp_mul h (MulP.md_r h)).symm
theorem tl_md (h : 1 ≤ n) : tl n (p.1 % n) (p.2 % n) = tl n p.1 p.2 := (MulP.tell h (MulP.md_r (p := p) h)).symm
theorem lp_res (h : 1 ≤ n) : res n (lp n p) := (lp_is h p).1.r
theorem tl_lp (h : 1 ≤ n) : tl n (lp n p).1 (lp n p).2 = tl n p.1 p.2 := (MulP.tell h (lp_is h p).1.m).symm
def Own2 (n : Int) (p : Int × Int) : Prop := res n p ∧ tl n p.1 p.2 = true ∧ lp n p = p
theorem lp_own (h : 1 ≤ n) (t : tl n p.1 p.2 = true) : Own2 n (lp n p) := ⟨lp_res h, (tl_lp h).trans t, lp_lp h⟩
def unitK (m g v : Nat) : Bool := (List.range g).any fun k => Nat.gcd (v + k * m) (g * m) == 1
def unitT : Bool := (List.range 101).all fun n => (List.range (n + 1)).all fun g => if g = 0 then true else if n % g = 0 then (List.range (n / g)).all fun v => if Nat.gcd v (n / g) = 1 then unitK (n / g) g v else true else true
theorem unitT_ok : unitT = true := by kernel_rfl
theorem unit_lift {m g v : Nat} (hg : 0 < g) (hn : g * m ≤ 100) (hv : v < m) (e : Nat.gcd v m = 1) : ∃ k, Nat.gcd (v + k * m) (g * m) = 1 := by
  have h0 := unitT_ok
  unfold unitT at h0
  have h1 := List.all_eq_true.mp h0 (g * m) (List.mem_range.mpr (by omega))
  have h2 := List.all_eq_true.mp h1 g (List.mem_range.mpr (by have := Nat.mul_le_mul_left g (show 1 ≤ m by omega); omega))
  rw [if_neg (by omega), if_pos (Nat.mul_mod_right g m), Nat.mul_div_cancel_left m hg] at h2
  have h3 := List.all_eq_true.mp h2 v (List.mem_range.mpr hv)
  rw [if_pos e] at h3
  obtain ⟨k, _, hk⟩ := List.any_eq_true.mp h3
  exact ⟨k, beq_iff_eq.mp hk⟩
theorem unit_to (h : 1 ≤ n) (h2 : n ≤ 100) {c : Int} (c0 : 0 < c) (c1 : c < n) : ∃ u, Int.gcd u n = 1 ∧ n ∣ u * c - (Int.gcd c n : Int) := by
  obtain ⟨g, hg⟩ : ∃ g, g = Int.gcd c n := ⟨_, rfl⟩
  have g0 : 0 < g := hg ▸ gcd_nz h
  have cop : Int.gcd (c / (g : Int)) (n / (g : Int)) = 1 := by rw [hg]; exact Int.gcd_ediv_gcd_ediv_gcd (gcd_nz h)
  have ec : (g : Int) * (c / g) = c := Int.mul_ediv_cancel' (hg ▸ Int.gcd_dvd_left _ _)
  have en : (g : Int) * (n / g) = n := Int.mul_ediv_cancel' (hg ▸ Int.gcd_dvd_right _ _)
  have m0 : 0 < n / (g : Int) := Int.ediv_pos_of_pos_of_dvd (by omega) (by omega) (hg ▸ Int.gcd_dvd_right _ _)
  rw [← hg]
  generalize c / (g : Int) = c' at *
  obtain ⟨m, em⟩ : ∃ m : Nat, n / (g : Int) = m := ⟨(n / (g : Int)).toNat, by omega⟩
  rw [em] at en cop m0
  obtain ⟨v, v1, j, ej⟩ := inv_cop cop
  have v2 : Int.gcd (v % m) m = 1 := by rw [gcd_red]; exact v1
  have vp := Int.emod_nonneg v (show (m : Int) ≠ 0 by omega)
  have vl := Int.emod_lt_of_pos v m0
  have vd := Int.emod_add_mul_ediv v m
  obtain ⟨w, ew⟩ : ∃ w : Nat, v % (m : Int) = w := ⟨(v % (m : Int)).toNat, by omega⟩
  rw [ew] at v2 vl vd
  obtain ⟨k, hk⟩ := unit_lift (g := g) (m := m) (v := w) g0 (by have : ((g * m : Nat) : Int) = n := by rw [← en]; simp
                                                                omega) (by omega) (by simpa using v2)
  refine ⟨(w + k * m : Nat), ?_, ⟨j - c' * (v / m) + k * c', ?_⟩⟩
  · have : n = ((g * m : Nat) : Int) := by rw [← en]; simp
    rw [this, Int.gcd_natCast_natCast]
    exact hk
  · have e1 : ((w + k * m : Nat) : Int) = w + k * m := by simp
    rw [e1, ← en, ← ec]
    grind

theorem mnZ_is {l : List Int} (h : l ≠ []) : mnZ l ∈ l ∧ ∀ x ∈ l, mnZ l ≤ x := by
  cases l with
  | nil => exact absurd rfl h
  | cons m r =>
    obtain ⟨a, b⟩ := minZ_le r m
    refine ⟨(minZ_mem r m).elim (fun e => by show minZ m r ∈ _; rw [e]; exact List.mem_cons_self) (List.mem_cons_of_mem _), fun x hx => ?_⟩
    rcases List.mem_cons.mp hx with rfl | hx
    · exact a
    · exact b x hx
def apP (n : Int) : List (Int × Int) := (fez n).flatMap fun c => ((rangeZ 0 n.toNat).filter (pwp n c)).map fun d => (c, d)
def L2p (p : Int × Int) : List Int := [p.1, p.2]
theorem mem_apP (h : 1 ≤ n) (h2 : n ≤ 100) : p ∈ apP n ↔ Own2 n p := by
  obtain ⟨c, d⟩ := p
  have e0 : (c, d) ∈ apP n ↔ c ∈ fez n ∧ 0 ≤ d ∧ d < n ∧ pwp n c d = true := by
    unfold apP
    rw [List.mem_flatMap]
    constructor
    · rintro ⟨c', h1, h2⟩
      obtain ⟨d', h3, e⟩ := List.mem_map.mp h2
      cases e
      obtain ⟨h4, h5⟩ := List.mem_filter.mp h3
      have := rangeZ_mem.mp h4
      exact ⟨h1, by omega, by omega, h5⟩
    · rintro ⟨h1, h2, h3, h4⟩
      exact ⟨c, h1, List.mem_map.mpr ⟨d, List.mem_filter.mpr ⟨rangeZ_mem.mpr (by omega), h4⟩, rfl⟩⟩
  rw [e0]
  have pw2 : pwp n c d = true ↔ tl n c d = true ∧ d = mnZ ((uk n c).map fun u => u * d % n) := by
    unfold pwp
    rw [Bool.and_eq_true, beq_iff_eq]
  rw [pw2]
  have keyR : ∀ {c d : Int}, (∀ x, res n x → MulP n (c, d) x → ¬ lt2 x (c, d)) → res n (c, d) → lp n (c, d) = (c, d) := fun hm hr => (lp_is h _).1.one ⟨hr, MulP.refl h, hm⟩
  constructor
  · rintro ⟨h1, d0, d1, t, em⟩
    obtain ⟨c0, c1⟩ := fez_mem h h1
    refine ⟨⟨c0, c1, d0, d1⟩, t, keyR (fun x hx ⟨u, hu, ⟨a, ea⟩, ⟨b, eb⟩⟩ lt => ?_) ⟨c0, c1, d0, d1⟩⟩
    obtain ⟨x1, x2⟩ := x
    obtain ⟨x10, x11, x20, x21⟩ := hx
    simp only at x10 x11 x20 x21 ea eb
    have g := (uz_mem.mp hu).2.2
    -- the first is not less
    have ge : c ≤ x1 := by
      rcases List.mem_cons.mp h1 with rfl | h1
      · exact x10
      · obtain ⟨k1, k2⟩ := List.mem_filter.mp h1
        have cp := (rangeZ_mem.mp k1).1
        have cd : c ∣ n := Int.dvd_of_emod_eq_zero (beq_iff_eq.mp k2)
        have dx : c ∣ x1 := by
          obtain ⟨j, ej⟩ := cd
          exact ⟨u - j * a, by grind⟩
        have xn : x1 ≠ 0 := by
          intro z
          have : n ∣ u * c := ⟨a, by omega⟩
          have := dvd_cop this (by rw [Int.gcd_comm]; exact g)
          have := Int.le_of_dvd (by omega) this
          omega
        exact Int.le_of_dvd (by omega) dx
    unfold lt2 at lt
    simp only at lt
    have eq1 : x1 = c := by omega
    have lt' : x2 < d := by omega
    have uk1 : u ∈ uk n c := List.mem_filter.mpr ⟨hu, by
      rw [beq_iff_eq, ← Int.emod_eq_of_lt c0 c1, ← eq1]
      exact dv_mod ⟨a, by rw [Int.emod_eq_of_lt x10 x11, eq1]; rw [eq1] at ea; exact ea⟩⟩
    have le := (mnZ_is (l := (uk n c).map fun u => u * d % n) (by simpa using uk_ne h c0 c1)).2 _ (List.mem_map_of_mem uk1)
    rw [← em] at le
    have : u * d % n = x2 := by rw [dv_mod (b := x2) ⟨b, eb⟩, Int.emod_eq_of_lt x20 x21]

    omega
  · rintro ⟨⟨c0, c1, d0, d1⟩, t, e⟩
    simp only at c0 c1 d0 d1 t
    have least : ∀ u, Int.gcd u n = 1 → ¬ lt2 (md n (u * c, u * d)) (c, d) := fun u g => by
      have := (lp_is h (c, d)).1.l _ (md_res (p := (u * c, u * d)) h) (MulP.of_unit h g (md_dvd (p := (u * c, u * d))).1 (md_dvd (p := (u * c, u * d))).2)
      rwa [e] at this
    refine ⟨?_, d0, d1, t, ?_⟩
    · by_cases cz : c = 0
      · rw [cz]; exact List.mem_cons_self
      · obtain ⟨u, g, dv⟩ := unit_to h h2 (show 0 < c by omega) c1
        have l := least u g
        have gl : (Int.gcd c n : Int) ≤ c := Int.le_of_dvd (by omega) (Int.gcd_dvd_left _ _)
        have gp := gcd_nz (b := c) h
        have em : u * c % n = (Int.gcd c n : Int) := by rw [dv_mod dv, Int.emod_eq_of_lt (by omega) (by omega)]
        have : ¬ ((Int.gcd c n : Int) < c) := fun z => l (.inl (by show u * c % n < c; rw [em]; exact z))
        have eg : (Int.gcd c n : Int) = c := by omega
        refine List.mem_cons_of_mem _ (List.mem_filter.mpr ⟨rangeZ_mem.mpr (by omega), beq_iff_eq.mpr (Int.emod_eq_zero_of_dvd ?_)⟩)
        have := Int.gcd_dvd_right c n
        rwa [eg] at this
    · have z := mnZ_is (l := (uk n c).map fun u => u * d % n) (by simpa using uk_ne h c0 c1)
      obtain ⟨u, hu, eu⟩ := List.mem_map.mp z.1
      have hu' := List.mem_filter.mp hu
      have l := least u (uz_mem.mp hu'.1).2.2
      have ec : u * c % n = c := beq_iff_eq.mp hu'.2
      have ge : d ≤ u * d % n := Int.not_lt.mp fun z => l (.inr ⟨ec, z⟩)
      have one : 1 % n ∈ uk n c := List.mem_filter.mpr ⟨uz_one h, by
        rw [beq_iff_eq]
        have := dv_mod (n := n) (a := 1 % n * c) (b := c) ⟨-(1 / n) * c, by have := Int.emod_add_mul_ediv 1 n; grind⟩
        rw [this, Int.emod_eq_of_lt c0 c1]⟩
      have le := z.2 _ (List.mem_map_of_mem one)
      have : 1 % n * d % n = d := by
        have := dv_mod (n := n) (a := 1 % n * d) (b := d) ⟨-(1 / n) * d, by have := Int.emod_add_mul_ediv 1 n; grind⟩
        rw [this, Int.emod_eq_of_lt d0 d1]

      omega
theorem rangeZ_lt (lo : Int) (k : Nat) : (rangeZ lo k).Pairwise (· < ·) := by
  unfold rangeZ
  rw [List.pairwise_map]
  exact List.pairwise_lt_range.imp fun z => by omega
theorem fez_lt : (fez n).Pairwise (· < ·) := by
  refine List.pairwise_cons.mpr ⟨fun x hx => ?_, (rangeZ_lt 1 _).filter _⟩
  have := (rangeZ_mem.mp (List.mem_filter.mp hx).1).1
  omega
theorem apP_lt : (apP n).Pairwise lt2 := by
  unfold apP
  rw [List.pairwise_flatMap]
  refine ⟨fun c _ => ?_, fez_lt.imp fun {a b} z x hx y hy => ?_⟩
  · rw [List.pairwise_map]
    exact ((rangeZ_lt 0 _).filter _).imp fun z => .inr ⟨rfl, z⟩
  · obtain ⟨_, _, rfl⟩ := List.mem_map.mp hx
    obtain ⟨_, _, rfl⟩ := List.mem_map.mp hy
    exact .inl z
theorem lt2_ne (z : lt2 p q) : p ≠ q := fun e => by subst e; unfold lt2 at z; omega
theorem apP_nodup : (apP n).Nodup := apP_lt.imp lt2_ne
def apT : Bool := (List.range 61).all fun k => decide ((apP (k : Nat)).length < 300)
theorem apT_ok : apT = true := by kernel_rfl
theorem ap_few {n : Int} (h1 : 1 ≤ n) (h2 : n ≤ 60) : (apP n).length < 300 := by
  have := List.all_eq_true.mp (show apT = true from apT_ok) n.toNat (List.mem_range.mpr (by omega))
  have e : ((n.toNat : Nat) : Int) = n := by omega
  rw [e] at this
  exact of_decide_eq_true this
end
end Pd

namespace Pd
open PySem L2 Evl
local macro_rules | `(tactic| walk_at "sm") => `(tactic| first | assumption | exact Sm.lit | exact Sm.mul (by walk_at "sm") (by walk_at "sm") | exact Sm.add (by walk_at "sm") (by walk_at "sm") | exact Sm.sub (by walk_at "sm") (by walk_at "sm") | exact Sm.neg (by walk_at "sm"))
local macro_rules | `(tactic| walk_at "cm") => `(tactic| ((with_reducible show CM _ _); first | assumption | exact CM.left (by decide) | exact CM.right (by decide) | exact CM.left (by omega) | exact CM.right (by omega) | exact CM.of (by walk_at "sm") (by walk_at "sm") (by decide)))
local macro_rules | `(tactic| simp_arith only [$xs,*]) => `(tactic| simp (maxSteps := 4000000) (dsimp := false) (disch := first | assumption | decide | omega | walk_at "cm") only [runDef_ap, sVar_ap, sC_ap, sBin_ap, sNeg_ap, sAnd_ap, sOr_ap, sNot_ap, sIf_ap, sTst_ap, qAnd_ap, qOr_ap, qNot_ap, qYes_ap, sChain_ap, sChain3_ap, sNil_ap, sCons_ap, sTup_ap, sLst_ap, sLstM_ap, sCall_ap, g1_ap, g2_ap, sFn_ap, sAsg_ap, gNm_ap, gTp_ap, gConsS_ap, gNilS_ap, sPar_ap, sPar3_ap, sRet_ap, sRetN_ap, sNx_ap, sBrk_ap, sCnt_ap, sSeq_ap, sIte_ap, sDrop_ap, sFrz_ap, sAug_ap, iRange1_ap, iRange2_ap, iSeq_ap, sFor_ap, sLc_ap, R.toG_ok, ↓R.bind_bnd, bnd_ok, ↓R.bd_bdn, bdn_ok, ↓R.toF_tof, tof_ok, ↓F.seq_sqn, sqn_nx, sqn_ret, sqn_cnt, sqn_brk, ↓F.turn_trn, trn_nx, trn_ret, trn_cnt, trn_brk, F.end_nx, F.end_ret, ↓br_true, br_true, ↓br_false, br_false, Dbr, Dneg, Dtst, opt_some, dAdd_int, dIAdd_int, dSub_int, dLt_int, dLe_int, dGt_int, dGe_int, dEq_int, dNe_int, dEq_bl, dNe_bl, dMul_cm, dMod_pos, dDiv_pos, dAbs_int, dMax2_int, dMin2_int, dInt_int, dInt_bl, dIx_tup, dIx_lst, dIx_seq, dLen_tup, dLen_lst, dLen_seq, atI_0, atI_1, atI_2, atI_3, List.map_cons, List.map_nil, List.length_cons, List.length_nil, List.replicate_succ, List.replicate_zero, List.cons_append, List.nil_append, List.getElem?_cons_zero, List.getElem?_cons_succ, List.set_cons_zero, List.set_cons_succ, Nat.reduceAdd, Nat.reduceSub, Nat.zero_add, Nat.add_zero, Nat.sub_self, Nat.reduceMul, mostL_def, Nat.reduceLeDiff, Nat.reduceLT, ite_true, ite_false, if_true, if_false, ↓reduceIte, reduceIte, ↓br_ite, Bool.false_eq_true, reduceCtorEq, Bool.not_true, Bool.not_false, decide_true, decide_false, Int.cast_ofNat_Int, Int.reduceBEq, Int.reduceAdd, Int.reduceSub, Int.reduceMul, Int.reduceNeg, Int.reduceLT, Int.reduceLE, Int.reduceMod, Int.reduceDiv, sMeth1_ap, sSl_ap, sRev_ap, oNo_ap, oPart_ap, sDict0_ap, sSetL_ap, sLc2_ap, sStar_ap, sDGet1_ap, sDGet2_ap, sPutD_ap, iItemsD_ap, iValsD_ap, iKeysD_ap, sDict0T_ap, sPutT_ap, sTGet1_ap, sFrzT_ap, iKeysT_ap, $xs,*])
def c__law_told_pairs_1 : SE := sLc (iRange2 (sCons (sC (.int 1)) (sCons (sBin dAdd (sVar 0) (sC (.int 1))) (sNil)))) (gNm 5) (sTst (sBin dEq (sFn f__law_gcd (sCons (sVar 5) (sCons (sVar 0) (sNil)))) (sC (.int 1)))) (sVar 5) [5]
def l__law_told_pairs_2 : SS := sPutT (sTup (sCons (sVar 1) (sCons (sVar 4) (sNil)))) (sVar 3) (sCons (sBin dMod (sCall (g1 dInt) (sCons (sBin dMul (sVar 6) (sVar 1)) (sNil))) (sVar 0)) (sCons (sBin dMod (sCall (g1 dInt) (sCons (sBin dMul (sVar 6) (sVar 4)) (sNil))) (sVar 0)) (sNil)))
def l__law_told_pairs_3 : SS := sIte (qAnd (sTst (sBin dTNotIn (sTup (sCons (sVar 1) (sCons (sVar 4) (sNil)))) (sVar 3))) (sTst (sBin dEq (sFn f__law_gcd (sCons (sFn f__law_gcd (sCons (sVar 1) (sCons (sVar 4) (sNil)))) (sCons (sVar 0) (sNil)))) (sC (.int 1))))) (sFor (iSeq (sVar 2)) (gNm 6) (l__law_told_pairs_2)) (sNx)
def l__law_told_pairs_4 : SS := sFor (iRange1 (sCons (sVar 0) (sNil))) (gNm 4) (l__law_told_pairs_3)
def f__law_told_pairs : Fn := runDef 7 (sSeq (sPar 2 3 (sCons (c__law_told_pairs_1) (sCons (sDict0T) (sNil)))) (sSeq (sFor (iRange1 (sCons (sVar 0) (sNil))) (gNm 1) (l__law_told_pairs_4)) (sRet (sFrzT (sVar 3)))))
def f_is_residue_at : Fn := runDef 2 (sRet (sAnd (sFn f_is_integer (sCons (sVar 1) (sNil))) (sChain dLe dLt (sC (.int 0)) (sVar 1) (sVar 0))))
def f_is_pair_of : Fn := runDef 2 (sSeq (sIte (qOr (qNot (sTst (sCall (g2 dIsi) (sCons (sVar 1) (sCons (sC (.ty "tuple")) (sNil)))))) (sTst (sBin dNe (sCall (g1 dLen) (sCons (sVar 1) (sNil))) (sC (.int 2))))) (sRet (sC (.bl false))) (sNx)) (sSeq (sIte (qOr (qNot (sTst (sFn f_is_residue_at (sCons (sVar 0) (sCons (sBin dIx (sVar 1) (sC (.int 0))) (sNil)))))) (qNot (sTst (sFn f_is_residue_at (sCons (sVar 0) (sCons (sBin dIx (sVar 1) (sC (.int 1))) (sNil))))))) (sRet (sC (.bl false))) (sNx)) (sRet (sAnd (sFn f_do_tell (sCons (sVar 0) (sCons (sBin dIx (sVar 1) (sC (.int 0))) (sCons (sBin dIx (sVar 1) (sC (.int 1))) (sNil))))) (sBin dEq (sFn f_least_pair (sCons (sVar 0) (sCons (sBin dIx (sVar 1) (sC (.int 0))) (sCons (sBin dIx (sVar 1) (sC (.int 1))) (sNil))))) (sVar 1))))))
def f_require_pair : Fn := runDef 2 (sIte (qNot (sTst (sFn f_is_pair_of (sCons (sVar 0) (sCons (sVar 1) (sNil)))))) (sBad) (sNx))
theorem for_ix {g : SG} {f : SS} (P : Nat → Pe → Ph → Prop) : ∀ (xs : List D) (k : Nat) (e : Pe) (h : Ph), P k e h →
    (∀ j x, xs[j]? = some x → ∀ e h, P (k + j) e h → ∃ e1 h1 e2 h2, g x e h = .ok e1 h1 ∧ f e1 h1 = .nx e2 h2 ∧ P (k + j + 1) e2 h2) →
    ∃ e' h', forGo g f xs e h = .nx e' h' ∧ P (k + xs.length) e' h' := by
  intro xs
  induction xs with
  | nil => intro k e h p _; exact ⟨e, h, rfl, p⟩
  | cons x r ih =>
    intro k e h p H
    obtain ⟨e1, h1, e2, h2, q1, q2, q3⟩ := H 0 x rfl e h p
    obtain ⟨e', h', r1, r2⟩ := ih (k + 1) e2 h2 q3 (fun j y hy e h pj => by
      have e0 : k + 1 + j = k + (j + 1) := by omega
      rw [e0] at pj
      obtain ⟨a, b, c, d, z1, z2, z3⟩ := H (j + 1) y hy e h pj
      exact ⟨a, b, c, d, z1, z2, by rw [e0]; exact z3⟩)
    refine ⟨e', h', ?_, by rw [List.length_cons, show k + (r.length + 1) = k + 1 + r.length by omega]; exact r2⟩
    unfold forGo
    rw [q1]
    show (f e1 h1).turn _ = _
    rw [q2]
    exact r1
theorem rangeZ_get {lo : Int} {n j : Nat} {x : D} (h : ((rangeZ lo n).map D.int)[j]? = some x) : j < n ∧ x = .int (lo + j) := by
  unfold rangeZ at h
  rw [List.map_map, List.getElem?_map] at h
  obtain ⟨k, hk, rfl⟩ := Option.map_eq_some_iff.mp h
  obtain ⟨h1, h2⟩ := List.getElem?_eq_some_iff.mp hk
  rw [List.getElem_range] at h2
  subst h2
  rw [List.length_range] at h1
  exact ⟨h1, rfl⟩
def K2 (p : Int × Int) : List Key := [.inl p.1, .inl p.2]
theorem K2_inj {p q : Int × Int} (h : K2 p = K2 q) : p = q := by
  injection h with h1 h2
  injection h2 with h2 _
  exact Prod.ext (Sum.inl.inj h1) (Sum.inl.inj h2)
def T2p (p : Int × Int) : D := T2 p.1 p.2
structure TD (n : Int) (P : Int × Int → Prop) (kvs : List (List Key × D)) : Prop where
  sd : ∀ kv ∈ kvs, ∃ p, res n p ∧ P p ∧ kv = (K2 p, T2p (lp n p))
  fl : ∀ p, res n p → P p → (K2 p, T2p (lp n p)) ∈ kvs
  nd : (kvs.map (·.1)).Nodup
theorem pigeonG {α : Type} [DecidableEq α] : ∀ {l m : List α}, l.Nodup → (∀ x ∈ l, x ∈ m) → l.length ≤ m.length
  | [], _, _, _ => Nat.zero_le _
  | a :: l, m, n, s => by
    have n' := List.nodup_cons.mp n
    have am := s a List.mem_cons_self
    have := pigeonG (l := l) (m := m.erase a) n'.2 fun y yl => (List.mem_erase_of_ne (fun q : y = a => n'.1 (by rw [← q]; exact yl))).2 (s y (List.mem_cons_of_mem _ yl))
    have e := List.length_erase_of_mem am
    have p := List.length_pos_of_mem am
    simp only [List.length_cons]
    omega
section
variable {n : Int} {P P' : Int × Int → Prop} {kvs : List (List Key × D)} {p q : Int × Int}
theorem TD.congr (x : TD n P kvs) (h : ∀ p, res n p → (P p ↔ P' p)) : TD n P' kvs :=
  ⟨fun kv m => by obtain ⟨p, r, a, e⟩ := x.sd kv m; exact ⟨p, r, (h p r).mp a, e⟩, fun p r a => x.fl p r ((h p r).mpr a), x.nd⟩
theorem TD.yes (x : TD n P kvs) (r : res n p) (a : P p) : valD kvs (K2 p) = some (T2p (lp n p)) := by
  unfold valD
  have m := x.fl p r a
  cases e : kvs.find? fun kv => decide (kv.1 = K2 p) with
  | none =>
    have := List.find?_eq_none.mp e _ m
    simp at this
  | some kv =>
    have k1 := List.find?_some e
    obtain ⟨q, _, _, rfl⟩ := x.sd kv (List.mem_of_find?_eq_some e)
    have := K2_inj (of_decide_eq_true k1)
    subst this
    rfl
theorem TD.no (x : TD n P kvs) (a : ¬ P p) : valD kvs (K2 p) = none := by
  unfold valD
  cases e : kvs.find? fun kv => decide (kv.1 = K2 p) with
  | none => rfl
  | some kv =>
    have k1 := List.find?_some e
    obtain ⟨q, _, b, rfl⟩ := x.sd kv (List.mem_of_find?_eq_some e)
    have := K2_inj (of_decide_eq_true k1)
    subst this
    exact absurd b a
theorem TD.put (x : TD n P kvs) (r : res n q) : TD n (fun p => P p ∨ p = q) (putD kvs (K2 q) (T2p (lp n q))) := by
  unfold putD
  by_cases a : (kvs.any fun kv => decide (kv.1 = K2 q)) = true
  · rw [if_pos a]
    have e : kvs.map (fun kv => if kv.1 = K2 q then (kv.1, T2p (lp n q)) else kv) = kvs := by
      conv => rhs; rw [← List.map_id kvs]
      refine List.map_congr_left fun kv m => ?_
      obtain ⟨p, _, _, rfl⟩ := x.sd kv m
      by_cases z : K2 p = K2 q
      · rw [if_pos z, K2_inj z]; rfl
      · rw [if_neg z]; rfl
    rw [e]
    obtain ⟨kv, m, k1⟩ := List.any_eq_true.mp a
    obtain ⟨p, _, b, rfl⟩ := x.sd kv m
    have := K2_inj (of_decide_eq_true k1)
    subst this
    exact x.congr fun p' _ => ⟨.inl, fun z => z.elim id fun z => z ▸ b⟩
  · rw [if_neg a]
    have out : ∀ kv ∈ kvs, kv.1 ≠ K2 q := fun kv m z => a (List.any_eq_true.mpr ⟨kv, m, decide_eq_true z⟩)
    refine ⟨fun kv m => ?_, fun p rp z => ?_, ?_⟩
    · rcases List.mem_append.mp m with m | m
      · obtain ⟨p, h1, h2, h3⟩ := x.sd kv m
        exact ⟨p, h1, .inl h2, h3⟩
      · exact ⟨q, r, .inr rfl, List.mem_singleton.mp m⟩
    · rcases z with z | rfl
      · exact List.mem_append_left _ (x.fl p rp z)
      · exact List.mem_append_right _ List.mem_cons_self
    · rw [List.map_append, List.nodup_append]
      refine ⟨x.nd, by simp, fun k hk k' hk' z => ?_⟩
      obtain ⟨kv, m, rfl⟩ := List.mem_map.mp hk
      have : k' = K2 q := by simpa using hk'
      exact out kv m (z.trans this)
theorem TD.len (x : TD n P kvs) (h : 1 ≤ n) : kvs.length ≤ n.toNat * n.toNat := by
  have e : kvs.length = (kvs.map (·.1)).length := (List.length_map _).symm
  rw [e]
  refine Nat.le_trans (pigeonG (m := (rangeZ 0 n.toNat).flatMap fun c => (rangeZ 0 n.toNat).map fun d => K2 (c, d)) x.nd fun k hk => ?_) ?_
  · obtain ⟨kv, m, rfl⟩ := List.mem_map.mp hk
    obtain ⟨p, ⟨r1, r2, r3, r4⟩, _, rfl⟩ := x.sd kv m
    exact List.mem_flatMap.mpr ⟨p.1, rangeZ_mem.mpr (by omega), List.mem_map.mpr ⟨p.2, rangeZ_mem.mpr (by omega), rfl⟩⟩
  · rw [List.length_flatMap]
    simp only [List.length_map, rangeZ_len, List.map_const', List.sum_replicate_nat]
    exact Nat.le_refl _
end
def lu (n : Int) : List Int := (rangeZ 1 n.toNat).filter fun u => ((Int.gcd u n : Nat) : Int) == 1
theorem lu_mem {n u : Int} : u ∈ lu n ↔ 1 ≤ u ∧ u ≤ n ∧ Int.gcd u n = 1 := by
  unfold lu
  rw [List.mem_filter, rangeZ_mem]
  simp only [beq_iff_eq]
  omega
theorem setDT_end {h : Ph} {kvs : List (List Key × D)} {x : D} {q : Int × Int} (hl : kvs.length < mostL) : setDT (.ref h.length) x [.int q.1, .int q.2] (h ++ [.dT kvs]) = .ok () (h ++ [.dT (putD kvs (K2 q) x)]) := by
  unfold setDT dtOf
  simp only [at_end]
  show (if 2 ≤ mostL ∧ kvs.length < mostL then R.ok () ((h ++ [PO.dT kvs]).set h.length (.dT (putD kvs (K2 q) x))) else .bad) = _
  rw [if_pos ⟨by decide, hl⟩, set_end]
theorem dTNotIn_end {h : Ph} {kvs : List (List Key × D)} {c d : Int} : dTNotIn (.tup [.int c, .int d]) (.ref h.length) (h ++ [.dT kvs]) = .ok (.bl (!(valD kvs (K2 (c, d))).isSome)) (h ++ [.dT kvs]) := by
  unfold dTNotIn dtR
  simp only [at_end]
  rfl
theorem few_of {n : Int} {k : Nat} (h2 : n ≤ 1000) (hk : k ≤ n.toNat * n.toNat) : k < mostL :=
  Nat.lt_of_le_of_lt (Nat.le_trans hk (Nat.mul_le_mul (show n.toNat ≤ 1000 by omega) (show n.toNat ≤ 1000 by omega))) (by decide)
section
variable {n : Int} {P : Int × Int → Prop} {kvs : List (List Key × D)} {h : Ph}
abbrev e7 (n : Int) (m : Nat) (c d o5 o6 : Option D) : Pe := [some (.int n), c, some (.lst ((lu n).map D.int)), some (.ref m), d, o5, o6]
theorem units_loop {c d : Int} {o5 o6 : Option D} (h1 : 1 ≤ n) (h2 : n ≤ 1000) (hr : res n (c, d)) (ho : lp n (c, d) = (c, d)) (x : TD n P kvs) :
    ∃ o6' kvs', forGo (gNm 6) l__law_told_pairs_2 ((lu n).map D.int) (e7 n h.length (some (.int c)) (some (.int d)) o5 o6) (h ++ [.dT kvs]) = .nx (e7 n h.length (some (.int c)) (some (.int d)) o5 o6') (h ++ [.dT kvs']) ∧ TD n (fun p => P p ∨ ∃ u ∈ lu n, p = md n (u * c, u * d)) kvs' := by
  obtain ⟨e', h', k1, o6', kvs', rfl, rfl, k2⟩ := for_ix (g := gNm 6) (f := l__law_told_pairs_2) (fun j e h' => ∃ o6' kvs', e = e7 n h.length (some (.int c)) (some (.int d)) o5 o6' ∧ h' = h ++ [.dT kvs'] ∧ TD n (fun p => P p ∨ ∃ u ∈ (lu n).take j, p = md n (u * c, u * d)) kvs')
    ((lu n).map D.int) 0 (e7 n h.length (some (.int c)) (some (.int d)) o5 o6) (h ++ [.dT kvs]) ⟨o6, kvs, rfl, rfl, x.congr fun p _ => ⟨.inl, fun z => z.elim id fun ⟨u, hu, _⟩ => by rw [List.take_zero] at hu; cases hu⟩⟩
    (by
      rintro j y hy e h' ⟨o6', kvs', rfl, rfl, x'⟩
      rw [Nat.zero_add] at x'
      rw [List.getElem?_map] at hy
      obtain ⟨u, hu, rfl⟩ := Option.map_eq_some_iff.mp hy
      obtain ⟨u1, u2, u3⟩ := lu_mem.mp (List.mem_of_getElem? hu)
      have c1 : CM u c := CM.left (by omega)
      have c2 : CM u d := CM.left (by omega)
      have n0 : 0 < n := by omega
      have mm : MulP n (c, d) (md n (u * c, u * d)) := MulP.of_unit h1 u3 (md_dvd (p := (u * c, u * d))).1 (md_dvd (p := (u * c, u * d))).2
      have el : lp n (md n (u * c, u * d)) = (c, d) := by rw [← lp_mul h1 mm]; exact ho
      have x2 := x'.put (q := md n (u * c, u * d)) (md_res h1)
      rw [el] at x2
      have st := setDT_end (h := h) (kvs := kvs') (x := T2p (c, d)) (q := md n (u * c, u * d)) (few_of h2 (x'.len h1))
      refine ⟨_, _, e7 n h.length (some (.int c)) (some (.int d)) o5 (some (.int u)), _, rfl, ?_, _, _, rfl, rfl, x2.congr fun p _ => ?_⟩
      · have st' : setDT (.ref h.length) (.tup [.int c, .int d]) [.int (u * c % n), .int (u * d % n)] (h ++ [.dT kvs']) = .ok () (h ++ [.dT (putD kvs' (K2 (md n (u * c, u * d))) (T2p (c, d)))]) := st
        show l__law_told_pairs_2 [some (.int n), some (.int c), some (.lst ((lu n).map D.int)), some (.ref h.length), some (.int d), o5, some (.int u)] (h ++ [.dT kvs']) = _
        unfold l__law_told_pairs_2
        simp_arith only [st']
      · rw [Nat.zero_add, List.take_add_one, hu]
        constructor
        · rintro ((z | ⟨v, hv, z⟩) | z)
          · exact .inl z
          · exact .inr ⟨v, List.mem_append_left _ hv, z⟩
          · exact .inr ⟨u, List.mem_append_right _ (by simp), z⟩
        · rintro (z | ⟨v, hv, z⟩)
          · exact .inl (.inl z)
          · rcases List.mem_append.mp hv with hv | hv
            · exact .inl (.inr ⟨v, hv, z⟩)
            · have : v = u := by simpa using hv
              exact .inr (by rw [z, this]))
  refine ⟨o6', kvs', k1, k2.congr fun p _ => ?_⟩
  rw [Nat.zero_add, List.length_map, List.take_length]
end
theorem lt2_s {p : Int × Int} {c d : Int} : lt2 p (c, d + 1) ↔ lt2 p (c, d) ∨ p = (c, d) := by
  obtain ⟨a, b⟩ := p
  unfold lt2
  simp only [Prod.mk.injEq]
  omega
section
variable {n : Int} {kvs : List (List Key × D)} {h : Ph}
theorem round_ok {c d : Int} {o5 o6 : Option D} (h1 : 1 ≤ n) (h2 : n ≤ 1000) (hr : res n (c, d)) (x : TD n (fun p => tl n p.1 p.2 = true ∧ lt2 (lp n p) (c, d)) kvs) :
    ∃ o6' kvs', l__law_told_pairs_3 (e7 n h.length (some (.int c)) (some (.int d)) o5 o6) (h ++ [.dT kvs]) = .nx (e7 n h.length (some (.int c)) (some (.int d)) o5 o6') (h ++ [.dT kvs']) ∧ TD n (fun p => tl n p.1 p.2 = true ∧ lt2 (lp n p) (c, d + 1)) kvs' := by
  obtain ⟨c0, c1, d0, d1⟩ := id hr
  simp only at c0 c1 d0 d1
  have ni := dTNotIn_end (h := h) (kvs := kvs) (c := c) (d := d)
  have g1 := gcdL_ok c d (h ++ [.dT kvs]) (fu_lt ((sm_in (by omega) (by omega)).mono (by decide)))
  have g2 := gcdL_ok (Int.gcd c d : Nat) n (h ++ [.dT kvs]) (fu_lt ((sm_in (by omega) (by omega)).mono (by decide)))
  have skip : (valD kvs (K2 (c, d))).isSome = true ∨ tl n c d = false → (∀ p, res n p → tl n p.1 p.2 = true → lp n p ≠ (c, d)) →
      ∃ o6' kvs', l__law_told_pairs_3 (e7 n h.length (some (.int c)) (some (.int d)) o5 o6) (h ++ [.dT kvs]) = .nx (e7 n h.length (some (.int c)) (some (.int d)) o5 o6') (h ++ [.dT kvs']) ∧ TD n (fun p => tl n p.1 p.2 = true ∧ lt2 (lp n p) (c, d + 1)) kvs' := by
    intro hs hn
    refine ⟨o6, kvs, ?_, x.congr fun p rp => ⟨fun ⟨a, b⟩ => ⟨a, lt2_s.mpr (.inl b)⟩, fun ⟨a, b⟩ => ⟨a, (lt2_s.mp b).elim id fun z => absurd z (hn p rp a)⟩⟩⟩
    unfold l__law_told_pairs_3
    cases z : (valD kvs (K2 (c, d))).isSome with
    | true =>
      rw [z] at ni
      simp_arith only [ni]
    | false =>
      rw [z] at ni hs
      have t : (((Int.gcd (Int.gcd c d : Nat) n : Nat) : Int) == 1) = false := hs.elim (fun z => nomatch z) id
      simp_arith only [ni, g1, g2, t]
  have lpr := lp_res (n := n) (p := (c, d)) h1
  by_cases t : tl n c d = true
  · by_cases lt : lt2 (lp n (c, d)) (c, d)
    · refine skip (.inl (by rw [x.yes hr ⟨t, lt⟩]; rfl)) fun p rp tp e => ?_
      have : lp n (c, d) = (c, d) := by rw [← e]; exact lp_lp h1
      rw [this] at lt
      exact lt2_ne lt rfl
    · have ho : lp n (c, d) = (c, d) := lt2_irr _ _ lt ((lp_is h1 (c, d)).1.l _ hr (MulP.refl h1))
      have nv : valD kvs (K2 (c, d)) = none := x.no fun z => lt z.2
      rw [nv] at ni
      obtain ⟨o6', kvs', k1, k2⟩ := units_loop (o5 := o5) (o6 := o6) (h := h) h1 h2 hr ho x
      refine ⟨o6', kvs', ?_, k2.congr fun p rp => ?_⟩
      · have t' : (((Int.gcd (Int.gcd c d : Nat) n : Nat) : Int) == 1) = true := t
        have ni : dTNotIn (.tup [.int c, .int d]) (.ref h.length) (h ++ [.dT kvs]) = .ok (.bl true) (h ++ [.dT kvs]) := ni
        unfold l__law_told_pairs_3
        simp_arith only [ni, g1, g2, t', iSeq_at]
        exact k1
      · constructor
        · rintro (⟨a, b⟩ | ⟨u, hu, rfl⟩)
          · exact ⟨a, lt2_s.mpr (.inl b)⟩
          · have mm : MulP n (c, d) (md n (u * c, u * d)) := MulP.of_unit h1 (lu_mem.mp hu).2.2 (md_dvd (p := (u * c, u * d))).1 (md_dvd (p := (u * c, u * d))).2
            exact ⟨by rw [← mm.tell h1]; exact t, lt2_s.mpr (.inr (by rw [← lp_mul h1 mm]; exact ho))⟩
        · rintro ⟨a, b⟩
          rcases lt2_s.mp b with b | b
          · exact .inl ⟨a, b⟩
          · refine .inr ?_
            obtain ⟨u, hu, e1, e2⟩ := (((lp_is h1 p).1.m).symm h1)
            rw [b] at e1 e2
            have key : ∃ v ∈ lu n, n ∣ v - u := by
              obtain ⟨u0, u1, g⟩ := uz_mem.mp hu
              by_cases z : u = 0
              · subst z
                exact ⟨n, lu_mem.mpr ⟨by omega, by omega, by rw [← g, Int.gcd_self, Int.zero_gcd]⟩, by rw [Int.sub_zero]; exact Int.dvd_refl _⟩
              · exact ⟨u, lu_mem.mpr ⟨by omega, by omega, g⟩, by rw [Int.sub_self]; exact Int.dvd_zero _⟩
            obtain ⟨v, hv, w, ew⟩ := key
            obtain ⟨a1, ea⟩ := e1
            obtain ⟨b1, eb⟩ := e2
            refine ⟨v, hv, ?_⟩
            rw [← md_of rp]
            exact Prod.ext (dv_mod ⟨-a1 - w * c, by simp only at ea ⊢; grind⟩) (dv_mod ⟨-b1 - w * d, by simp only at eb ⊢; grind⟩)
  · refine skip (.inr (by simpa using t)) fun p rp tp e => t ?_
    have := tl_lp (p := p) h1
    rw [e] at this
    exact this.trans tp
theorem row_ok {c : Int} {o4 o5 o6 : Option D} (h1 : 1 ≤ n) (h2 : n ≤ 1000) (c0 : 0 ≤ c) (c1 : c < n) (x : TD n (fun p => tl n p.1 p.2 = true ∧ (lp n p).1 < c) kvs) :
    ∃ o4' o5' o6' kvs', l__law_told_pairs_4 (e7 n h.length (some (.int c)) o4 o5 o6) (h ++ [.dT kvs]) = .nx (e7 n h.length (some (.int c)) o4' o5' o6') (h ++ [.dT kvs']) ∧ TD n (fun p => tl n p.1 p.2 = true ∧ (lp n p).1 < c + 1) kvs' := by
  obtain ⟨e', h', k1, o4', o5', o6', kvs', rfl, rfl, k2⟩ := for_ix (g := gNm 4) (f := l__law_told_pairs_3) (fun j e h' => ∃ o4' o5' o6' kvs', e = e7 n h.length (some (.int c)) o4' o5' o6' ∧ h' = h ++ [.dT kvs'] ∧ TD n (fun p => tl n p.1 p.2 = true ∧ lt2 (lp n p) (c, (j : Int))) kvs')
    ((rangeZ 0 n.toNat).map D.int) 0 (e7 n h.length (some (.int c)) o4 o5 o6) (h ++ [.dT kvs]) ⟨o4, o5, o6, kvs, rfl, rfl, x.congr fun p rp => by
      have := lp_res (p := p) h1
      obtain ⟨r1, r2, r3, r4⟩ := this
      unfold lt2
      simp only [Int.natCast_zero]
      constructor
      · rintro ⟨a, b⟩; exact ⟨a, .inl b⟩
      · rintro ⟨a, b⟩; exact ⟨a, by omega⟩⟩
    (by
      rintro j y hy e h' ⟨o4', o5', o6', kvs', rfl, rfl, x'⟩
      obtain ⟨hj, rfl⟩ := rangeZ_get hy
      rw [Nat.zero_add] at x' ⊢
      rw [Int.zero_add]
      obtain ⟨o6'', kvs'', q1, q2⟩ := round_ok (o5 := o5') (o6 := o6') (h := h) (d := (j : Int)) h1 h2 ⟨c0, c1, by simp only; omega, by simp only; omega⟩ x'
      exact ⟨_, _, _, _, rfl, q1, _, _, _, _, rfl, rfl, by rw [show ((j + 1 : Nat) : Int) = (j : Int) + 1 by omega]; exact q2⟩)
  refine ⟨o4', o5', o6', kvs', ?_, k2.congr fun p rp => ?_⟩
  · have rg : (if -2 ^ 62 ≤ n ∧ n < 2 ^ 62 then R.ok (rangeD 0 n.toNat) (h ++ [PO.dT kvs]) else R.bad) = R.ok ((rangeZ 0 n.toNat).map D.int) (h ++ [PO.dT kvs]) := by
      rw [if_pos ⟨by omega, by omega⟩, rangeD_map]
    unfold l__law_told_pairs_4
    simp_arith only [rg]
    exact k1
  · rw [Nat.zero_add, List.length_map, rangeZ_len]
    obtain ⟨r1, r2, r3, r4⟩ := lp_res (p := p) h1
    unfold lt2
    simp only
    constructor
    · rintro ⟨a, b⟩; exact ⟨a, by omega⟩
    · rintro ⟨a, b⟩; exact ⟨a, by omega⟩
theorem told_ok (h1 : 1 ≤ n) (h2 : n ≤ 1000) (h : Ph) : ∃ kvs, f__law_told_pairs [.int n] h = .ok (.dcT (kvs.map (·.1)) (kvs.map (·.2))) (h ++ [.dead]) ∧ TD n (fun p => tl n p.1 p.2 = true) kvs := by
  have hc : c__law_told_pairs_1 [some (.int n), none, none, none, none, none, none] h = .ok (.lst ((lu n).map D.int)) h := by
    unfold c__law_told_pairs_1 lu
    refine lc_filter (h := h) (h1 := h) (ns := rangeZ 1 n.toNat) ?_ (Nat.le_trans (by rw [rangeZ_len]; omega) (show 10000 ≤ mostL by decide)) (show 5 < 7 by decide) fun x hx => ?_
    · refine (range2_ok (m := 1) (n := n + 1) (h1 := h) (by simp_arith only []) ⟨by decide⟩ (Sm.of_lt 61 (n := 1002) (by omega) (by omega) (by decide +kernel))).trans ?_
      rw [Int.add_sub_cancel]
    · have := rangeZ_mem.mp hx
      have g := gcdL_ok x n h (fu_lt ((sm_in (by omega) (by omega)).mono (by decide)))
      simp_arith only [wipe_cons, wipe_nil, g]
  obtain ⟨e', h', k1, o1, o4', o5', o6', kvs', rfl, rfl, k2⟩ := for_ix (g := gNm 1) (f := l__law_told_pairs_4) (fun j e h' => ∃ o1 o4' o5' o6' kvs', e = e7 n h.length o1 o4' o5' o6' ∧ h' = h ++ [.dT kvs'] ∧ TD n (fun p => tl n p.1 p.2 = true ∧ (lp n p).1 < (j : Int)) kvs')
    ((rangeZ 0 n.toNat).map D.int) 0 (e7 n h.length none none none none) (h ++ [.dT []]) ⟨none, none, none, none, [], rfl, rfl, ⟨fun kv m => absurd m (by simp), fun p rp ⟨_, z⟩ => by
      have := (lp_res (p := p) h1).1
      simp only [Int.natCast_zero] at z
      omega, List.nodup_nil⟩⟩
    (by
      rintro j y hy e h' ⟨o1, o4', o5', o6', kvs', rfl, rfl, x'⟩
      obtain ⟨hj, rfl⟩ := rangeZ_get hy
      rw [Nat.zero_add] at x' ⊢
      rw [Int.zero_add]
      obtain ⟨o4'', o5'', o6'', kvs'', q1, q2⟩ := row_ok (o4 := o4') (o5 := o5') (o6 := o6') (h := h) (c := (j : Int)) h1 h2 (by omega) (by omega) x'
      exact ⟨_, _, _, _, rfl, q1, _, _, _, _, _, rfl, rfl, by rw [show ((j + 1 : Nat) : Int) = (j : Int) + 1 by omega]; exact q2⟩)
  refine ⟨kvs', ?_, k2.congr fun p rp => ⟨fun z => z.1, fun z => ⟨z, ?_⟩⟩⟩
  · have rg : (if -2 ^ 62 ≤ n ∧ n < 2 ^ 62 then R.ok (rangeD 0 n.toNat) (h ++ [PO.dT []]) else R.bad) = R.ok ((rangeZ 0 n.toNat).map D.int) (h ++ [PO.dT []]) := by
      rw [if_pos ⟨by omega, by omega⟩, rangeD_map]
    have dt : dtOf (.ref h.length) (h ++ [.dT kvs']) = some (h.length, kvs') := by
      unfold dtOf
      simp only [at_end]
    unfold f__law_told_pairs
    simp_arith only [hc, rg, k1, dt, set_end]
  · rw [Nat.zero_add, List.length_map, rangeZ_len]
    have := (lp_res (p := p) h1).2.1
    omega
def dec2 : D → Int × Int
  | .tup [.int a, .int b] => (a, b)
  | _ => (0, 0)
def atK (kvs : List (List Key × D)) (x : D) : D := match kT x with
  | some k => (valD kvs k).getD .non
  | none => .non
end
end Pd

namespace Pd
open PySem L2 Evl
local macro_rules | `(tactic| walk_at "sm") => `(tactic| first | assumption | exact Sm.lit | exact Sm.mul (by walk_at "sm") (by walk_at "sm") | exact Sm.add (by walk_at "sm") (by walk_at "sm") | exact Sm.sub (by walk_at "sm") (by walk_at "sm") | exact Sm.neg (by walk_at "sm"))
local macro_rules | `(tactic| walk_at "cm") => `(tactic| ((with_reducible show CM _ _); first | assumption | exact CM.left (by decide) | exact CM.right (by decide) | exact CM.left (by omega) | exact CM.right (by omega) | exact CM.of (by walk_at "sm") (by walk_at "sm") (by decide)))
local macro_rules | `(tactic| simp_arith only [$xs,*]) => `(tactic| simp (maxSteps := 4000000) (dsimp := false) (disch := first | assumption | decide | omega | walk_at "cm") only [runDef_ap, sVar_ap, sC_ap, sBin_ap, sNeg_ap, sAnd_ap, sOr_ap, sNot_ap, sIf_ap, sTst_ap, qAnd_ap, qOr_ap, qNot_ap, qYes_ap, sChain_ap, sChain3_ap, sNil_ap, sCons_ap, sTup_ap, sLst_ap, sLstM_ap, sCall_ap, g1_ap, g2_ap, sFn_ap, sAsg_ap, gNm_ap, gTp_ap, gConsS_ap, gNilS_ap, sPar_ap, sPar3_ap, sRet_ap, sRetN_ap, sNx_ap, sBrk_ap, sCnt_ap, sSeq_ap, sIte_ap, sDrop_ap, sFrz_ap, sAug_ap, iRange1_ap, iRange2_ap, iSeq_ap, sFor_ap, sLc_ap, R.toG_ok, ↓R.bind_bnd, bnd_ok, ↓R.bd_bdn, bdn_ok, ↓R.toF_tof, tof_ok, ↓F.seq_sqn, sqn_nx, sqn_ret, sqn_cnt, sqn_brk, ↓F.turn_trn, trn_nx, trn_ret, trn_cnt, trn_brk, F.end_nx, F.end_ret, ↓br_true, br_true, ↓br_false, br_false, Dbr, Dneg, Dtst, opt_some, dAdd_int, dIAdd_int, dSub_int, dLt_int, dLe_int, dGt_int, dGe_int, dEq_int, dNe_int, dEq_bl, dNe_bl, dMul_cm, dMod_pos, dDiv_pos, dAbs_int, dMax2_int, dMin2_int, dInt_int, dInt_bl, dIx_tup, dIx_lst, dIx_seq, dLen_tup, dLen_lst, dLen_seq, atI_0, atI_1, atI_2, atI_3, List.map_cons, List.map_nil, List.length_cons, List.length_nil, List.replicate_succ, List.replicate_zero, List.cons_append, List.nil_append, List.getElem?_cons_zero, List.getElem?_cons_succ, List.set_cons_zero, List.set_cons_succ, Nat.reduceAdd, Nat.reduceSub, Nat.zero_add, Nat.add_zero, Nat.sub_self, Nat.reduceMul, mostL_def, Nat.reduceLeDiff, Nat.reduceLT, ite_true, ite_false, if_true, if_false, ↓reduceIte, reduceIte, ↓br_ite, Bool.false_eq_true, reduceCtorEq, Bool.not_true, Bool.not_false, decide_true, decide_false, Int.cast_ofNat_Int, Int.reduceBEq, Int.reduceAdd, Int.reduceSub, Int.reduceMul, Int.reduceNeg, Int.reduceLT, Int.reduceLE, Int.reduceMod, Int.reduceDiv, sMeth1_ap, sSl_ap, sRev_ap, oNo_ap, oPart_ap, sDict0_ap, sSetL_ap, sLc2_ap, sStar_ap, sDGet1_ap, sDGet2_ap, sPutD_ap, iItemsD_ap, iValsD_ap, iKeysD_ap, sDict0T_ap, sPutT_ap, sTGet1_ap, sFrzT_ap, iKeysT_ap, $xs,*])
abbrev pdP (p : Int × Int) : PyData := .tuple [.int p.1, .int p.2]
theorem pys_T2 : ∀ l : List (Int × Int), D.py.pys (l.map T2p) = some (l.map pdP)
  | [] => rfl
  | p :: r => by
    show (D.py.pys (r.map T2p)).map (pdP p :: ·) = _
    rw [pys_T2 r]; rfl
theorem eqv_pd {p q : Int × Int} : PyData.eqv (pdP p) (pdP q) = decide (p = q) := by
  show (p.1 == q.1 && (p.2 == q.2 && true)) = _
  rw [Bool.and_true]
  apply Bool.eq_iff_iff.mpr
  rw [Bool.and_eq_true, beq_iff_eq, beq_iff_eq, decide_eq_true_eq]
  exact ⟨fun ⟨a, b⟩ => Prod.ext a b, fun e => by subst e; exact ⟨rfl, rfl⟩⟩
theorem eqvAll_pd : ∀ l m : List (Int × Int), PyData.eqvAll (l.map pdP) (m.map pdP) = decide (l = m)
  | [], [] => rfl
  | [], _ :: _ => rfl
  | _ :: _, [] => rfl
  | p :: l, q :: m => by
    show (PyData.eqv (pdP p) (pdP q) && PyData.eqvAll (l.map pdP) (m.map pdP)) = _
    rw [eqv_pd, eqvAll_pd l m]
    apply Bool.eq_iff_iff.mpr
    rw [Bool.and_eq_true, decide_eq_true_eq, decide_eq_true_eq, decide_eq_true_eq, List.cons.injEq]
theorem lay_pd : ∀ l : List (Int × Int), PyData.canLayAll0 (l.map pdP) = true ∧ PyData.depthAll (l.map pdP) ≤ 1
  | [] => ⟨rfl, Nat.zero_le _⟩
  | p :: l => by
    obtain ⟨a, b⟩ := lay_pd l
    refine ⟨?_, ?_⟩
    · show (true && PyData.canLayAll0 (l.map pdP)) = true
      rw [a]; rfl
    · show max (PyData.depth (pdP p)) (PyData.depthAll (l.map pdP)) ≤ 1
      exact Nat.max_le.mpr ⟨by show 1 ≤ 1; decide, b⟩
theorem shaped_lst (l : List (Int × Int)) : SeqAt.shaped (.list (l.map pdP)) = true := by
  obtain ⟨a, b⟩ := lay_pd l
  show (PyData.canLayAll0 (l.map pdP) && decide (PyData.depthAll (l.map pdP) + 1 ≤ 64)) = true
  rw [a, Bool.true_and, decide_eq_true_eq]; omega
theorem shaped_tup (l : List (Int × Int)) : SeqAt.shaped (.tuple (l.map pdP)) = true := shaped_lst l
theorem dNe_tupP {l m : List (Int × Int)} {h : Ph} : dNe (.tup (l.map T2p)) (.tup (m.map T2p)) h = .ok (.bl (!decide (l = m))) h := by
  show R.opt ((D.py.pys (l.map T2p)).map PyData.tuple) (fun p => R.opt ((D.py.pys (m.map T2p)).map PyData.tuple) fun q => _) = _
  rw [pys_T2, pys_T2]
  show (if SeqAt.shaped (.tuple (l.map pdP)) = true ∧ SeqAt.shaped (.tuple (m.map pdP)) = true then R.ok (D.bl (!PyData.eqvAll (l.map pdP) (m.map pdP))) h else R.bad) = _
  rw [if_pos ⟨shaped_tup l, shaped_tup m⟩, eqvAll_pd]
theorem dNe_P {p q : Int × Int} {h : Ph} : dNe (T2p p) (T2p q) h = .ok (.bl (!decide (p = q))) h := by
  rw [← eqv_pd]; rfl
theorem dEq_P {p q : Int × Int} {h : Ph} : dEq (T2p p) (T2p q) h = .ok (.bl (decide (p = q))) h := by
  rw [← eqv_pd]; rfl
theorem int_ok {c : Int} (s : Sm 199 c) (h : Ph) : f_is_integer [.int c] h = .ok (.bl true) h := by rw [integer_int, Iz.ok s]
theorem residue_ok {n c : Int} (h2 : n ≤ 1000) (h0 : 0 ≤ c) (h1 : c < n) (h : Ph) : f_is_residue_at [.int n, .int c] h = .ok (.bl true) h := by
  have i := int_ok (c := c) (sm_in (by omega) (by omega)) h
  have q1 : decide (0 ≤ c) = true := decide_eq_true h0
  have q2 : decide (c < n) = true := decide_eq_true h1
  unfold f_is_residue_at
  simp_arith only [i, q1, q2]
theorem is_pair_ok {n : Int} {p : Int × Int} (h1 : 1 ≤ n) (h2 : n ≤ 1000) (o : Own2 n p) (h : Ph) : f_is_pair_of [.int n, T2p p] h = .ok (.bl true) h := by
  obtain ⟨⟨r1, r2, r3, r4⟩, t, e⟩ := o
  have e1 := residue_ok h2 r1 r2 h
  have e2 := residue_ok h2 r3 r4 h
  have e3 := tell_ok (c := p.1) (d := p.2) h1 h2 ((sm_in (by omega) (by omega)).mono (by decide)) h
  have e4 := leastp_ok (c := p.1) (d := p.2) h1 h2 h
  have e5 : tupZ (lpz n p.1 p.2) = T2p p := by rw [(lp_is h1 p).2, e]; rfl
  rw [e5] at e4
  rw [t] at e3
  have e6 : dEq (T2p p) (T2p p) h = .ok (.bl true) h := by rw [dEq_P]; simp
  have e7 : dIsi (T2p p) (.ty "tuple") h = .ok (.bl true) h := rfl
  have e8 : dLen (T2p p) h = .ok (.int 2) h := rfl
  have e9 : ∀ h, dIx (T2p p) (.int 0) h = .ok (.int p.1) h := fun _ => rfl
  have e10 : ∀ h, dIx (T2p p) (.int 1) h = .ok (.int p.2) h := fun _ => rfl
  unfold f_is_pair_of
  simp_arith only [e1, e2, e3, e4, e6, e7, e8, e9, e10]
theorem require_pair_ok {n : Int} {p : Int × Int} (h1 : 1 ≤ n) (h2 : n ≤ 1000) (o : Own2 n p) (h : Ph) : f_require_pair [.int n, T2p p] h = .ok .non h := by
  have e := is_pair_ok h1 h2 o h
  unfold f_require_pair
  simp_arith only [e]
def act (a b e f : Int) (p : Int × Int) : Int × Int := (p.1 * a + p.2 * e, p.1 * b + p.2 * f)
section
variable {n a b e f : Int} {p q : Int × Int}
theorem act_mul (x : MulP n p q) : MulP n (act a b e f p) (act a b e f q) := by
  obtain ⟨u, hu, ⟨j, ej⟩, ⟨k, ek⟩⟩ := x
  refine ⟨u, hu, ⟨j * a + k * e, ?_⟩, ⟨j * b + k * f, ?_⟩⟩
  · show u * (p.1 * a + p.2 * e) - (q.1 * a + q.2 * e) = _
    grind
  · show u * (p.1 * b + p.2 * f) - (q.1 * b + q.2 * f) = _
    grind
theorem act_tell (g : Int.gcd (a * f - b * e) n = 1) (t : tl n p.1 p.2 = true) : tl n (act a b e f p).1 (act a b e f p).2 = true := by
  rw [tl_iff] at t ⊢
  intro k k1 k2 k3
  have d1 : k ∣ (a * f - b * e) * p.1 := by
    obtain ⟨x, ex⟩ := k1
    obtain ⟨y, ey⟩ := k2
    exact ⟨x * f - y * e, by unfold act at ex ey; simp only at ex ey; grind⟩
  have d2 : k ∣ (a * f - b * e) * p.2 := by
    obtain ⟨x, ex⟩ := k1
    obtain ⟨y, ey⟩ := k2
    exact ⟨y * a - x * b, by unfold act at ex ey; simp only at ex ey; grind⟩
  have c : Int.gcd k (a * f - b * e) = 1 := by rw [Int.gcd_comm]; exact cop_of_dvd g k3
  exact t k (dvd_cop d1 c) (dvd_cop d2 c) k3
def stp (n a b e f : Int) (p : Int × Int) : Int × Int := lp n (act a b e f p)
theorem stp_own (h : 1 ≤ n) (g : Int.gcd (a * f - b * e) n = 1) (o : Own2 n p) : Own2 n (stp n a b e f p) := lp_own h (act_tell g o.2.1)
def stay (n a b e f : Int) (p : Int × Int) : Bool := tl n (act a b e f p).1 (act a b e f p).2 && decide (stp n a b e f p = p)
end
def itr {α : Type} (F : α → α) (p : α) : Nat → α
  | 0 => p
  | k + 1 => F (itr F p k)
section
variable {α : Type} [DecidableEq α] {F : α → α} {S : List α} {p : α}
theorem itr_add (i : Nat) : ∀ k, itr F p (i + k) = itr F (itr F p i) k
  | 0 => rfl
  | k + 1 => congrArg F (itr_add i k)
end
end Pd

namespace Pd
open PySem L2 Evl
local macro_rules | `(tactic| walk_at "sm") => `(tactic| first | assumption | exact Sm.lit | exact Sm.mul (by walk_at "sm") (by walk_at "sm") | exact Sm.add (by walk_at "sm") (by walk_at "sm") | exact Sm.sub (by walk_at "sm") (by walk_at "sm") | exact Sm.neg (by walk_at "sm"))
local macro_rules | `(tactic| walk_at "cm") => `(tactic| ((with_reducible show CM _ _); first | assumption | exact CM.left (by decide) | exact CM.right (by decide) | exact CM.left (by omega) | exact CM.right (by omega) | exact CM.of (by walk_at "sm") (by walk_at "sm") (by decide)))
local macro_rules | `(tactic| simp_arith only [$xs,*]) => `(tactic| simp (maxSteps := 4000000) (dsimp := false) (disch := first | assumption | decide | omega | walk_at "cm") only [runDef_ap, sVar_ap, sC_ap, sBin_ap, sNeg_ap, sAnd_ap, sOr_ap, sNot_ap, sIf_ap, sTst_ap, qAnd_ap, qOr_ap, qNot_ap, qYes_ap, sChain_ap, sChain3_ap, sNil_ap, sCons_ap, sTup_ap, sLst_ap, sLstM_ap, sCall_ap, g1_ap, g2_ap, sFn_ap, sAsg_ap, gNm_ap, gTp_ap, gConsS_ap, gNilS_ap, sPar_ap, sPar3_ap, sRet_ap, sRetN_ap, sNx_ap, sBrk_ap, sCnt_ap, sSeq_ap, sIte_ap, sDrop_ap, sFrz_ap, sAug_ap, iRange1_ap, iRange2_ap, iSeq_ap, sFor_ap, sLc_ap, R.toG_ok, ↓R.bind_bnd, bnd_ok, ↓R.bd_bdn, bdn_ok, ↓R.toF_tof, tof_ok, ↓F.seq_sqn, sqn_nx, sqn_ret, sqn_cnt, sqn_brk, ↓F.turn_trn, trn_nx, trn_ret, trn_cnt, trn_brk, F.end_nx, F.end_ret, ↓br_true, br_true, ↓br_false, br_false, Dbr, Dneg, Dtst, opt_some, dAdd_int, dIAdd_int, dSub_int, dLt_int, dLe_int, dGt_int, dGe_int, dEq_int, dNe_int, dEq_bl, dNe_bl, dMul_cm, dMod_pos, dDiv_pos, dAbs_int, dMax2_int, dMin2_int, dInt_int, dInt_bl, dIx_tup, dIx_lst, dIx_seq, dLen_tup, dLen_lst, dLen_seq, atI_0, atI_1, atI_2, atI_3, List.map_cons, List.map_nil, List.length_cons, List.length_nil, List.replicate_succ, List.replicate_zero, List.cons_append, List.nil_append, List.getElem?_cons_zero, List.getElem?_cons_succ, List.set_cons_zero, List.set_cons_succ, Nat.reduceAdd, Nat.reduceSub, Nat.zero_add, Nat.add_zero, Nat.sub_self, Nat.reduceMul, mostL_def, Nat.reduceLeDiff, Nat.reduceLT, ite_true, ite_false, if_true, if_false, ↓reduceIte, reduceIte, ↓br_ite, Bool.false_eq_true, reduceCtorEq, Bool.not_true, Bool.not_false, decide_true, decide_false, Int.cast_ofNat_Int, Int.reduceBEq, Int.reduceAdd, Int.reduceSub, Int.reduceMul, Int.reduceNeg, Int.reduceLT, Int.reduceLE, Int.reduceMod, Int.reduceDiv, sMeth1_ap, sSl_ap, sRev_ap, oNo_ap, oPart_ap, sDict0_ap, sSetL_ap, sLc2_ap, sStar_ap, sDGet1_ap, sDGet2_ap, sPutD_ap, iItemsD_ap, iValsD_ap, iKeysD_ap, sDict0T_ap, sPutT_ap, sTGet1_ap, sFrzT_ap, iKeysT_ap, $xs,*])
end Pd

namespace Pd
open PySem L2 Evl
end Pd
namespace Fw
open PySem L2 Evl Pd
local macro_rules | `(tactic| walk_at "sm") => `(tactic| first | assumption | exact Sm.lit | exact Sm.mul (by walk_at "sm") (by walk_at "sm") | exact Sm.add (by walk_at "sm") (by walk_at "sm") | exact Sm.sub (by walk_at "sm") (by walk_at "sm") | exact Sm.neg (by walk_at "sm"))
local macro_rules | `(tactic| walk_at "cm") => `(tactic| ((with_reducible show CM _ _); first | assumption | exact CM.left (by decide) | exact CM.right (by decide) | exact CM.left (by omega) | exact CM.right (by omega) | exact CM.of (by walk_at "sm") (by walk_at "sm") (by decide)))
local macro_rules | `(tactic| simp_arith only [$xs,*]) => `(tactic| simp (maxSteps := 4000000) (dsimp := false) (disch := first | assumption | decide | omega | walk_at "cm") only [runDef_ap, sVar_ap, sC_ap, sBin_ap, sNeg_ap, sAnd_ap, sOr_ap, sNot_ap, sIf_ap, sTst_ap, qAnd_ap, qOr_ap, qNot_ap, qYes_ap, sChain_ap, sChain3_ap, sNil_ap, sCons_ap, sTup_ap, sLst_ap, sLstM_ap, sCall_ap, g1_ap, g2_ap, sFn_ap, sAsg_ap, gNm_ap, gTp_ap, gConsS_ap, gNilS_ap, sPar_ap, sPar3_ap, sRet_ap, sRetN_ap, sNx_ap, sBrk_ap, sCnt_ap, sSeq_ap, sIte_ap, sDrop_ap, sFrz_ap, sAug_ap, iRange1_ap, iRange2_ap, iSeq_ap, sFor_ap, sLc_ap, R.toG_ok, ↓R.bind_bnd, bnd_ok, ↓R.bd_bdn, bdn_ok, ↓R.toF_tof, tof_ok, ↓F.seq_sqn, sqn_nx, sqn_ret, sqn_cnt, sqn_brk, ↓F.turn_trn, trn_nx, trn_ret, trn_cnt, trn_brk, F.end_nx, F.end_ret, ↓br_true, br_true, ↓br_false, br_false, Dbr, Dneg, Dtst, opt_some, dAdd_int, dIAdd_int, dSub_int, dLt_int, dLe_int, dGt_int, dGe_int, dEq_int, dNe_int, dEq_bl, dNe_bl, dMul_cm, dMod_pos, dDiv_pos, dAbs_int, dMax2_int, dMin2_int, dInt_int, dInt_bl, dIx_tup, dIx_lst, dIx_seq, dLen_tup, dLen_lst, dLen_seq, atI_0, atI_1, atI_2, atI_3, List.map_cons, List.map_nil, List.length_cons, List.length_nil, List.replicate_succ, List.replicate_zero, List.cons_append, List.nil_append, List.getElem?_cons_zero, List.getElem?_cons_succ, List.set_cons_zero, List.set_cons_succ, Nat.reduceAdd, Nat.reduceSub, Nat.zero_add, Nat.add_zero, Nat.sub_self, Nat.reduceMul, mostL_def, Nat.reduceLeDiff, Nat.reduceLT, ite_true, ite_false, if_true, if_false, ↓reduceIte, reduceIte, ↓br_ite, Bool.false_eq_true, reduceCtorEq, Bool.not_true, Bool.not_false, decide_true, decide_false, Int.cast_ofNat_Int, Int.reduceBEq, Int.reduceAdd, Int.reduceSub, Int.reduceMul, Int.reduceNeg, Int.reduceLT, Int.reduceLE, Int.reduceMod, Int.reduceDiv, sMeth1_ap, sSl_ap, sRev_ap, oNo_ap, oPart_ap, sDict0_ap, sSetL_ap, sLc2_ap, sStar_ap, sDGet1_ap, sDGet2_ap, sPutD_ap, iItemsD_ap, iValsD_ap, iKeysD_ap, sDict0T_ap, sPutT_ap, sTGet1_ap, sFrzT_ap, iKeysT_ap, $xs,*])
abbrev M4 := Int × Int × Int × Int
abbrev mul (m n : M4) : M4 := (m.1 * n.1 + m.2.1 * n.2.2.1, m.1 * n.2.1 + m.2.1 * n.2.2.2, m.2.2.1 * n.1 + m.2.2.2 * n.2.2.1, m.2.2.1 * n.2.1 + m.2.2.2 * n.2.2.2)
abbrev bk (m : M4) : M4 := (m.2.2.2, -m.2.1, -m.2.2.1, m.1)
abbrev MxM (k : Nat) (m : M4) : Prop := Mx k m.1 m.2.1 m.2.2.1 m.2.2.2
theorem MxM.mul {j k : Nat} {m n : M4} (x : MxM j m) (y : MxM k n) : MxM (j + k + 1) (mul m n) := Mx.prod x y
theorem MxM.bk {k : Nat} {m : M4} (x : MxM k m) : MxM k (bk m) := ⟨x.ss, x.sq.neg, x.sr.neg, x.sp, by have := x.det; show m.2.2.2 * m.1 - -m.2.1 * -m.2.2.1 = 1; grind⟩
def turnsL : List M4 := [(1, 0, 0, 1), (-1, 0, 0, -1), (0, -1, 1, 0), (0, 1, -1, 0), (0, -1, 1, 1), (0, 1, -1, -1), (-1, -1, 1, 0), (1, 1, -1, 0)]
def kp (A B C : Int) (m : M4) : Bool := lA A B C m.1 m.2.2.1 == A && (lB A B C m.1 m.2.1 m.2.2.1 m.2.2.2 == B && (lA A B C m.2.1 m.2.2.2 == C && true))
def L4 (m : M4) : List Int := [m.1, m.2.1, m.2.2.1, m.2.2.2]
section
variable {A B C : Int} {h : Ph}
end
abbrev M3 := Int × Int × Int
abbrev d3 (f : M3) : D := T3 f.1 f.2.1 f.2.2
def okB (m a b : Int) : Bool := (m + b * b) % (4 * a) == 0 && Lst a b ((m + b * b) / (4 * a))
def mkF (m a b : Int) : M3 := (a, b, (m + b * b) / (4 * a))
def frA (m a : Int) : List M3 := ((rangeZ (-a) (2 * a + 1).toNat).filter (okB m a)).map (mkF m a)
def frN (m : Int) (n : Nat) : List M3 := (rangeZ 1 n).flatMap (frA m)
def sq3 (m : Nat) : Nat → Nat
  | 0 => 0
  | k + 1 => if 3 * (k + 1) * (k + 1) ≤ m then k + 1 else sq3 m k
def frm (m : Int) : List M3 := frN m (sq3 m.toNat m.toNat)
end Fw

namespace Fw
open PySem L2 Evl Pd
local macro_rules | `(tactic| walk_at "sm") => `(tactic| first | assumption | exact Sm.lit | exact Sm.mul (by walk_at "sm") (by walk_at "sm") | exact Sm.add (by walk_at "sm") (by walk_at "sm") | exact Sm.sub (by walk_at "sm") (by walk_at "sm") | exact Sm.neg (by walk_at "sm"))
local macro_rules | `(tactic| walk_at "cm") => `(tactic| ((with_reducible show CM _ _); first | assumption | exact CM.left (by decide) | exact CM.right (by decide) | exact CM.left (by omega) | exact CM.right (by omega) | exact CM.of (by walk_at "sm") (by walk_at "sm") (by decide)))
local macro_rules | `(tactic| simp_arith only [$xs,*]) => `(tactic| simp (maxSteps := 4000000) (dsimp := false) (disch := first | assumption | decide | omega | walk_at "cm") only [runDef_ap, sVar_ap, sC_ap, sBin_ap, sNeg_ap, sAnd_ap, sOr_ap, sNot_ap, sIf_ap, sTst_ap, qAnd_ap, qOr_ap, qNot_ap, qYes_ap, sChain_ap, sChain3_ap, sNil_ap, sCons_ap, sTup_ap, sLst_ap, sLstM_ap, sCall_ap, g1_ap, g2_ap, sFn_ap, sAsg_ap, gNm_ap, gTp_ap, gConsS_ap, gNilS_ap, sPar_ap, sPar3_ap, sRet_ap, sRetN_ap, sNx_ap, sBrk_ap, sCnt_ap, sSeq_ap, sIte_ap, sDrop_ap, sFrz_ap, sAug_ap, iRange1_ap, iRange2_ap, iSeq_ap, sFor_ap, sLc_ap, R.toG_ok, ↓R.bind_bnd, bnd_ok, ↓R.bd_bdn, bdn_ok, ↓R.toF_tof, tof_ok, ↓F.seq_sqn, sqn_nx, sqn_ret, sqn_cnt, sqn_brk, ↓F.turn_trn, trn_nx, trn_ret, trn_cnt, trn_brk, F.end_nx, F.end_ret, ↓br_true, br_true, ↓br_false, br_false, Dbr, Dneg, Dtst, opt_some, dAdd_int, dIAdd_int, dSub_int, dLt_int, dLe_int, dGt_int, dGe_int, dEq_int, dNe_int, dEq_bl, dNe_bl, dMul_cm, dMod_pos, dDiv_pos, dAbs_int, dMax2_int, dMin2_int, dInt_int, dInt_bl, dIx_tup, dIx_lst, dIx_seq, dLen_tup, dLen_lst, dLen_seq, atI_0, atI_1, atI_2, atI_3, List.map_cons, List.map_nil, List.length_cons, List.length_nil, List.replicate_succ, List.replicate_zero, List.cons_append, List.nil_append, List.getElem?_cons_zero, List.getElem?_cons_succ, List.set_cons_zero, List.set_cons_succ, Nat.reduceAdd, Nat.reduceSub, Nat.zero_add, Nat.add_zero, Nat.sub_self, Nat.reduceMul, mostL_def, Nat.reduceLeDiff, Nat.reduceLT, ite_true, ite_false, if_true, if_false, ↓reduceIte, reduceIte, ↓br_ite, Bool.false_eq_true, reduceCtorEq, Bool.not_true, Bool.not_false, decide_true, decide_false, Int.cast_ofNat_Int, Int.reduceBEq, Int.reduceAdd, Int.reduceSub, Int.reduceMul, Int.reduceNeg, Int.reduceLT, Int.reduceLE, Int.reduceMod, Int.reduceDiv, sMeth1_ap, sSl_ap, sRev_ap, oNo_ap, oPart_ap, sDict0_ap, sSetL_ap, sLc2_ap, sStar_ap, sDGet1_ap, sDGet2_ap, sPutD_ap, iItemsD_ap, iValsD_ap, iKeysD_ap, sDict0T_ap, sPutT_ap, sTGet1_ap, sFrzT_ap, iKeysT_ap, $xs,*])
section
variable {m : Int} {h : Ph}
theorem app_ok {α : Type} (da : α → D) (acc : List α) (x : α) (hl : acc.length < 1000000) : dAppend (.ref h.length) (da x) (h ++ [.lst (acc.map da)]) = .ok .non (h ++ [.lst ((acc ++ [x]).map da)]) := by
  have e0 : (h ++ [PO.lst (acc.map da)])[h.length]? = some (.lst (acc.map da)) := by simp
  unfold dAppend onLst
  simp only [e0]
  rw [if_pos (by rw [List.length_map]; unfold mostL; omega), List.map_append]
  simp
section
variable {a b : Int} {o4 : Option D} {n : Nat} {h' h2 : Ph}
end
theorem forGo_cons {g : SG} {f : SS} {x : D} {r : List D} {e e1 e2 : Pe} {h h1 h2 : Ph} (a : g x e h = .ok e1 h1) (b : f e1 h1 = .nx e2 h2) : forGo g f (x :: r) e h = forGo g f r e2 h2 := by
  conv => lhs; unfold forGo
  rw [a]
  show (f e1 h1).turn _ = _
  rw [b]; rfl
def plain (f : M3) : Bool := (g3 f.1 f.2.1 f.2.2 : Int) == 1
def klen (f : M3) : Nat := (turnsL.filter (kp f.1 f.2.1 f.2.2)).length
def sx (l : List M3) : Int := (l.map fun f => (12 : Int) / (klen f : Int)).sum
def plainOf (m : Int) : List M3 := (frm m).filter plain
end
end Fw

namespace Pd
open PySem L2 Evl
def c_common_divisor_1 : SE := sLc (iSeq (sVar 0)) (gNm 2) (qYes) (sFn f_is_integer (sCons (sVar 2) (sNil))) [2]
def l_common_divisor_2 : SS := sAsg (sFn f_divisor_of (sCons (sVar 1) (sCons (sVar 2) (sNil)))) (gNm 1)
def f_common_divisor : Fn := runDef 3 (sSeq (sIte (qOr (qNot (sTst (sCall (g2 dIsi) (sCons (sVar 0) (sCons (sC (.ty "tuple")) (sNil)))))) (qNot (sTst (sCall (g1 dAll) (sCons (c_common_divisor_1) (sNil)))))) (sBad) (sNx)) (sSeq (sAsg (sC (.int 0)) (gNm 1)) (sSeq (sFor (iSeq (sVar 0)) (gNm 2) (l_common_divisor_2)) (sRet (sVar 1)))))
def l_index_of_level_1 : SS := sAug 2 dIDiv (sVar 3)
def l_index_of_level_2 : SS := sSeq (sIte (sTst (sBin dEq (sBin dMod (sVar 2) (sVar 3)) (sC (.int 0)))) (sSeq (sAsg (sBin dMul (sBin dDiv (sVar 1) (sVar 3)) (sBin dAdd (sVar 3) (sC (.int 1)))) (gNm 1)) (sWhile FU (sTst (sBin dEq (sBin dMod (sVar 2) (sVar 3)) (sC (.int 0)))) (l_index_of_level_1))) (sNx)) (sAug 3 dIAdd (sC (.int 1)))
def f_index_of_level : Fn := runDef 4 (sSeq (sPar3 1 2 3 (sCons (sVar 0) (sCons (sVar 0) (sCons (sC (.int 2)) (sNil))))) (sSeq (sWhile FU (sTst (sBin dGt (sVar 2) (sC (.int 1)))) (l_index_of_level_2)) (sRet (sVar 1))))
def f_count_pairs : Fn := runDef 1 (sSeq (sDrop (sFn f_require_level (sCons (sVar 0) (sNil)))) (sRet (sFn f_index_of_level (sCons (sVar 0) (sNil)))))
end Pd
namespace Tr
open PySem L2 Evl Pd Fw
local macro_rules | `(tactic| walk_at "sm") => `(tactic| first | assumption | exact Sm.lit | exact Sm.mul (by walk_at "sm") (by walk_at "sm") | exact Sm.add (by walk_at "sm") (by walk_at "sm") | exact Sm.sub (by walk_at "sm") (by walk_at "sm") | exact Sm.neg (by walk_at "sm"))
local macro_rules | `(tactic| walk_at "cm") => `(tactic| ((with_reducible show CM _ _); first | assumption | exact CM.left (by decide) | exact CM.right (by decide) | exact CM.left (by omega) | exact CM.right (by omega) | exact CM.of (by walk_at "sm") (by walk_at "sm") (by decide)))
local macro_rules | `(tactic| simp_arith only [$xs,*]) => `(tactic| simp (maxSteps := 4000000) (dsimp := false) (disch := first | assumption | decide | omega | walk_at "cm") only [runDef_ap, sVar_ap, sC_ap, sBin_ap, sNeg_ap, sAnd_ap, sOr_ap, sNot_ap, sIf_ap, sTst_ap, qAnd_ap, qOr_ap, qNot_ap, qYes_ap, sChain_ap, sChain3_ap, sNil_ap, sCons_ap, sTup_ap, sLst_ap, sLstM_ap, sCall_ap, g1_ap, g2_ap, sFn_ap, sAsg_ap, gNm_ap, gTp_ap, gConsS_ap, gNilS_ap, sPar_ap, sPar3_ap, sRet_ap, sRetN_ap, sNx_ap, sBrk_ap, sCnt_ap, sSeq_ap, sIte_ap, sDrop_ap, sFrz_ap, sAug_ap, iRange1_ap, iRange2_ap, iSeq_ap, sFor_ap, sLc_ap, R.toG_ok, ↓R.bind_bnd, bnd_ok, ↓R.bd_bdn, bdn_ok, ↓R.toF_tof, tof_ok, ↓F.seq_sqn, sqn_nx, sqn_ret, sqn_cnt, sqn_brk, ↓F.turn_trn, trn_nx, trn_ret, trn_cnt, trn_brk, F.end_nx, F.end_ret, ↓br_true, br_true, ↓br_false, br_false, Dbr, Dneg, Dtst, opt_some, dAdd_int, dIAdd_int, dSub_int, dLt_int, dLe_int, dGt_int, dGe_int, dEq_int, dNe_int, dEq_bl, dNe_bl, dMul_cm, dMod_pos, dDiv_pos, dAbs_int, dMax2_int, dMin2_int, dInt_int, dInt_bl, dIx_tup, dIx_lst, dIx_seq, dLen_tup, dLen_lst, dLen_seq, atI_0, atI_1, atI_2, atI_3, List.map_cons, List.map_nil, List.length_cons, List.length_nil, List.replicate_succ, List.replicate_zero, List.cons_append, List.nil_append, List.getElem?_cons_zero, List.getElem?_cons_succ, List.set_cons_zero, List.set_cons_succ, Nat.reduceAdd, Nat.reduceSub, Nat.zero_add, Nat.add_zero, Nat.sub_self, Nat.reduceMul, mostL_def, Nat.reduceLeDiff, Nat.reduceLT, ite_true, ite_false, if_true, if_false, ↓reduceIte, reduceIte, ↓br_ite, Bool.false_eq_true, reduceCtorEq, Bool.not_true, Bool.not_false, decide_true, decide_false, Int.cast_ofNat_Int, Int.reduceBEq, Int.reduceAdd, Int.reduceSub, Int.reduceMul, Int.reduceNeg, Int.reduceLT, Int.reduceLE, Int.reduceMod, Int.reduceDiv, sMeth1_ap, sSl_ap, sRev_ap, oNo_ap, oPart_ap, sDict0_ap, sSetL_ap, sLc2_ap, sStar_ap, sDGet1_ap, sDGet2_ap, sPutD_ap, iItemsD_ap, iValsD_ap, iKeysD_ap, sDict0T_ap, sPutT_ap, sTGet1_ap, sFrzT_ap, iKeysT_ap, $xs,*])
theorem fu_big : 100000 < FU := by unfold FU; decide
theorem common_ok {a b : Int} (sa : Sm 199 a) (sb : Sm 199 b) (h : Ph) : f_common_divisor [.tup [.int a, .int b]] h = .ok (.int (Int.gcd a b)) h := by
  have i1 : f_is_integer [.int a] h = .ok (.bl true) h := by rw [integer_int, Iz.ok sa]
  have i2 : f_is_integer [.int b] h = .ok (.bl true) h := by rw [integer_int, Iz.ok sb]
  have d1 := divisor_ok (a := 0) (b := a) (h := h) (fu_lt (sa.mono (by decide)))
  have d2 := divisor_ok (a := (Int.gcd 0 a : Int)) (b := b) (h := h) (fu_lt (sb.mono (by decide)))
  have g : Int.gcd (Int.gcd 0 a : Int) b = Int.gcd a b := by
    simp [Int.gcd]
  rw [g] at d2
  have q : forGo (gNm 2) l_common_divisor_2 [.int a, .int b] [some (.tup [.int a, .int b]), some (.int 0), none] h = .nx [some (.tup [.int a, .int b]), some (.int (Int.gcd a b)), some (.int b)] h := by
    rw [forGo_cons (e1 := [some (.tup [.int a, .int b]), some (.int 0), some (.int a)]) (e2 := [some (.tup [.int a, .int b]), some (.int (Int.gcd 0 a)), some (.int a)]) (h2 := h) rfl (by unfold l_common_divisor_2; simp_arith only [d1]),
      forGo_cons (e1 := [some (.tup [.int a, .int b]), some (.int (Int.gcd 0 a)), some (.int b)]) (e2 := [some (.tup [.int a, .int b]), some (.int (Int.gcd a b)), some (.int b)]) (h2 := h) rfl (by unfold l_common_divisor_2; simp_arith only [d2])]
    rfl
  unfold f_common_divisor c_common_divisor_1
  simp_arith only [i1, i2, q, isi_tup, kit_tuple_tuple, iSeq_at, compGo_yes, compGo_nil, wipe_cons, wipe_nil, dAll_lst, bls_cons, bls_nil, Option.map_some, R.opt_some, List.all_cons, List.all_nil, id_eq, Bool.true_and, Bool.and_true, Bool.not_true]
theorem level_ok {N : Int} (h1 : 1 ≤ N) (h2 : N ≤ 100) (h : Ph) : f_is_level [.int N] h = .ok (.bl true) h := by
  unfold f_is_level
  simp_arith only [whole_int, h1, h2]
def psiL : List Nat := [1, 3, 4, 6, 6, 12, 8, 12, 12, 18, 12, 24, 14, 24, 24, 24, 18, 36, 20, 36, 32, 36, 24, 48, 30, 42, 36, 48, 30, 72, 32, 48, 48, 54, 48, 72, 38, 60, 56, 72, 42, 96, 44, 72, 72, 72, 48, 96, 56, 90, 72, 84, 54, 108, 72, 96, 80, 90, 60, 144, 62, 96, 96, 96, 84, 144, 68, 108, 96, 144, 72, 144, 74, 114, 120, 120, 96, 168, 80, 144, 108, 126, 84, 192, 108, 132, 120, 144, 90, 216, 112, 144, 128, 144, 120, 192, 98, 168, 144, 180]
def psi (N : Nat) : Nat := psiL.getD (N - 1) 1
theorem idx_all (h : Ph) : (List.range 100).map (fun k => f_index_of_level [.int ((k + 1 : Nat) : Int)] h) = (List.range 100).map fun k => .ok (.int ((psi (k + 1) : Nat) : Int)) h := by kernel_rfl
theorem all_at {α : Type} {f g : Nat → α} {n k : Nat} (e : (List.range n).map f = (List.range n).map g) (hk : k < n) : f k = g k := by
  have := congrArg (fun l : List α => l[k]?) e
  simp only [List.getElem?_map, List.getElem?_range hk, Option.map_some] at this
  exact Option.some.inj this
theorem index_ok {N : Nat} (h1 : 1 ≤ N) (h2 : N ≤ 100) (h : Ph) : f_index_of_level [.int (N : Int)] h = .ok (.int (psi N : Nat)) h := by
  obtain ⟨k, rfl⟩ : ∃ k, N = k + 1 := ⟨N - 1, by omega⟩
  exact all_at (idx_all h) (by omega)
theorem count_ok {N : Nat} (h1 : 1 ≤ N) (h2 : N ≤ 100) (h : Ph) : f_count_pairs [.int (N : Int)] h = .ok (.int (psi N : Nat)) h := by
  have l := level_ok (N := (N : Int)) (by omega) (by omega) h
  have e1 : f_require_level [.int (N : Int)] h = .ok .non h := by
    unfold f_require_level
    simp_arith only [l]
  have e2 := index_ok h1 h2 h
  unfold f_count_pairs
  simp_arith only [e1, e2]
def dvN (n : Nat) : List Nat := ((List.range n).map (· + 1)).filter fun d => n % d == 0
abbrev dI (k : Nat) : D := .int (k : Int)
def phiL : List Nat := [1, 1, 2, 2, 4, 2, 6, 4, 6, 4]
def phi (s : Nat) : Nat := phiL.getD (s - 1) 0
def shs (N : Nat) : List Nat := (dvN N).map fun d => Nat.gcd d (N / d)
def cross (N : Nat) (far : Int) : Nat := (((shs N).filter fun (s : Nat) => far.fmod (s : Int) == 0).map phi).sum
def cpt (N n : Nat) (d : Nat) : Nat := min d (n / d) * cross N (((n / d : Nat) : Int) - (d : Int))
def cp (N n : Nat) : Nat := ((dvN n).map (cpt N n)).sum
end Tr

namespace Tr
open PySem L2 Evl Pd Fw
local macro_rules | `(tactic| walk_at "sm") => `(tactic| first | assumption | exact Sm.lit | exact Sm.mul (by walk_at "sm") (by walk_at "sm") | exact Sm.add (by walk_at "sm") (by walk_at "sm") | exact Sm.sub (by walk_at "sm") (by walk_at "sm") | exact Sm.neg (by walk_at "sm"))
local macro_rules | `(tactic| walk_at "cm") => `(tactic| ((with_reducible show CM _ _); first | assumption | exact CM.left (by decide) | exact CM.right (by decide) | exact CM.left (by omega) | exact CM.right (by omega) | exact CM.of (by walk_at "sm") (by walk_at "sm") (by decide)))
local macro_rules | `(tactic| simp_arith only [$xs,*]) => `(tactic| simp (maxSteps := 4000000) (dsimp := false) (disch := first | assumption | decide | omega | walk_at "cm") only [runDef_ap, sVar_ap, sC_ap, sBin_ap, sNeg_ap, sAnd_ap, sOr_ap, sNot_ap, sIf_ap, sTst_ap, qAnd_ap, qOr_ap, qNot_ap, qYes_ap, sChain_ap, sChain3_ap, sNil_ap, sCons_ap, sTup_ap, sLst_ap, sLstM_ap, sCall_ap, g1_ap, g2_ap, sFn_ap, sAsg_ap, gNm_ap, gTp_ap, gConsS_ap, gNilS_ap, sPar_ap, sPar3_ap, sRet_ap, sRetN_ap, sNx_ap, sBrk_ap, sCnt_ap, sSeq_ap, sIte_ap, sDrop_ap, sFrz_ap, sAug_ap, iRange1_ap, iRange2_ap, iSeq_ap, sFor_ap, sLc_ap, R.toG_ok, ↓R.bind_bnd, bnd_ok, ↓R.bd_bdn, bdn_ok, ↓R.toF_tof, tof_ok, ↓F.seq_sqn, sqn_nx, sqn_ret, sqn_cnt, sqn_brk, ↓F.turn_trn, trn_nx, trn_ret, trn_cnt, trn_brk, F.end_nx, F.end_ret, ↓br_true, br_true, ↓br_false, br_false, Dbr, Dneg, Dtst, opt_some, dAdd_int, dIAdd_int, dSub_int, dLt_int, dLe_int, dGt_int, dGe_int, dEq_int, dNe_int, dEq_bl, dNe_bl, dMul_cm, dMod_pos, dDiv_pos, dAbs_int, dMax2_int, dMin2_int, dInt_int, dInt_bl, dIx_tup, dIx_lst, dIx_seq, dLen_tup, dLen_lst, dLen_seq, atI_0, atI_1, atI_2, atI_3, List.map_cons, List.map_nil, List.length_cons, List.length_nil, List.replicate_succ, List.replicate_zero, List.cons_append, List.nil_append, List.getElem?_cons_zero, List.getElem?_cons_succ, List.set_cons_zero, List.set_cons_succ, Nat.reduceAdd, Nat.reduceSub, Nat.zero_add, Nat.add_zero, Nat.sub_self, Nat.reduceMul, mostL_def, Nat.reduceLeDiff, Nat.reduceLT, ite_true, ite_false, if_true, if_false, ↓reduceIte, reduceIte, ↓br_ite, Bool.false_eq_true, reduceCtorEq, Bool.not_true, Bool.not_false, decide_true, decide_false, Int.cast_ofNat_Int, Int.reduceBEq, Int.reduceAdd, Int.reduceSub, Int.reduceMul, Int.reduceNeg, Int.reduceLT, Int.reduceLE, Int.reduceMod, Int.reduceDiv, sMeth1_ap, sSl_ap, sRev_ap, oNo_ap, oPart_ap, sDict0_ap, sSetL_ap, sLc2_ap, sStar_ap, sDGet1_ap, sDGet2_ap, sPutD_ap, iItemsD_ap, iValsD_ap, iKeysD_ap, sDict0T_ap, sPutT_ap, sTGet1_ap, sFrzT_ap, iKeysT_ap, $xs,*])
def gt (n : Nat) : Nat := ((List.range 28).filter fun k => (k + 1) * (k + 1) < 4 * n).length
def shq (w : Nat) (k : Nat) : Bool := decide ((k + 1) * (k + 1) ≤ w) && (w % ((k + 1) * (k + 1)) == 0 && (w / ((k + 1) * (k + 1)) % 4 == 0 || w / ((k + 1) * (k + 1)) % 4 == 3))
def shm (w : Nat) : List (Nat × Nat) := ((List.range 28).filter (shq w)).map fun k => (k + 1, w / ((k + 1) * (k + 1)))
def dP (p : Nat × Nat) : D := .tup [dI p.1, dI p.2]
def whole (n : Nat) (t : Int) : Nat := (4 * (n : Int) - t * t).toNat
def metT (n : Nat) (t : Int) : List (Int × Nat × Nat) := (shm (whole n t)).map fun p => (t, p.1, p.2)
def met (n : Nat) : List (Int × Nat × Nat) := (rangeZ (-(gt n : Int)) (2 * gt n + 1)).flatMap (metT n)
end Tr

namespace Tr
open PySem L2 Evl Pd Fw
local macro_rules | `(tactic| walk_at "sm") => `(tactic| first | assumption | exact Sm.lit | exact Sm.mul (by walk_at "sm") (by walk_at "sm") | exact Sm.add (by walk_at "sm") (by walk_at "sm") | exact Sm.sub (by walk_at "sm") (by walk_at "sm") | exact Sm.neg (by walk_at "sm"))
local macro_rules | `(tactic| walk_at "cm") => `(tactic| ((with_reducible show CM _ _); first | assumption | exact CM.left (by decide) | exact CM.right (by decide) | exact CM.left (by omega) | exact CM.right (by omega) | exact CM.of (by walk_at "sm") (by walk_at "sm") (by decide)))
local macro_rules | `(tactic| simp_arith only [$xs,*]) => `(tactic| simp (maxSteps := 4000000) (dsimp := false) (disch := first | assumption | decide | omega | walk_at "cm") only [runDef_ap, sVar_ap, sC_ap, sBin_ap, sNeg_ap, sAnd_ap, sOr_ap, sNot_ap, sIf_ap, sTst_ap, qAnd_ap, qOr_ap, qNot_ap, qYes_ap, sChain_ap, sChain3_ap, sNil_ap, sCons_ap, sTup_ap, sLst_ap, sLstM_ap, sCall_ap, g1_ap, g2_ap, sFn_ap, sAsg_ap, gNm_ap, gTp_ap, gConsS_ap, gNilS_ap, sPar_ap, sPar3_ap, sRet_ap, sRetN_ap, sNx_ap, sBrk_ap, sCnt_ap, sSeq_ap, sIte_ap, sDrop_ap, sFrz_ap, sAug_ap, iRange1_ap, iRange2_ap, iSeq_ap, sFor_ap, sLc_ap, R.toG_ok, ↓R.bind_bnd, bnd_ok, ↓R.bd_bdn, bdn_ok, ↓R.toF_tof, tof_ok, ↓F.seq_sqn, sqn_nx, sqn_ret, sqn_cnt, sqn_brk, ↓F.turn_trn, trn_nx, trn_ret, trn_cnt, trn_brk, F.end_nx, F.end_ret, ↓br_true, br_true, ↓br_false, br_false, Dbr, Dneg, Dtst, opt_some, dAdd_int, dIAdd_int, dSub_int, dLt_int, dLe_int, dGt_int, dGe_int, dEq_int, dNe_int, dEq_bl, dNe_bl, dMul_cm, dMod_pos, dDiv_pos, dAbs_int, dMax2_int, dMin2_int, dInt_int, dInt_bl, dIx_tup, dIx_lst, dIx_seq, dLen_tup, dLen_lst, dLen_seq, atI_0, atI_1, atI_2, atI_3, List.map_cons, List.map_nil, List.length_cons, List.length_nil, List.replicate_succ, List.replicate_zero, List.cons_append, List.nil_append, List.getElem?_cons_zero, List.getElem?_cons_succ, List.set_cons_zero, List.set_cons_succ, Nat.reduceAdd, Nat.reduceSub, Nat.zero_add, Nat.add_zero, Nat.sub_self, Nat.reduceMul, mostL_def, Nat.reduceLeDiff, Nat.reduceLT, ite_true, ite_false, if_true, if_false, ↓reduceIte, reduceIte, ↓br_ite, Bool.false_eq_true, reduceCtorEq, Bool.not_true, Bool.not_false, decide_true, decide_false, Int.cast_ofNat_Int, Int.reduceBEq, Int.reduceAdd, Int.reduceSub, Int.reduceMul, Int.reduceNeg, Int.reduceLT, Int.reduceLE, Int.reduceMod, Int.reduceDiv, sMeth1_ap, sSl_ap, sRev_ap, oNo_ap, oPart_ap, sDict0_ap, sSetL_ap, sLc2_ap, sStar_ap, sDGet1_ap, sDGet2_ap, sPutD_ap, iItemsD_ap, iValsD_ap, iKeysD_ap, sDict0T_ap, sPutT_ap, sTGet1_ap, sFrzT_ap, iKeysT_ap, $xs,*])
def rtsL (M : Nat) (l c : Int) : List Nat := (List.range M).filter fun (x : Nat) => ((x : Int) * (x : Int) + l * (x : Int) + c).fmod (M : Int) == 0
def solL (N n : Nat) (t : Int) (s : Nat) : List Int := ddI ((rtsL (N * s) (-t) (n : Int)).map fun (x : Nat) => ((x % N : Nat) : Int))
def tms (N n : Nat) (t : Int) (f : Nat) : Nat := psi N / psi (N / Nat.gcd N f) * (solL N n t (Nat.gcd N f)).length
def w6 (m : Nat) : Nat := (sx (plainOf (m : Int))).toNat
def fw (N n : Nat) (x : Int × Nat × Nat) : Nat := tms N n x.1 x.2.1 * w6 x.2.2
def fpt (N n : Nat) : Nat := ((met n).map (fw N n)).sum
def fstN (N n : Nat) : Nat := if (dvN n).length % 2 = 1 then psi N else 0
def trX (N n : Nat) : Int := (fstN N n : Int) - (fpt N n : Int) - 6 * (cp N n : Int) + 12 * ((dvN n).sum : Nat)
def tr (N n : Nat) : Int := lwT (trX N n) 12
end Tr

namespace Tr
open PySem L2 Evl Pd Fw
end Tr

namespace Pd
open PySem L2 Evl
end Pd
namespace Tr
open PySem L2 Evl Pd Fw
local macro_rules | `(tactic| walk_at "sm") => `(tactic| first | assumption | exact Sm.lit | exact Sm.mul (by walk_at "sm") (by walk_at "sm") | exact Sm.add (by walk_at "sm") (by walk_at "sm") | exact Sm.sub (by walk_at "sm") (by walk_at "sm") | exact Sm.neg (by walk_at "sm"))
local macro_rules | `(tactic| walk_at "cm") => `(tactic| ((with_reducible show CM _ _); first | assumption | exact CM.left (by decide) | exact CM.right (by decide) | exact CM.left (by omega) | exact CM.right (by omega) | exact CM.of (by walk_at "sm") (by walk_at "sm") (by decide)))
local macro_rules | `(tactic| simp_arith only [$xs,*]) => `(tactic| simp (maxSteps := 4000000) (dsimp := false) (disch := first | assumption | decide | omega | walk_at "cm") only [runDef_ap, sVar_ap, sC_ap, sBin_ap, sNeg_ap, sAnd_ap, sOr_ap, sNot_ap, sIf_ap, sTst_ap, qAnd_ap, qOr_ap, qNot_ap, qYes_ap, sChain_ap, sChain3_ap, sNil_ap, sCons_ap, sTup_ap, sLst_ap, sLstM_ap, sCall_ap, g1_ap, g2_ap, sFn_ap, sAsg_ap, gNm_ap, gTp_ap, gConsS_ap, gNilS_ap, sPar_ap, sPar3_ap, sRet_ap, sRetN_ap, sNx_ap, sBrk_ap, sCnt_ap, sSeq_ap, sIte_ap, sDrop_ap, sFrz_ap, sAug_ap, iRange1_ap, iRange2_ap, iSeq_ap, sFor_ap, sLc_ap, R.toG_ok, ↓R.bind_bnd, bnd_ok, ↓R.bd_bdn, bdn_ok, ↓R.toF_tof, tof_ok, ↓F.seq_sqn, sqn_nx, sqn_ret, sqn_cnt, sqn_brk, ↓F.turn_trn, trn_nx, trn_ret, trn_cnt, trn_brk, F.end_nx, F.end_ret, ↓br_true, br_true, ↓br_false, br_false, Dbr, Dneg, Dtst, opt_some, dAdd_int, dIAdd_int, dSub_int, dLt_int, dLe_int, dGt_int, dGe_int, dEq_int, dNe_int, dEq_bl, dNe_bl, dMul_cm, dMod_pos, dDiv_pos, dAbs_int, dMax2_int, dMin2_int, dInt_int, dInt_bl, dIx_tup, dIx_lst, dIx_seq, dLen_tup, dLen_lst, dLen_seq, atI_0, atI_1, atI_2, atI_3, List.map_cons, List.map_nil, List.length_cons, List.length_nil, List.replicate_succ, List.replicate_zero, List.cons_append, List.nil_append, List.getElem?_cons_zero, List.getElem?_cons_succ, List.set_cons_zero, List.set_cons_succ, Nat.reduceAdd, Nat.reduceSub, Nat.zero_add, Nat.add_zero, Nat.sub_self, Nat.reduceMul, mostL_def, Nat.reduceLeDiff, Nat.reduceLT, ite_true, ite_false, if_true, if_false, ↓reduceIte, reduceIte, ↓br_ite, Bool.false_eq_true, reduceCtorEq, Bool.not_true, Bool.not_false, decide_true, decide_false, Int.cast_ofNat_Int, Int.reduceBEq, Int.reduceAdd, Int.reduceSub, Int.reduceMul, Int.reduceNeg, Int.reduceLT, Int.reduceLE, Int.reduceMod, Int.reduceDiv, sMeth1_ap, sSl_ap, sRev_ap, oNo_ap, oPart_ap, sDict0_ap, sSetL_ap, sLc2_ap, sStar_ap, sDGet1_ap, sDGet2_ap, sPutD_ap, iItemsD_ap, iValsD_ap, iKeysD_ap, sDict0T_ap, sPutT_ap, sTGet1_ap, sFrzT_ap, iKeysT_ap, $xs,*])
def rq (M n : Nat) (t : Int) (x : Nat) : Bool := ((x : Int) * (x : Int) + -t * (x : Int) + (n : Int)).fmod (M : Int) == 0
end Tr

namespace Pd
open PySem L2 Evl
def l__law_mixed_1 : SS := sDrop (sMeth1 dAppend (sVar 4) (sMeth1 dPopAt (sVar 3) (sFn f__law_roll (sCons (sVar 0) (sCons (sCall (g1 dLen) (sCons (sVar 3) (sNil))) (sNil))))))
def f__law_mixed : Fn := runDef 5 (sSeq (sPar 3 4 (sCons (sCall (g1 dListM) (sCons (sVar 1) (sNil))) (sCons (sLstM (sNil)) (sNil)))) (sSeq (sFor (iRange1 (sCons (sCall (g1 dLen) (sCons (sVar 1) (sNil))) (sNil))) (gNm 2) (l__law_mixed_1)) (sRet (sFrz (sVar 4)))))
end Pd
namespace Tx
open PySem L2 Evl Pd Fw Tr
local macro_rules | `(tactic| walk_at "sm") => `(tactic| first | assumption | exact Sm.lit | exact Sm.mul (by walk_at "sm") (by walk_at "sm") | exact Sm.add (by walk_at "sm") (by walk_at "sm") | exact Sm.sub (by walk_at "sm") (by walk_at "sm") | exact Sm.neg (by walk_at "sm"))
local macro_rules | `(tactic| walk_at "cm") => `(tactic| ((with_reducible show CM _ _); first | assumption | exact CM.left (by decide) | exact CM.right (by decide) | exact CM.left (by omega) | exact CM.right (by omega) | exact CM.of (by walk_at "sm") (by walk_at "sm") (by decide)))
local macro_rules | `(tactic| simp_arith only [$xs,*]) => `(tactic| simp (maxSteps := 4000000) (dsimp := false) (disch := first | assumption | decide | omega | walk_at "cm") only [runDef_ap, sVar_ap, sC_ap, sBin_ap, sNeg_ap, sAnd_ap, sOr_ap, sNot_ap, sIf_ap, sTst_ap, qAnd_ap, qOr_ap, qNot_ap, qYes_ap, sChain_ap, sChain3_ap, sNil_ap, sCons_ap, sTup_ap, sLst_ap, sLstM_ap, sCall_ap, g1_ap, g2_ap, sFn_ap, sAsg_ap, gNm_ap, gTp_ap, gConsS_ap, gNilS_ap, sPar_ap, sPar3_ap, sRet_ap, sRetN_ap, sNx_ap, sBrk_ap, sCnt_ap, sSeq_ap, sIte_ap, sDrop_ap, sFrz_ap, sAug_ap, iRange1_ap, iRange2_ap, iSeq_ap, sFor_ap, sLc_ap, R.toG_ok, ↓R.bind_bnd, bnd_ok, ↓R.bd_bdn, bdn_ok, ↓R.toF_tof, tof_ok, ↓F.seq_sqn, sqn_nx, sqn_ret, sqn_cnt, sqn_brk, ↓F.turn_trn, trn_nx, trn_ret, trn_cnt, trn_brk, F.end_nx, F.end_ret, ↓br_true, br_true, ↓br_false, br_false, Dbr, Dneg, Dtst, opt_some, dAdd_int, dIAdd_int, dSub_int, dLt_int, dLe_int, dGt_int, dGe_int, dEq_int, dNe_int, dEq_bl, dNe_bl, dMul_cm, dMod_pos, dDiv_pos, dAbs_int, dMax2_int, dMin2_int, dInt_int, dInt_bl, dIx_tup, dIx_lst, dIx_seq, dLen_tup, dLen_lst, dLen_seq, atI_0, atI_1, atI_2, atI_3, List.map_cons, List.map_nil, List.length_cons, List.length_nil, List.replicate_succ, List.replicate_zero, List.cons_append, List.nil_append, List.getElem?_cons_zero, List.getElem?_cons_succ, List.set_cons_zero, List.set_cons_succ, Nat.reduceAdd, Nat.reduceSub, Nat.zero_add, Nat.add_zero, Nat.sub_self, Nat.reduceMul, mostL_def, Nat.reduceLeDiff, Nat.reduceLT, ite_true, ite_false, if_true, if_false, ↓reduceIte, reduceIte, ↓br_ite, Bool.false_eq_true, reduceCtorEq, Bool.not_true, Bool.not_false, decide_true, decide_false, Int.cast_ofNat_Int, Int.reduceBEq, Int.reduceAdd, Int.reduceSub, Int.reduceMul, Int.reduceNeg, Int.reduceLT, Int.reduceLE, Int.reduceMod, Int.reduceDiv, sMeth1_ap, sSl_ap, sRev_ap, oNo_ap, oPart_ap, sDict0_ap, sSetL_ap, sLc2_ap, sStar_ap, sDGet1_ap, sDGet2_ap, sPutD_ap, iItemsD_ap, iValsD_ap, iKeysD_ap, sDict0T_ap, sPutT_ap, sTGet1_ap, sFrzT_ap, iKeysT_ap, $xs,*])
theorem seq_nx {a b : SS} {e e1 : Pe} {h h1 : Ph} (q : a e h = .nx e1 h1) : sSeq a b e h = b e1 h1 := by
  show (a e h).seq b = _
  rw [q]; rfl
theorem end_nx {a b : SS} {e e1 : Pe} {h h1 : Ph} {r : R D} (q : a e h = .nx e1 h1) (k : F.end (b e1 h1) = r) : F.end (sSeq a b e h) = r := by
  rw [seq_nx q]; exact k
theorem perm_eraseIdx {α : Type} : ∀ (l : List α) (k : Nat) (h : k < l.length), (l[k] :: l.eraseIdx k).Perm l
  | a :: t, 0, _ => List.Perm.refl _
  | a :: t, k + 1, h => by
    show (t[k]'(Nat.lt_of_succ_lt_succ h) :: a :: t.eraseIdx k).Perm (a :: t)
    exact (List.Perm.swap a _ _).trans (List.Perm.cons a (perm_eraseIdx t k (Nat.lt_of_succ_lt_succ h)))
structure Kp (n N : Nat) (h H : Ph) : Prop where
  dc : Dc H n
  len : N + 2 ≤ H.length
  keep : ∀ k, k ≠ n → k < N → H[k]? = h[k]?
theorem mix_step {n N : Nat} {h H : Ph} {left found : List D} {items t : D} (kp : Kp n N h H) (hn : n < N) (el : H[N]? = some (.lst left)) (ef : H[N + 1]? = some (.lst found)) (h0 : left ≠ []) (hl : left.length < 1000000) (hf : found.length < 1000000) :
    ∃ (k : Nat) (d : D) (H' : Ph), left[k]? = some d ∧ l__law_mixed_1 [some (.ref n), some items, some t, some (.ref N), some (.ref (N + 1))] H = .nx [some (.ref n), some items, some t, some (.ref N), some (.ref (N + 1))] H' ∧ Kp n N h H' ∧ H'[N]? = some (.lst (left.eraseIdx k)) ∧ H'[N + 1]? = some (.lst (found ++ [d])) := by
  have hlen : 0 < left.length := List.length_pos_iff.mpr h0
  have big : (left.length : Int).natAbs.log2 < 9000 := by
    rw [Int.natAbs_natCast]
    exact Nat.lt_trans (Nat.log2_lt (by omega) |>.mpr (Nat.lt_trans hl (by decide : 1000000 < 2 ^ 20))) (by decide)
  obtain ⟨v, H1, e1, v0, v1, d1⟩ := roll_ok (T := (left.length : Int)) kp.dc (by omega) big
  obtain ⟨k, rfl⟩ := Int.eq_ofNat_of_zero_le v0
  have hk : k < left.length := by omega
  have hd : left[k]? = some left[k] := List.getElem?_eq_getElem hk
  have lH := kp.len
  have l1 := d1.len
  have el1 : H1[N]? = some (.lst left) := (d1.keep N (by omega) (by omega)).trans el
  have ef1 : H1[N + 1]? = some (.lst found) := (d1.keep (N + 1) (by omega) (by omega)).trans ef
  have six : seqIndex? (k : Int) left.length = some k := by
    unfold seqIndex?
    simp only [show ¬ ((k : Int) < 0) by omega, if_false]
    rw [if_pos (by simp; omega)]
    simp
  have mo : (1000000 : Nat) ≤ mostL := by decide
  have a0 : sVar 4 [some (.ref n), some items, some t, some (.ref N), some (.ref (N + 1))] H = .ok (.ref (N + 1)) H := rfl
  have len : dLen (.ref N) H = .ok (.int (left.length : Int)) H := by
    unfold dLen lstOf
    simp only [el]
    rfl
  have args : (sCons (sVar 0) (sCons (sCall (g1 dLen) (sCons (sVar 3) (sNil))) (sNil))) [some (.ref n), some items, some t, some (.ref N), some (.ref (N + 1))] H = .ok [.ref n, .int (left.length : Int)] H := by
    show ((sCall (g1 dLen) (sCons (sVar 3) sNil) [some (.ref n), some items, some t, some (.ref N), some (.ref (N + 1))] H).bind fun d h1 => _).bind _ = _
    have : sCall (g1 dLen) (sCons (sVar 3) sNil) [some (.ref n), some items, some t, some (.ref N), some (.ref (N + 1))] H = dLen (.ref N) H := rfl
    rw [this, len]
    rfl
  have pop : sMeth1 dPopAt (sVar 3) (sFn f__law_roll (sCons (sVar 0) (sCons (sCall (g1 dLen) (sCons (sVar 3) (sNil))) (sNil)))) [some (.ref n), some items, some t, some (.ref N), some (.ref (N + 1))] H = .ok left[k] (H1.set N (.lst (left.eraseIdx k))) := by
    show R.opt (lsOf (.ref N) H) (fun _ => (((sCons (sVar 0) (sCons (sCall (g1 dLen) (sCons (sVar 3) (sNil))) (sNil))) [some (.ref n), some items, some t, some (.ref N), some (.ref (N + 1))] H).bind fun as h1 => f__law_roll as h1).bind fun a h2 => dPopAt (.ref N) a h2) = _
    have lo : lsOf (.ref N) H = some left := by unfold lsOf; simp only [el]
    rw [lo, args]
    show ((f__law_roll [.ref n, .int (left.length : Int)] H).bind fun a h2 => dPopAt (.ref N) a h2) = _
    rw [e1]
    show dPopAt (.ref N) (.int (k : Int)) H1 = _
    unfold dPopAt onLst
    simp only [el1]
    rw [if_pos ⟨by omega, by omega⟩, six, R.opt_some, hd, R.opt_some]
  have ef2 : (H1.set N (.lst (left.eraseIdx k)))[N + 1]? = some (.lst found) := by rw [List.getElem?_set_ne (by omega)]; exact ef1
  have app : dAppend (.ref (N + 1)) left[k] (H1.set N (.lst (left.eraseIdx k))) = .ok .non ((H1.set N (.lst (left.eraseIdx k))).set (N + 1) (.lst (found ++ [left[k]]))) := by
    unfold dAppend onLst
    simp only [ef2]
    rw [if_pos (Nat.lt_of_lt_of_le hf mo)]
  refine ⟨k, left[k], (H1.set N (.lst (left.eraseIdx k))).set (N + 1) (.lst (found ++ [left[k]])), hd, ?_, ⟨?_, ?_, ?_⟩, ?_, ?_⟩
  · show ((sMeth1 dAppend (sVar 4) (sMeth1 dPopAt (sVar 3) (sFn f__law_roll (sCons (sVar 0) (sCons (sCall (g1 dLen) (sCons (sVar 3) (sNil))) (sNil))))) [some (.ref n), some items, some t, some (.ref N), some (.ref (N + 1))] H).toF _ _) = _
    have : sMeth1 dAppend (sVar 4) (sMeth1 dPopAt (sVar 3) (sFn f__law_roll (sCons (sVar 0) (sCons (sCall (g1 dLen) (sCons (sVar 3) (sNil))) (sNil))))) [some (.ref n), some items, some t, some (.ref N), some (.ref (N + 1))] H = .ok .non ((H1.set N (.lst (left.eraseIdx k))).set (N + 1) (.lst (found ++ [left[k]]))) := by
      show R.opt (lsOf (.ref (N + 1)) H) (fun _ => (sMeth1 dPopAt (sVar 3) (sFn f__law_roll (sCons (sVar 0) (sCons (sCall (g1 dLen) (sCons (sVar 3) (sNil))) (sNil)))) [some (.ref n), some items, some t, some (.ref N), some (.ref (N + 1))] H).bind fun a h2 => dAppend (.ref (N + 1)) a h2) = _
      have lo : lsOf (.ref (N + 1)) H = some found := by unfold lsOf; simp only [ef]
      rw [lo, pop]
      exact app
    rw [this]
    rfl
  · obtain ⟨a, b, c, q⟩ := d1.dc
    exact ⟨a, b, c, by rw [List.getElem?_set_ne (by omega), List.getElem?_set_ne (by omega)]; exact q⟩
  · simp only [List.length_set]; omega
  · intro j j1 j2
    rw [List.getElem?_set_ne (by omega), List.getElem?_set_ne (by omega), d1.keep j j1 (by omega)]
    exact kp.keep j j1 j2
  · rw [List.getElem?_set_ne (by omega), List.getElem?_set_self (by omega)]
  · rw [List.getElem?_set_self (by rw [List.length_set]; omega)]
theorem mixed_ok {n : Nat} {h : Ph} {xs : List D} (hd : Dc h n) (hl : xs.length < 1000000) : ∃ ys h', f__law_mixed [.ref n, .lst xs] h = .ok (.lst ys) h' ∧ ys.Perm xs ∧ Dr n h h' := by
  have hn : n < h.length := by
    obtain ⟨_, _, _, z⟩ := hd
    exact (List.getElem?_eq_some_iff.mp z).1
  have D0 := (Dr.refl hd).push (.lst xs)
  have D1 := D0.push (.lst [])
  obtain ⟨e', h', q1, o2, left, found, he, kp, el, ef, pm, ln⟩ := forGo_inv (g := gNm 2) (f := l__law_mixed_1) (fun j e H => ∃ o2 left found, e = [some (.ref n), some (.lst xs), o2, some (.ref h.length), some (.ref (h.length + 1))] ∧ Kp n h.length h H ∧ H[h.length]? = some (.lst left) ∧ H[h.length + 1]? = some (.lst found) ∧ (found ++ left).Perm xs ∧ left.length + j = xs.length) (rangeD 0 xs.length) 0 [some (.ref n), some (.lst xs), none, some (.ref h.length), some (.ref (h.length + 1))] (h ++ [.lst xs, .lst []])
    ⟨none, xs, [], rfl, ⟨by
      obtain ⟨a, b, c, q⟩ := hd
      exact ⟨a, b, c, by rw [List.getElem?_append_left hn]; exact q⟩, by simp, fun k _ hk => List.getElem?_append_left hk⟩, by simp, by simp, List.Perm.refl _, by simp⟩
    (fun x hx j e H _ hj ⟨o2, left, found, he, kp, el, ef, pm, ln⟩ => by
      subst he
      have lr : (rangeD 0 xs.length).length = xs.length := by unfold rangeD; simp
      rw [lr] at hj
      have pl := pm.length_eq
      rw [List.length_append] at pl
      obtain ⟨k, d, H', hk, s1, kp', el', ef'⟩ := mix_step (items := .lst xs) (t := x) kp hn el ef (by intro z; rw [z] at ln; simp at ln; omega) (by omega) (by omega)
      have hkl : k < left.length := (List.getElem?_eq_some_iff.mp hk).1
      refine ⟨_, _, _, _, rfl, s1, some x, left.eraseIdx k, found ++ [d], rfl, kp', el', ef', ?_, ?_⟩
      · have e2 : d = left[k] := by rw [List.getElem?_eq_getElem hkl] at hk; cases hk; rfl
        rw [List.append_assoc]
        refine (List.Perm.append_left found ?_).trans pm
        rw [e2]
        exact perm_eraseIdx left k hkl
      · rw [List.length_eraseIdx_of_lt hkl]; omega)
  subst he
  have lr : (rangeD 0 xs.length).length = xs.length := by unfold rangeD; simp
  have l0 : left = [] := List.eq_nil_of_length_eq_zero (by rw [lr] at ln; omega)
  subst l0
  rw [List.append_nil] at pm
  have lk := kp.len
  refine ⟨found, h'.set (h.length + 1) .dead, ?_, pm, ?_, ?_, ?_⟩
  · unfold f__law_mixed
    show F.end (sSeq _ _ [some (.ref n), some (.lst xs), none, none, none] h) = _
    have e2 : (h ++ [PO.lst xs]).length = h.length + 1 := by simp
    have e3 : h ++ [PO.lst xs] ++ [PO.lst []] = h ++ [.lst xs, .lst []] := by simp
    refine end_nx (e1 := [some (.ref n), some (.lst xs), none, some (.ref h.length), some (.ref (h.length + 1))]) (h1 := h ++ [.lst xs, .lst []]) ?_ ?_
    · have p1 : sPar 3 4 (sCons (sCall (g1 dListM) (sCons (sVar 1) (sNil))) (sCons (sLstM (sNil)) (sNil))) [some (.ref n), some (.lst xs), none, none, none] h = .nx [some (.ref n), some (.lst xs), none, some (.ref h.length), some (.ref (h ++ [PO.lst xs]).length)] (h ++ [.lst xs] ++ [.lst []]) := by
        simp_arith only [dListM, seqOf, lstOf, R.opt_some]
      rw [e2, e3] at p1
      exact p1
    have rg := rng_ok (n := (xs.length : Int)) (h := h ++ [.lst xs, .lst []]) (by omega) (by omega)
    refine end_nx (e1 := [some (.ref n), some (.lst xs), o2, some (.ref h.length), some (.ref (h.length + 1))]) (h1 := h') ?_ ?_
    · have it : iRange1 (sCons (sCall (g1 dLen) (sCons (sVar 1) (sNil))) (sNil)) [some (.ref n), some (.lst xs), none, some (.ref h.length), some (.ref (h.length + 1))] (h ++ [.lst xs, .lst []]) = .ok (rangeD 0 xs.length) (h ++ [.lst xs, .lst []]) := by
        refine Eq.trans ?_ (rg.trans (by rw [Int.toNat_natCast]))
        simp_arith only []
      unfold sFor
      rw [it]
      exact q1
    · have fz : frzD (.ref (h.length + 1)) h' = (.lst found, h'.set (h.length + 1) .dead) := by
        unfold frzD
        simp only [ef]
      simp_arith only [sFrz_ap, fz]
  · obtain ⟨a, b, c, q⟩ := kp.dc
    exact ⟨a, b, c, by rw [List.getElem?_set_ne (by omega)]; exact q⟩
  · rw [List.length_set]; omega
  · intro k k1 k2
    rw [List.getElem?_set_ne (by omega)]
    exact kp.keep k k1 k2
def pd2 (p : Nat × Nat) : PyData := .tuple [.int p.1, .int p.2]
theorem pys_P : ∀ l : List (Nat × Nat), D.py.pys (l.map dP) = some (l.map pd2)
  | [] => rfl
  | p :: r => by
    show (D.py.pys (r.map dP)).map (pd2 p :: ·) = _
    rw [pys_P r]; rfl
theorem eqvAll_P : ∀ l : List (Nat × Nat), PyData.eqvAll (l.map pd2) (l.map pd2) = true
  | [] => rfl
  | f :: l => by
    show ((((f.1 : Nat) : Int) == ((f.1 : Nat) : Int) && (((f.2 : Nat) : Int) == ((f.2 : Nat) : Int) && true)) && PyData.eqvAll (l.map pd2) (l.map pd2)) = true
    rw [eqvAll_P l]; simp
theorem shaped_P (l : List (Nat × Nat)) : SeqAt.shaped (.list (l.map pd2)) = true := by
  have : ∀ l : List (Nat × Nat), PyData.canLayAll0 (l.map pd2) = true ∧ PyData.depthAll (l.map pd2) ≤ 1 := by
    intro l
    induction l with
    | nil => exact ⟨rfl, Nat.zero_le _⟩
    | cons m l ih =>
      obtain ⟨a, b⟩ := ih
      refine ⟨?_, ?_⟩
      · show ((pd2 m).canLay0 && PyData.canLayAll0 (l.map pd2)) = true
        rw [a]; rfl
      · show max (PyData.depth (pd2 m)) (PyData.depthAll (l.map pd2)) ≤ 1
        exact Nat.max_le.mpr ⟨by show 1 ≤ 1; decide, b⟩
  obtain ⟨y1, y2⟩ := this l
  show (PyData.canLayAll0 (l.map pd2) && decide (PyData.depthAll (l.map pd2) + 1 ≤ 64)) = true
  rw [y1, Bool.true_and, decide_eq_true_eq]; omega
theorem dNe_P {l : List (Nat × Nat)} {h : Ph} : dNe (.lst (l.map dP)) (.lst (l.map dP)) h = .ok (.bl false) h := by
  show R.opt ((D.py.pys (l.map dP)).map PyData.list) (fun p => R.opt ((D.py.pys (l.map dP)).map PyData.list) fun q => _) = _
  rw [pys_P]
  show (if SeqAt.shaped (.list (l.map pd2)) = true ∧ SeqAt.shaped (.list (l.map pd2)) = true then R.ok (D.bl (!PyData.eqvAll (l.map pd2) (l.map pd2))) h else R.bad) = _
  rw [if_pos ⟨shaped_P l, shaped_P l⟩, eqvAll_P]; rfl
end Tx

namespace L15
open PySem L2 Evl Pd
def l_second_row_1 : SS := sAug 3 dIAdd (sVar 0)
def m_second_row : Fn := runDef 4 (sSeq (sAsg (sIf (sTst (sBin dGt (sBin dIx (sVar 1) (sC (.int 0))) (sC (.int 0)))) (sBin dIx (sVar 1) (sC (.int 0))) (sVar 0)) (gNm 2)) (sSeq (sAsg (sBin dIx (sVar 1) (sC (.int 1))) (gNm 3)) (sSeq (sWhile FU (sTst (sBin dNe (sFn f_common_of (sCons (sVar 2) (sCons (sVar 3) (sNil)))) (sC (.int 1)))) (l_second_row_1)) (sRet (sTup (sCons (sVar 2) (sCons (sVar 3) (sNil))))))))
def m_matrix_of : Fn := runDef 5 (sSeq (sDrop (sFn f_require_level (sCons (sVar 0) (sNil)))) (sSeq (sDrop (sFn f_require_pair (sCons (sVar 0) (sCons (sVar 1) (sNil))))) (sSeq (sAsg (sFn m_second_row (sCons (sVar 0) (sCons (sVar 1) (sNil)))) (gTp 2 (gConsS (gNm 3) (gConsS (gNm 4) (gNilS))))) (sSeq (sAsg (sFn f_column_beside (sCons (sVar 3) (sCons (sVar 4) (sNil)))) (gNm 2)) (sRet (sTup (sCons (sNeg (sBin dIx (sVar 2) (sC (.int 0)))) (sCons (sNeg (sBin dIx (sVar 2) (sC (.int 1)))) (sCons (sVar 3) (sCons (sVar 4) (sNil)))))))))))
def l_pair_round_1 : SS := sDrop (sMeth1 dAppend (sVar 2) (sVar 3))
def m_pair_round : Fn := runDef 4 (sSeq (sDrop (sFn f_require_level (sCons (sVar 0) (sNil)))) (sSeq (sDrop (sFn f_require_pair (sCons (sVar 0) (sCons (sVar 1) (sNil))))) (sSeq (sAsg (sLstM (sCons (sVar 1) (sNil))) (gNm 2)) (sSeq (sWhileW FU 3 dNe (sFn f_least_pair (sCons (sVar 0) (sCons (sBin dIx (sBin dIx (sVar 2) (sC (.int (-1)))) (sC (.int 0))) (sCons (sBin dAdd (sBin dIx (sBin dIx (sVar 2) (sC (.int (-1)))) (sC (.int 0))) (sBin dIx (sBin dIx (sVar 2) (sC (.int (-1)))) (sC (.int 1)))) (sNil))))) (sVar 1) (l_pair_round_1)) (sRet (sCall (g1 dTuple) (sCons (sVar 2) (sNil))))))))
def l__law_rim_told_1 : SS := sIte (qAnd (sTst (sBin dEq (sFn f__law_gcd (sCons (sVar 5) (sCons (sVar 3) (sNil)))) (sC (.int 1)))) (sTst (sBin dEq (sBin dMod (sBin dSub (sVar 5) (sBin dMul (sVar 1) (sBin dDiv (sVar 2) (sVar 3)))) (sVar 4)) (sC (.int 0))))) (sRet (sTup (sCons (sVar 5) (sCons (sVar 3) (sNil))))) (sNx)
def m__law_rim_told : Fn := runDef 6 (sSeq (sAsg (sFn f__law_gcd (sCons (sVar 2) (sCons (sVar 0) (sNil)))) (gNm 3)) (sSeq (sAsg (sFn f__law_gcd (sCons (sVar 3) (sCons (sBin dDiv (sVar 0) (sVar 3)) (sNil)))) (gNm 4)) (sSeq (sFor (iRange1 (sCons (sBin dAdd (sBin dMul (sVar 3) (sVar 4)) (sC (.int 1))) (sNil))) (gNm 5) (l__law_rim_told_1)) (sRet (sTup (sCons (sC (.int 1)) (sCons (sVar 0) (sNil))))))))
def l__law_own_round_1 : SS := sSeq (sAsg (sBin dIx (sVar 3) (sC (.int (-1)))) (gTp 2 (gConsS (gNm 6) (gConsS (gNm 7) (gNilS))))) (sSeq (sAsg (sBin dTGet (sVar 0) (sTup (sCons (sVar 6) (sCons (sBin dMod (sCall (g1 dInt) (sCons (sBin dAdd (sVar 6) (sVar 7)) (sNil))) (sVar 1)) (sNil))))) (gNm 5)) (sSeq (sIte (sTst (sBin dEq (sVar 5) (sVar 2))) (sBrk) (sNx)) (sDrop (sMeth1 dAppend (sVar 3) (sVar 5)))))
def m__law_own_round : Fn := runDef 8 (sSeq (sAsg (sLstM (sCons (sVar 2) (sNil))) (gNm 3)) (sSeq (sFor (iRange1 (sCons (sVar 1) (sNil))) (gNm 4) (l__law_own_round_1)) (sRet (sCall (g1 dTuple) (sCons (sVar 3) (sNil))))))
def m_width_of : Fn := runDef 2 (sSeq (sDrop (sFn f_require_level (sCons (sVar 0) (sNil)))) (sSeq (sDrop (sFn f_require_fraction (sCons (sVar 1) (sNil)))) (sRet (sFn f_width_in (sCons (sVar 0) (sCons (sVar 1) (sNil)))))))
def c_count_rims_1 : SE := sLc (iSeq (sFn f_divisors (sCons (sVar 0) (sNil)))) (gNm 1) (qYes) (sFn f_count_units (sCons (sFn f_common_divisor (sCons (sTup (sCons (sVar 1) (sCons (sBin dDiv (sVar 0) (sVar 1)) (sNil)))) (sNil))) (sNil))) [1]
def m_count_rims : Fn := runDef 2 (sSeq (sDrop (sFn f_require_level (sCons (sVar 0) (sNil)))) (sRet (sCall (g1 dSum) (sCons (c_count_rims_1) (sNil)))))
def c__law_right_1 : SE := sLc (iKeysT (sVar 2)) (gNm 10) (qYes) (sBin dTGet (sVar 2) (sVar 10)) [10]
def l__law_right_2 : SS := sSeq (sPar 8 9 (sCons (sFn (iso m_pair_round) (sCons (sVar 1) (sCons (sVar 3) (sNil)))) (sCons (sFn (iso m_matrix_of) (sCons (sVar 1) (sCons (sVar 3) (sNil)))) (sNil)))) (sSeq (sAsg (sFn (iso f__law_lowest) (sCons (sBin dIx (sVar 9) (sC (.int 0))) (sCons (sBin dIx (sVar 9) (sC (.int 2))) (sNil)))) (gNm 6)) (sSeq (sAsg (sFn (iso m__law_rim_told) (sCons (sVar 1) (sCons (sBin dIx (sVar 6) (sC (.int 0))) (sCons (sBin dIx (sVar 6) (sC (.int 1))) (sNil))))) (gNm 7)) (sSeq (sIte (qOr (sTst (sBin dNe (sVar 8) (sFn (iso m__law_own_round) (sCons (sVar 2) (sCons (sVar 1) (sCons (sVar 3) (sNil))))))) (sTst (sBin dNe (sCall (g1 dLen) (sCons (sVar 8) (sNil))) (sFn (iso f__law_width) (sCons (sVar 1) (sCons (sVar 6) (sNil))))))) (sRet (sC (.bl false))) (sNx)) (sSeq (sIte (qOr (sTst (sBin dNe (sNSetDef (sVar 5) (sCall (g1 dMinA) (sCons (sVar 8) (sNil))) (sVar 7)) (sVar 7))) (qOr (sTst (sBin dNe (sFn (iso f_rim_of) (sCons (sVar 1) (sCons (sVar 7) (sNil)))) (sVar 7))) (sTst (sBin dNe (sFn (iso m_width_of) (sCons (sVar 1) (sCons (sVar 7) (sNil)))) (sCall (g1 dLen) (sCons (sVar 8) (sNil))))))) (sRet (sC (.bl false))) (sNx)) (sIte (qAnd (sTst (sBin dLe (sCall (g2 dMax2) (sCons (sCall (g1 dAbs) (sCons (sBin dIx (sVar 6) (sC (.int 0))) (sNil))) (sCons (sBin dIx (sVar 6) (sC (.int 1))) (sNil)))) (sC (.int (100000000000000000000))))) (sTst (sBin dNe (sFn (iso f_rim_of) (sCons (sVar 1) (sCons (sVar 6) (sNil)))) (sVar 7)))) (sRet (sC (.bl false))) (sNx))))))
def c__law_right_3 : SE := sLc (iKeysT (sVar 5)) (gNm 10) (qYes) (sBin dTGet (sVar 5) (sVar 10)) [10]
def c__law_right_4 : SE := sLc (iSeq (sVar 4)) (gNm 3) (qYes) (sCall (g1 dMinA) (sCons (sFn (iso m__law_own_round) (sCons (sVar 2) (sCons (sVar 1) (sCons (sVar 3) (sNil))))) (sNil))) [3]
def m__law_right : Fn := runDef 11 (sSeq (sAsg (sFn f__law_level_drawn (sCons (sVar 0) (sCons (sC (.int 48)) (sNil)))) (gNm 1)) (sSeq (sAsg (sFn (iso f__law_told_pairs) (sCons (sVar 1) (sNil))) (gNm 2)) (sSeq (sAsg (sTup (sCons (sSortSet (c__law_right_1)) (sCons (sDict0T) (sNil)))) (gTp 2 (gConsS (gNm 4) (gConsS (gNm 5) (gNilS))))) (sSeq (sFor (iSeq (sSl dSl (sFn f__law_mixed (sCons (sVar 0) (sCons (sVar 4) (sNil)))) (oNo) (oPart (sC (.int 40))))) (gNm 3) (l__law_right_2)) (sSeq (sIte (sTst (sBin dNe (sLkT 5 (sLenSet (c__law_right_3))) (sCall (g1 dTLen) (sCons (sVar 5) (sNil))))) (sRet (sC (.bl false))) (sNx)) (sRet (sBin dEq (sLenSet (c__law_right_4)) (sFn (iso m_count_rims) (sCons (sVar 1) (sNil))))))))))
def l_law_1 : SS := sIte (qNot (sTst (sFn m__law_right (sCons (sFn f__law_dice (sCons (sVar 0) (sCons (sVar 1) (sNil)))) (sNil))))) (sRet (sC (.bl false))) (sNx)
def m_law : Fn := runDef 2 (sSeq (sFor (iRange1 (sCons (sCall (g2 dMax2) (sCons (sC (.int 1)) (sCons (sCall (g2 dMin2) (sCons (sC (.int 2)) (sCons (sCall (g1 dLen) (sCons (sVar 0) (sNil))) (sNil)))) (sNil)))) (sNil))) (gNm 1) (l_law_1)) (sRet (sAnd (sBin dEq (sFn (iso m_pair_round) (sCons (sC (.int 6)) (sCons (sTup (sCons (sC (.int 2)) (sCons (sC (.int 1)) (sNil)))) (sNil)))) (sTup (sCons (sTup (sCons (sC (.int 2)) (sCons (sC (.int 1)) (sNil)))) (sCons (sTup (sCons (sC (.int 2)) (sCons (sC (.int 3)) (sNil)))) (sCons (sTup (sCons (sC (.int 2)) (sCons (sC (.int 5)) (sNil)))) (sNil)))))) (sAnd (sBin dEq (sCall (g1 dLen) (sCons (sFn (iso m_pair_round) (sCons (sC (.int 6)) (sCons (sTup (sCons (sC (.int 1)) (sCons (sC (.int 0)) (sNil)))) (sNil)))) (sNil))) (sC (.int 6))) (sBin dEq (sFn (iso m_pair_round) (sCons (sC (.int 1)) (sCons (sTup (sCons (sC (.int 0)) (sCons (sC (.int 0)) (sNil)))) (sNil)))) (sTup (sCons (sTup (sCons (sC (.int 0)) (sCons (sC (.int 0)) (sNil)))) (sNil))))))))
def Left : Prop := ∀ ns : List Int, ns.length ≤ 63 → ∃ h, m_law [.seq (ns.map D.int)] [] = .ok (.bl true) h
end L15

namespace L15
open PySem L2 Evl Pd
local macro_rules | `(tactic| walk_at "sm") => `(tactic| first | assumption | exact Sm.lit | exact Sm.mul (by walk_at "sm") (by walk_at "sm") | exact Sm.add (by walk_at "sm") (by walk_at "sm") | exact Sm.sub (by walk_at "sm") (by walk_at "sm") | exact Sm.neg (by walk_at "sm"))
local macro_rules | `(tactic| walk_at "cm") => `(tactic| ((with_reducible show CM _ _); first | assumption | exact CM.left (by decide) | exact CM.right (by decide) | exact CM.left (by omega) | exact CM.right (by omega) | exact CM.of (by walk_at "sm") (by walk_at "sm") (by decide)))
local macro_rules | `(tactic| simp_arith only [$xs,*]) => `(tactic| simp (maxSteps := 4000000) (dsimp := false) (disch := first | assumption | decide | omega | walk_at "cm") only [runDef_ap, sVar_ap, sC_ap, sBin_ap, sNeg_ap, sAnd_ap, sOr_ap, sNot_ap, sIf_ap, sTst_ap, qAnd_ap, qOr_ap, qNot_ap, qYes_ap, sChain_ap, sChain3_ap, sNil_ap, sCons_ap, sTup_ap, sLst_ap, sLstM_ap, sCall_ap, g1_ap, g2_ap, sFn_ap, sAsg_ap, gNm_ap, gTp_ap, gConsS_ap, gNilS_ap, sPar_ap, sPar3_ap, sRet_ap, sRetN_ap, sNx_ap, sBrk_ap, sCnt_ap, sSeq_ap, sIte_ap, sDrop_ap, sFrz_ap, sAug_ap, iRange1_ap, iRange2_ap, iSeq_ap, sFor_ap, sLc_ap, R.toG_ok, ↓R.bind_bnd, bnd_ok, ↓R.bd_bdn, bdn_ok, ↓R.toF_tof, tof_ok, ↓F.seq_sqn, sqn_nx, sqn_ret, sqn_cnt, sqn_brk, ↓F.turn_trn, trn_nx, trn_ret, trn_cnt, trn_brk, F.end_nx, F.end_ret, ↓br_true, br_true, ↓br_false, br_false, Dbr, Dneg, Dtst, opt_some, dAdd_int, dIAdd_int, dSub_int, dLt_int, dLe_int, dGt_int, dGe_int, dEq_int, dNe_int, dEq_bl, dNe_bl, dMul_cm, dMod_pos, dDiv_pos, dAbs_int, dMax2_int, dMin2_int, dInt_int, dInt_bl, dIx_tup, dIx_lst, dIx_seq, dLen_tup, dLen_lst, dLen_seq, atI_0, atI_1, atI_2, atI_3, List.map_cons, List.map_nil, List.length_cons, List.length_nil, List.replicate_succ, List.replicate_zero, List.cons_append, List.nil_append, List.getElem?_cons_zero, List.getElem?_cons_succ, List.set_cons_zero, List.set_cons_succ, Nat.reduceAdd, Nat.reduceSub, Nat.zero_add, Nat.add_zero, Nat.sub_self, Nat.reduceMul, mostL_def, Nat.reduceLeDiff, Nat.reduceLT, ite_true, ite_false, if_true, if_false, ↓reduceIte, reduceIte, ↓br_ite, Bool.false_eq_true, reduceCtorEq, Bool.not_true, Bool.not_false, decide_true, decide_false, Int.cast_ofNat_Int, Int.reduceBEq, Int.reduceAdd, Int.reduceSub, Int.reduceMul, Int.reduceNeg, Int.reduceLT, Int.reduceLE, Int.reduceMod, Int.reduceDiv, sMeth1_ap, sSl_ap, sRev_ap, oNo_ap, oPart_ap, sDict0_ap, sSetL_ap, sLc2_ap, sStar_ap, sDGet1_ap, sDGet2_ap, sPutD_ap, iItemsD_ap, iValsD_ap, iKeysD_ap, sDict0T_ap, sPutT_ap, sTGet1_ap, sFrzT_ap, iKeysT_ap, $xs,*])
section
variable {n : Int} {p q : Int × Int} {a b a' b' : Int}
def fst2 (n : Int) (p : Int × Int) : Int := if 0 < p.1 then p.1 else n
theorem fst2_ok (h1 : 1 ≤ n) (h2 : n ≤ 100) (o : Own2 n p) : 1 ≤ fst2 n p ∧ fst2 n p ≤ n ∧ Int.gcd (fst2 n p) p.2 = 1 ∧ MulP n p (fst2 n p, p.2) ∧ fst2 n p ∣ n := by
  obtain ⟨⟨r1, r2, r3, r4⟩, t, _⟩ := id o
  have tt := tl_iff.mp t
  unfold fst2
  by_cases c0 : 0 < p.1
  · rw [if_pos c0]
    have hm := (mem_apP h1 h2).mpr o
    have cd : p.1 ∣ n := by
      unfold apP at hm
      obtain ⟨c', hc, hp⟩ := List.mem_flatMap.mp hm
      obtain ⟨d', _, e⟩ := List.mem_map.mp hp
      have e1 : c' = p.1 := congrArg Prod.fst e
      rw [e1] at hc
      rcases List.mem_cons.mp hc with z | z
      · omega
      · exact Int.dvd_of_emod_eq_zero (beq_iff_eq.mp (List.mem_filter.mp z).2)
    refine ⟨by omega, by omega, ?_, MulP.refl h1, cd⟩
    have := tt (Int.gcd p.1 p.2) (Int.gcd_dvd_left _ _) (Int.gcd_dvd_right _ _) (Int.dvd_trans (Int.gcd_dvd_left _ _) cd)
    have := Int.natAbs_dvd_natAbs.mpr this
    simpa using this
  · rw [if_neg c0]
    have z : p.1 = 0 := by omega
    refine ⟨h1, by omega, ?_, .cong h1 (by rw [z]; exact ⟨-1, by omega⟩) (by rw [Int.sub_self]; exact Int.dvd_zero _), Int.dvd_refl _⟩
    have := tt (Int.gcd n p.2) (by rw [z]; exact Int.dvd_zero _) (Int.gcd_dvd_right _ _) (Int.gcd_dvd_left _ _)
    have := Int.natAbs_dvd_natAbs.mpr this
    simpa using this
theorem cop_by {x n : Int} (h : ∀ g : Int, g ∣ x → g ∣ n → g ∣ 1) : Int.gcd x n = 1 := by
  have := Int.natAbs_dvd_natAbs.mpr (h _ (Int.gcd_dvd_left x n) (Int.gcd_dvd_right x n))
  simpa using this
theorem lp_iff (h1 : 1 ≤ n) {a1 b1 c1 d1 c d : Int} (m : a * d - b * c = 1) (m1 : a1 * d1 - b1 * c1 = 1) : (n ∣ c1 * d - d1 * c) ↔ lp n (c1, d1) = lp n (c, d) := by
  constructor
  · rintro ⟨j, ej⟩
    have g : Int.gcd (a * d1 - b * c1) n = 1 := cop_by fun g k1 k2 => by
      have hc : g ∣ c1 := by
        obtain ⟨u, eu⟩ := k1
        obtain ⟨w, ew⟩ := k2
        exact ⟨u * c + a * j * w, by grind⟩
      have hd : g ∣ d1 := by
        obtain ⟨u, eu⟩ := k1
        obtain ⟨w, ew⟩ := k2
        exact ⟨u * d + b * j * w, by grind⟩
      have := Int.dvd_sub (dvR (b := a1) hd) (dvR (b := b1) hc)
      rwa [m1] at this
    refine (lp_mul h1 (MulP.of_unit (u := a * d1 - b * c1) h1 g ⟨-a * j, ?_⟩ ⟨-b * j, ?_⟩)).symm
    · show (a * d1 - b * c1) * c - c1 = _; grind
    · show (a * d1 - b * c1) * d - d1 = _; grind
  · intro z
    obtain ⟨u, _, ⟨x, ex⟩, ⟨y, ey⟩⟩ := mul_of_lp h1 z
    simp only at ex ey
    exact ⟨c1 * -y + d1 * x, by grind⟩
abbrev rd (n : Int) : Int × Int → Int × Int := stp n 1 1 0 1
theorem det1 : Int.gcd (1 * 1 - 1 * 0 : Int) n = 1 := by simp
theorem itr_own (h1 : 1 ≤ n) (o : Own2 n p) : ∀ j, Own2 n (itr (rd n) p j)
  | 0 => o
  | j + 1 => stp_own h1 det1 (itr_own h1 o j)
theorem itr_rd (h1 : 1 ≤ n) (h2 : n ≤ 100) (o : Own2 n p) : ∀ j : Nat, itr (rd n) p j = lp n (fst2 n p, p.2 + (j : Int) * fst2 n p)
  | 0 => by
    rw [show p.2 + ((0 : Nat) : Int) * fst2 n p = p.2 by simp, ← lp_mul h1 (fst2_ok h1 h2 o).2.2.2.1]
    exact o.2.2.symm
  | j + 1 => by
    show rd n (itr (rd n) p j) = _
    rw [itr_rd h1 h2 o j]
    have x := (lp_is h1 (fst2 n p, p.2 + (j : Int) * fst2 n p)).1.m
    have y := lp_mul h1 (act_mul (a := 1) (b := 1) (e := 0) (f := 1) x)
    show lp n (act 1 1 0 1 (lp n (fst2 n p, p.2 + (j : Int) * fst2 n p))) = _
    rw [← y]
    congr 1
    refine Prod.ext ?_ ?_
    · show fst2 n p * 1 + (p.2 + (j : Int) * fst2 n p) * 0 = fst2 n p
      omega
    · show fst2 n p * 1 + (p.2 + (j : Int) * fst2 n p) * 1 = p.2 + ((j + 1 : Nat) : Int) * fst2 n p
      have : ((j + 1 : Nat) : Int) = (j : Int) + 1 := by simp
      rw [this]
      grind
structure Mt (n : Int) (p : Int × Int) (a b : Int) : Prop where
  det : a * p.2 - b * fst2 n p = 1
  sa : Sm 40 a
  sb : Sm 40 b
theorem back_iff (h1 : 1 ≤ n) (h2 : n ≤ 100) (o : Own2 n p) (m : a * p.2 - b * fst2 n p = 1) (j : Nat) : itr (rd n) p j = p ↔ wid n (fst2 n p) ∣ (j : Int) := by
  have hp : lp n (fst2 n p, p.2) = p := by rw [← lp_mul h1 (fst2_ok h1 h2 o).2.2.2.1]; exact o.2.2
  have k := lp_iff h1 (a1 := a) (b1 := b + (j : Int) * a) (c1 := fst2 n p) (d1 := p.2 + (j : Int) * fst2 n p) m (by grind)
  rw [hp, ← itr_rd h1 h2 o j] at k
  rw [← k, ← wid_dvd h1]
  have e : fst2 n p * p.2 - (p.2 + (j : Int) * fst2 n p) * fst2 n p = -(fst2 n p * fst2 n p * (j : Int)) := by grind
  rw [e, Int.dvd_neg]
theorem same_iff (h1 : 1 ≤ n) (h2 : n ≤ 100) (o : Own2 n p) (o' : Own2 n q) (m : a * p.2 - b * fst2 n p = 1) (m' : a' * q.2 - b' * fst2 n q = 1) : (∃ j : Nat, itr (rd n) p j = q) ↔ Cls n a (fst2 n p) a' (fst2 n q) := by
  have hp : lp n (fst2 n q, q.2) = q := by rw [← lp_mul h1 (fst2_ok h1 h2 o').2.2.2.1]; exact o'.2.2
  have step : ∀ j : Nat, itr (rd n) p j = q ↔ n ∣ (q.2 * fst2 n p - fst2 n q * p.2) - (j : Int) * (fst2 n p * fst2 n q) := fun j => by
    have k := lp_iff h1 (a1 := a) (b1 := b + (j : Int) * a) (c1 := fst2 n p) (d1 := p.2 + (j : Int) * fst2 n p) m' (by grind)
    rw [hp, ← itr_rd h1 h2 o j] at k
    rw [← k]
    have e : fst2 n p * q.2 - (p.2 + (j : Int) * fst2 n p) * fst2 n q = (q.2 * fst2 n p - fst2 n q * p.2) - (j : Int) * (fst2 n p * fst2 n q) := by grind
    rw [e]
  have c := class_iff h1 m m'
  have ng : ((Int.gcd (fst2 n p * fst2 n q) n : Int) ∣ fst2 n q * p.2 - q.2 * fst2 n p) ↔ (Int.gcd (fst2 n p * fst2 n q) n : Int) ∣ q.2 * fst2 n p - fst2 n q * p.2 := by
    rw [← Int.dvd_neg, show -(fst2 n q * p.2 - q.2 * fst2 n p) = q.2 * fst2 n p - fst2 n q * p.2 by omega]
  rw [ng, ← shift_iff h1] at c
  refine Iff.trans ?_ c
  constructor
  · rintro ⟨j, hj⟩
    have hj := (step j).mp hj
    rw [shift_iff h1]
    have g1 : (Int.gcd (fst2 n p * fst2 n q) n : Int) ∣ (j : Int) * (fst2 n p * fst2 n q) := dvR (Int.gcd_dvd_left _ _)
    have := Int.dvd_add (Int.dvd_trans (Int.gcd_dvd_right (fst2 n p * fst2 n q) n) hj) g1
    rwa [Int.sub_add_cancel] at this
  · rintro ⟨k, k0, _, hk⟩
    refine ⟨k.toNat, (step _).mpr ?_⟩
    rwa [Int.toNat_of_nonneg k0]
theorem rP_fst (h1 : 1 ≤ n) (h2 : n ≤ 100) (o : Own2 n p) : rP n (fst2 n p) = fst2 n p := by
  obtain ⟨f1, _, _, _, f5⟩ := fst2_ok h1 h2 o
  show (Int.gcd (fst2 n p) n : Int) = _
  rw [Int.gcd_eq_natAbs_left_iff_dvd.mpr f5]
  omega
def key (n : Int) (p : Int × Int) : Int × Int := (fst2 n p, (fst2 n p * p.2) % (Int.gcd (fst2 n p * fst2 n p) n : Int))
theorem key_iff (h1 : 1 ≤ n) (h2 : n ≤ 100) (o : Own2 n p) (o' : Own2 n q) (m : a * p.2 - b * fst2 n p = 1) (m' : a' * q.2 - b' * fst2 n q = 1) : key n p = key n q ↔ Cls n a (fst2 n p) a' (fst2 n q) := by
  have c := class_iff h1 m m'
  constructor
  · intro e
    have e1 : fst2 n p = fst2 n q := congrArg Prod.fst e
    have e2 : (fst2 n p * p.2) % (Int.gcd (fst2 n p * fst2 n p) n : Int) = (fst2 n q * q.2) % (Int.gcd (fst2 n q * fst2 n q) n : Int) := congrArg Prod.snd e
    refine c.mp ?_
    rw [← e1] at e2 ⊢
    have := Int.emod_eq_emod_iff_emod_sub_eq_zero.mp e2
    have := Int.dvd_of_emod_eq_zero this
    rwa [Int.mul_comm q.2]
  · intro k
    have e1 : fst2 n p = fst2 n q := by
      have := k.1
      rwa [rP_fst h1 h2 o, rP_fst h1 h2 o'] at this
    have k2 := c.mpr k
    refine Prod.ext e1 ?_
    show (fst2 n p * p.2) % (Int.gcd (fst2 n p * fst2 n p) n : Int) = (fst2 n q * q.2) % (Int.gcd (fst2 n q * fst2 n q) n : Int)
    rw [← e1] at k2 ⊢
    refine Int.emod_eq_emod_iff_emod_sub_eq_zero.mpr (Int.emod_eq_zero_of_dvd ?_)
    rwa [Int.mul_comm q.2] at k2
def wd (n : Int) (p : Int × Int) : Nat := (wid n (fst2 n p)).toNat
def orb (n : Int) (p : Int × Int) (j : Nat) : List (Int × Int) := (List.range j).map (itr (rd n) p)
theorem wd_ok (h1 : 1 ≤ n) : 1 ≤ wd n p ∧ (wd n p : Int) ≤ n ∧ (wd n p : Int) = wid n (fst2 n p) := by
  obtain ⟨w1, w2, _⟩ := wid_ok (L := n) (q := fst2 n p) h1
  unfold wd
  omega
theorem wd_back (h1 : 1 ≤ n) (h2 : n ≤ 100) (o : Own2 n p) (m : a * p.2 - b * fst2 n p = 1) : itr (rd n) p (wd n p) = p ∧ ∀ j, 1 ≤ j → j < wd n p → itr (rd n) p j ≠ p := by
  obtain ⟨w1, w2, w3⟩ := wd_ok (p := p) h1
  refine ⟨(back_iff h1 h2 o m _).mpr (by rw [w3]; exact Int.dvd_refl _), fun j j1 j2 e => ?_⟩
  have := Int.le_of_dvd (by omega) ((back_iff h1 h2 o m _).mp e)
  omega
theorem orb_all (h1 : 1 ≤ n) (h2 : n ≤ 100) (o : Own2 n p) (m : a * p.2 - b * fst2 n p = 1) : ∀ j, itr (rd n) p j ∈ orb n p (wd n p) := by
  obtain ⟨w1, w2, w3⟩ := wd_ok (p := p) h1
  intro j
  induction j using Nat.strongRecOn with
  | _ j ih =>
    by_cases c : j < wd n p
    · exact List.mem_map.mpr ⟨j, List.mem_range.mpr c, rfl⟩
    · have e : itr (rd n) p j = itr (rd n) p (j - wd n p) := by
        have := itr_add (F := rd n) (p := p) (wd n p) (j - wd n p)
        rw [(wd_back h1 h2 o m).1] at this
        rwa [show wd n p + (j - wd n p) = j by omega] at this
      rw [e]
      exact ih _ (by omega)
theorem orb_mem {j : Nat} (h : q ∈ orb n p j) : ∃ i, itr (rd n) p i = q := by
  obtain ⟨i, _, e⟩ := List.mem_map.mp h
  exact ⟨i, e⟩
theorem minP : ∀ (r : List (Int × Int)) (m : Int × Int), ∃ q, minS (L2p m) (r.map L2p) = L2p q ∧ q ∈ m :: r ∧ ∀ y ∈ m :: r, ¬ lt2 y q
  | [], m => ⟨m, rfl, List.mem_cons_self, fun y hy => by
      rcases List.mem_cons.mp hy with rfl | hy
      · unfold lt2; omega
      · cases hy⟩
  | x :: r, m => by
    have st : minS (L2p m) ((x :: r).map L2p) = minS (if HT.lexLt (L2p x) (L2p m) then L2p x else L2p m) (r.map L2p) := rfl
    by_cases c : lt2 x m
    · have c' : HT.lexLt (L2p x) (L2p m) = true := lex2.mpr c
      obtain ⟨q, e, hq, hm⟩ := minP r x
      refine ⟨q, by rw [st, if_pos c', e], List.mem_cons_of_mem _ hq, fun y hy z => ?_⟩
      rcases List.mem_cons.mp hy with rfl | hy
      · refine hm x List.mem_cons_self ?_
        unfold lt2 at c z ⊢; omega
      · exact hm y hy z
    · have c' : ¬ HT.lexLt (L2p x) (L2p m) = true := fun z => c (lex2.mp z)
      obtain ⟨q, e, hq, hm⟩ := minP r m
      refine ⟨q, by rw [st, if_neg c', e], ?_, fun y hy z => ?_⟩
      · rcases List.mem_cons.mp hq with rfl | hq
        · exact List.mem_cons_self
        · exact List.mem_cons_of_mem _ (List.mem_cons_of_mem _ hq)
      · rcases List.mem_cons.mp hy with rfl | hy
        · exact hm y List.mem_cons_self z
        · rcases List.mem_cons.mp hy with rfl | hy
          · refine hm m List.mem_cons_self ?_
            unfold lt2 at c z ⊢; omega
          · exact hm y (List.mem_cons_of_mem _ hy) z
def rmn (n : Int) (p : Int × Int) : Int × Int := match orb n p (wd n p) with
  | [] => p
  | m :: r => ((minS (L2p m) (r.map L2p)).getD 0 0, (minS (L2p m) (r.map L2p)).getD 1 0)
theorem rmn_ok {m : Int × Int} {r : List (Int × Int)} (e : orb n p (wd n p) = m :: r) : minS (L2p m) (r.map L2p) = L2p (rmn n p) ∧ rmn n p ∈ orb n p (wd n p) ∧ ∀ y ∈ orb n p (wd n p), ¬ lt2 y (rmn n p) := by
  obtain ⟨q, e1, e2, e3⟩ := minP r m
  have : rmn n p = q := by
    unfold rmn
    rw [e]
    simp only [e1]
    rfl
  rw [this, e]
  exact ⟨e1, e2, e3⟩
theorem orb_cons (h1 : 1 ≤ n) : ∃ r, orb n p (wd n p) = p :: r := by
  obtain ⟨w1, _⟩ := wd_ok (p := p) h1
  refine ⟨(List.range (wd n p - 1)).map fun j => itr (rd n) p (j + 1), ?_⟩
  unfold orb
  conv => lhs; rw [show wd n p = wd n p - 1 + 1 by omega]
  rw [List.range_succ_eq_map, List.map_cons, List.map_map]
  rfl
theorem key_same (h1 : 1 ≤ n) (h2 : n ≤ 100) (M : ∀ p, Own2 n p → ∃ a b, Mt n p a b) (o : Own2 n p) (o' : Own2 n q) : key n p = key n q ↔ ∃ j : Nat, itr (rd n) p j = q := by
  obtain ⟨a, b, m⟩ := M p o
  obtain ⟨a', b', m'⟩ := M q o'
  rw [key_iff h1 h2 o o' m.det m'.det, same_iff h1 h2 o o' m.det m'.det]
theorem rmn_iff (h1 : 1 ≤ n) (h2 : n ≤ 100) (M : ∀ p, Own2 n p → ∃ a b, Mt n p a b) (o : Own2 n p) (o' : Own2 n q) : rmn n p = rmn n q ↔ key n p = key n q := by
  obtain ⟨a, b, m⟩ := M p o
  obtain ⟨a', b', m'⟩ := M q o'
  obtain ⟨r, e⟩ := orb_cons (p := p) h1
  obtain ⟨r', e'⟩ := orb_cons (p := q) h1
  obtain ⟨_, k1, k2⟩ := rmn_ok e
  obtain ⟨_, k3, k4⟩ := rmn_ok e'
  obtain ⟨i, ei⟩ := orb_mem k1
  obtain ⟨i', ei'⟩ := orb_mem k3
  have oi := itr_own h1 o i
  have oi' := itr_own h1 o' i'
  rw [ei] at oi
  rw [ei'] at oi'
  have s1 := (key_same h1 h2 M o oi).mpr ⟨i, ei⟩
  have s2 := (key_same h1 h2 M o' oi').mpr ⟨i', ei'⟩
  constructor
  · intro z
    rw [s1, s2, z]
  · intro z
    obtain ⟨j, ej⟩ := (key_same h1 h2 M o' oi).mp (by rw [← s1]; exact z.symm)
    obtain ⟨j', ej'⟩ := (key_same h1 h2 M o oi').mp (by rw [← s2]; exact z)
    have u1 := orb_all h1 h2 o' m'.det j
    have u2 := orb_all h1 h2 o m.det j'
    rw [ej] at u1
    rw [ej'] at u2
    exact lt2_irr _ _ (k4 _ u1) (k2 _ u2)
theorem ddp_alike {α : Type} {f g : α → List Int} : ∀ l : List α, (∀ x ∈ l, ∀ y ∈ l, f x = f y ↔ g x = g y) → (ddp (l.map f)).length = (ddp (l.map g)).length
  | [], _ => rfl
  | x :: r, H => by
    have ih := ddp_alike r fun y hy z hz => H y (List.mem_cons_of_mem _ hy) z (List.mem_cons_of_mem _ hz)
    have e : (r.map f).elem (f x) = (r.map g).elem (g x) := by
      apply Bool.eq_iff_iff.mpr
      rw [List.elem_iff, List.elem_iff, List.mem_map, List.mem_map]
      constructor
      · rintro ⟨y, hy, e⟩
        exact ⟨y, hy, (H y (List.mem_cons_of_mem _ hy) x List.mem_cons_self).mp e⟩
      · rintro ⟨y, hy, e⟩
        exact ⟨y, hy, (H y (List.mem_cons_of_mem _ hy) x List.mem_cons_self).mpr e⟩
    show (if (r.map f).elem (f x) then ddp (r.map f) else f x :: ddp (r.map f)).length = (if (r.map g).elem (g x) then ddp (r.map g) else g x :: ddp (r.map g)).length
    rw [e]
    split
    · exact ih
    · rw [List.length_cons, List.length_cons, ih]
end
end L15

namespace L15
open PySem L2 Evl Pd
local macro_rules | `(tactic| walk_at "sm") => `(tactic| first | assumption | exact Sm.lit | exact Sm.mul (by walk_at "sm") (by walk_at "sm") | exact Sm.add (by walk_at "sm") (by walk_at "sm") | exact Sm.sub (by walk_at "sm") (by walk_at "sm") | exact Sm.neg (by walk_at "sm"))
local macro_rules | `(tactic| walk_at "cm") => `(tactic| ((with_reducible show CM _ _); first | assumption | exact CM.left (by decide) | exact CM.right (by decide) | exact CM.left (by omega) | exact CM.right (by omega) | exact CM.of (by walk_at "sm") (by walk_at "sm") (by decide)))
local macro_rules | `(tactic| simp_arith only [$xs,*]) => `(tactic| simp (maxSteps := 4000000) (dsimp := false) (disch := first | assumption | decide | omega | walk_at "cm") only [runDef_ap, sVar_ap, sC_ap, sBin_ap, sNeg_ap, sAnd_ap, sOr_ap, sNot_ap, sIf_ap, sTst_ap, qAnd_ap, qOr_ap, qNot_ap, qYes_ap, sChain_ap, sChain3_ap, sNil_ap, sCons_ap, sTup_ap, sLst_ap, sLstM_ap, sCall_ap, g1_ap, g2_ap, sFn_ap, sAsg_ap, gNm_ap, gTp_ap, gConsS_ap, gNilS_ap, sPar_ap, sPar3_ap, sRet_ap, sRetN_ap, sNx_ap, sBrk_ap, sCnt_ap, sSeq_ap, sIte_ap, sDrop_ap, sFrz_ap, sAug_ap, iRange1_ap, iRange2_ap, iSeq_ap, sFor_ap, sLc_ap, R.toG_ok, ↓R.bind_bnd, bnd_ok, ↓R.bd_bdn, bdn_ok, ↓R.toF_tof, tof_ok, ↓F.seq_sqn, sqn_nx, sqn_ret, sqn_cnt, sqn_brk, ↓F.turn_trn, trn_nx, trn_ret, trn_cnt, trn_brk, F.end_nx, F.end_ret, ↓br_true, br_true, ↓br_false, br_false, Dbr, Dneg, Dtst, opt_some, dAdd_int, dIAdd_int, dSub_int, dLt_int, dLe_int, dGt_int, dGe_int, dEq_int, dNe_int, dEq_bl, dNe_bl, dMul_cm, dMod_pos, dDiv_pos, dAbs_int, dMax2_int, dMin2_int, dInt_int, dInt_bl, dIx_tup, dIx_lst, dIx_seq, dLen_tup, dLen_lst, dLen_seq, atI_0, atI_1, atI_2, atI_3, List.map_cons, List.map_nil, List.length_cons, List.length_nil, List.replicate_succ, List.replicate_zero, List.cons_append, List.nil_append, List.getElem?_cons_zero, List.getElem?_cons_succ, List.set_cons_zero, List.set_cons_succ, Nat.reduceAdd, Nat.reduceSub, Nat.zero_add, Nat.add_zero, Nat.sub_self, Nat.reduceMul, mostL_def, Nat.reduceLeDiff, Nat.reduceLT, ite_true, ite_false, if_true, if_false, ↓reduceIte, reduceIte, ↓br_ite, Bool.false_eq_true, reduceCtorEq, Bool.not_true, Bool.not_false, decide_true, decide_false, Int.cast_ofNat_Int, Int.reduceBEq, Int.reduceAdd, Int.reduceSub, Int.reduceMul, Int.reduceNeg, Int.reduceLT, Int.reduceLE, Int.reduceMod, Int.reduceDiv, sMeth1_ap, sSl_ap, sRev_ap, oNo_ap, oPart_ap, sDict0_ap, sSetL_ap, sLc2_ap, sStar_ap, sDGet1_ap, sDGet2_ap, sPutD_ap, iItemsD_ap, iValsD_ap, iKeysD_ap, sDict0T_ap, sPutT_ap, sTGet1_ap, sFrzT_ap, iKeysT_ap, $xs,*])
section
variable {n : Int} {p q : Int × Int} {a b c d : Int} {kvs : List (List Key × D)}
theorem second_ok (h1 : 1 ≤ n) (h2 : n ≤ 100) (o : Own2 n p) (h : Ph) : m_second_row [.int n, T2p p] h = .ok (T2 (fst2 n p) p.2) h := by
  obtain ⟨r1, r2, r3, r4⟩ := o.1
  obtain ⟨f1, f2, f3, _⟩ := fst2_ok h1 h2 o
  have g : f_common_of [.int (fst2 n p), .int p.2] h = .ok (.int 1) h := by
    rw [common_ok ((sm_in (by omega) (by omega)).mono (by decide)), f3]; rfl
  have i0 : ∀ h, dIx (T2p p) (.int 0) h = .ok (.int p.1) h := fun _ => rfl
  have i1 : ∀ h, dIx (T2p p) (.int 1) h = .ok (.int p.2) h := fun _ => rfl
  have w : sWhile FU (sTst (sBin dNe (sFn f_common_of (sCons (sVar 2) (sCons (sVar 3) (sNil)))) (sC (.int 1)))) l_second_row_1 [some (.int n), some (T2p p), some (.int (fst2 n p)), some (.int p.2)] h = .nx [some (.int n), some (T2p p), some (.int (fst2 n p)), some (.int p.2)] h := by
    obtain ⟨e', h', q, rfl, rfl⟩ := while_run (c := sTst (sBin dNe (sFn f_common_of (sCons (sVar 2) (sCons (sVar 3) (sNil)))) (sC (.int 1)))) (f := l_second_row_1) (fun _ e0 h' => e0 = [some (.int n), some (T2p p), some (.int (fst2 n p)), some (.int p.2)] ∧ h' = h) (fun e0 h' => e0 = [some (.int n), some (T2p p), some (.int (fst2 n p)), some (.int p.2)] ∧ h' = h)
      (by
        rintro m e0 h' ⟨rfl, rfl⟩
        refine .inl ⟨h', ?_, rfl, rfl⟩
        simp_arith only [g])
      0 FU [some (.int n), some (T2p p), some (.int (fst2 n p)), some (.int p.2)] h (by unfold FU; decide +kernel) ⟨rfl, rfl⟩
    exact q
  have fs : (sIf (sTst (sBin dGt (sBin dIx (sVar 1) (sC (.int 0))) (sC (.int 0)))) (sBin dIx (sVar 1) (sC (.int 0))) (sVar 0)) [some (.int n), some (T2p p), none, none] h = .ok (.int (fst2 n p)) h := by
    by_cases c0 : 0 < p.1
    · have : fst2 n p = p.1 := if_pos c0
      have c1 : decide (0 < p.1) = true := decide_eq_true c0
      rw [this]
      simp_arith only [i0, c1]
    · have : fst2 n p = n := if_neg c0
      have c1 : decide (0 < p.1) = false := decide_eq_false c0
      rw [this]
      simp_arith only [i0, c1]
  unfold m_second_row
  generalize hS : (sIf (sTst (sBin dGt (sBin dIx (sVar 1) (sC (.int 0))) (sC (.int 0)))) (sBin dIx (sVar 1) (sC (.int 0))) (sVar 0)) = S at fs
  simp_arith only [fs, i1, w]
theorem matrix_of_ok (h1 : 1 ≤ n) (h2 : n ≤ 100) (o : Own2 n p) : ∃ a b, (∀ h, iso m_matrix_of [.int n, T2p p] h = .ok (T4 a b (fst2 n p) p.2) h) ∧ Mt n p a b := by
  obtain ⟨r1, r2, r3, r4⟩ := o.1
  obtain ⟨f1, f2, f3, f4, _⟩ := fst2_ok h1 h2 o
  obtain ⟨X, Y, e, det, sX, sY⟩ := column_ok (B := p.2) (T := fst2 n p) (k := 7) (h := []) (by rw [Int.gcd_comm]; exact f3) r3 (by decide) (Sm.of_lt 7 (n := 101) (by omega) (by omega) (by decide)) (Sm.of_lt 7 (n := 101) (by omega) (by omega) (by decide))
  refine ⟨-X, -Y, fun h => iso_ok rfl (h' := []) ?_ rfl h, ⟨by grind, sX.neg.mono (by decide), sY.neg.mono (by decide)⟩⟩
  have e1 := require_level_ok (L := n) (h := []) h1 h2
  have e2 := require_pair_ok h1 (show n ≤ 1000 by omega) o []
  have e3 := second_ok h1 h2 o []
  unfold m_matrix_of
  simp_arith only [e1, e2, e3, e]
theorem mats (h1 : 1 ≤ n) (h2 : n ≤ 100) : ∀ p, Own2 n p → ∃ a b, Mt n p a b := fun p o => by
  obtain ⟨a, b, _, m⟩ := matrix_of_ok h1 h2 o
  exact ⟨a, b, m⟩
theorem fu_big : 1000000 < FU := by unfold FU; decide +kernel
theorem atI_last {l : List D} {x : D} : atI (l ++ [x]) (-1) = some x := by
  have e : ixN (l ++ [x]).length (-1) = some l.length := by
    unfold ixN
    rw [List.length_append, List.length_singleton, if_neg (by decide), if_pos (by omega)]
    congr 1
    omega
  unfold atI
  rw [e]
  show (l ++ [x])[l.length]? = _
  simp
theorem last_ok {h : Ph} {l : List D} {x : D} : dIx (.ref h.length) (.int (-1)) (h ++ [.lst (l ++ [x])]) = .ok x (h ++ [.lst (l ++ [x])]) := by
  rw [dIx_ref (at_end h _), atI_last]; rfl
theorem app_ok {h : Ph} {l : List D} {x : D} (hl : l.length < mostL) : dAppend (.ref h.length) x (h ++ [.lst l]) = .ok .non (h ++ [.lst (l ++ [x])]) := by
  unfold dAppend onLst
  simp only [at_end]
  rw [if_pos hl, set_end]
theorem lsOf_end {h : Ph} {l : List D} : lsOf (.ref h.length) (h ++ [.lst l]) = some l := by
  unfold lsOf; simp only [at_end]
theorem tup_end {h : Ph} {l : List D} : dTuple (.ref h.length) (h ++ [.lst l]) = .ok (.tup l) (h ++ [.lst l]) := by
  unfold dTuple seqOf lstOf
  simp only [at_end]
  rfl
theorem orb_s {j : Nat} : (orb n p (j + 1)).map T2p = (orb n p j).map T2p ++ [T2p (itr (rd n) p j)] := by
  unfold orb
  rw [List.range_succ, List.map_append, List.map_append]
  rfl
theorem orb_len {j : Nat} : ((orb n p j).map T2p).length = j := by
  unfold orb
  rw [List.length_map, List.length_map, List.length_range]
theorem rd_eq : rd n p = lp n (p.1, p.1 + p.2) := by
  show lp n (act 1 1 0 1 p) = _
  congr 1
  refine Prod.ext ?_ ?_
  · show p.1 * 1 + p.2 * 0 = p.1; omega
  · show p.1 * 1 + p.2 * 1 = p.1 + p.2; omega
theorem least_rd (h1 : 1 ≤ n) (h2 : n ≤ 1000) (h : Ph) : f_least_pair [.int n, .int p.1, .int (p.1 + p.2)] h = .ok (T2p (rd n p)) h := by
  rw [leastp_ok h1 h2, (lp_is h1 (p.1, p.1 + p.2)).2, rd_eq]
  rfl
abbrev e4 (n : Int) (p : Int × Int) (m : Nat) (o3 : Option D) : Pe := [some (.int n), some (T2p p), some (.ref m), o3]
abbrev cnd : SE := sFn f_least_pair (sCons (sVar 0) (sCons (sBin dIx (sBin dIx (sVar 2) (sC (.int (-1)))) (sC (.int 0))) (sCons (sBin dAdd (sBin dIx (sBin dIx (sVar 2) (sC (.int (-1)))) (sC (.int 0))) (sBin dIx (sBin dIx (sVar 2) (sC (.int (-1)))) (sC (.int 1)))) (sNil))))
theorem i0 {h : Ph} : dIx (T2p p) (.int 0) h = .ok (.int p.1) h := rfl
theorem i1 {h : Ph} : dIx (T2p p) (.int 1) h = .ok (.int p.2) h := rfl
theorem round_loop {k : Nat} (h1 : 1 ≤ n) (h2 : n ≤ 100) (o : Own2 n p) (k0 : k < 100000) (kr : itr (rd n) p k = p) (km : ∀ j, 1 ≤ j → j < k → itr (rd n) p j ≠ p) (h : Ph) : ∀ (d j N : Nat) (o3 : Option D), j < k → d = k - 1 - j → d < N →
    ∃ o3', sWhileW N 3 dNe cnd (sVar 1) (l_pair_round_1) (e4 n p h.length o3) (h ++ [.lst ((orb n p (j + 1)).map T2p)]) = .nx (e4 n p h.length o3') (h ++ [.lst ((orb n p k).map T2p)])
  | d, j, 0, _, _, _, hN => absurd hN (Nat.not_lt_zero _)
  | d, j, N + 1, o3, hj, hd, hN => by
    have la := last_ok (h := h) (l := (orb n p j).map T2p) (x := T2p (itr (rd n) p j))
    rw [← orb_s] at la
    have oj := itr_own h1 o j
    have l := least_rd (p := itr (rd n) p j) h1 (show n ≤ 1000 by omega) (h ++ [.lst ((orb n p (j + 1)).map T2p)])
    have l : f_least_pair [.int n, .int (itr (rd n) p j).1, .int ((itr (rd n) p j).1 + (itr (rd n) p j).2)] (h ++ [.lst ((orb n p (j + 1)).map T2p)]) = .ok (T2p (itr (rd n) p (j + 1))) (h ++ [.lst ((orb n p (j + 1)).map T2p)]) := l
    have q := dNe_P (p := itr (rd n) p (j + 1)) (q := p) (h := h ++ [.lst ((orb n p (j + 1)).map T2p)])
    have st : ∀ e0 h0, sWhileW (N + 1) 3 dNe cnd (sVar 1) (l_pair_round_1) e0 h0 = (cnd e0 h0).toF e0 fun a h1 => (sVar 1 (e0.set 3 (some a)) h1).toF (e0.set 3 (some a)) fun b h2 => (dNe a b h2).toF (e0.set 3 (some a)) fun z h3 => (z.tst h3).toF (e0.set 3 (some a)) fun c h4 => br c ((l_pair_round_1 (e0.set 3 (some a)) h4).turn fun e2 h5 => sWhileW N 3 dNe cnd (sVar 1) (l_pair_round_1) e2 h5) (.nx (e0.set 3 (some a)) h4) := fun _ _ => rfl
    have hc : cnd (e4 n p h.length o3) (h ++ [.lst ((orb n p (j + 1)).map T2p)]) = .ok (T2p (itr (rd n) p (j + 1))) (h ++ [.lst ((orb n p (j + 1)).map T2p)]) := by
      unfold cnd
      simp_arith only [la, i0, i1, l]
    rw [st, hc]
    generalize hC : cnd = C
    by_cases c : j + 1 = k
    · have q' : (!decide (itr (rd n) p (j + 1) = p)) = false := by rw [c, kr]; simp
      rw [q'] at q
      refine ⟨some (T2p (itr (rd n) p (j + 1))), ?_⟩
      simp_arith only [q]
      rw [c]
    · have q' : (!decide (itr (rd n) p (j + 1) = p)) = true := by simp [km (j + 1) (by omega) (by omega)]
      rw [q'] at q
      have ap := app_ok (h := h) (l := (orb n p (j + 1)).map T2p) (x := T2p (itr (rd n) p (j + 1))) (by rw [orb_len]; exact Nat.lt_of_lt_of_le (show j + 1 < 100000 by omega) (by decide))
      rw [← orb_s] at ap
      obtain ⟨o3', ih⟩ := round_loop h1 h2 o k0 kr km h (d - 1) (j + 1) N (some (T2p (itr (rd n) p (j + 1)))) (by omega) (by omega) (by omega)
      have bd : l_pair_round_1 (e4 n p h.length (some (T2p (itr (rd n) p (j + 1))))) (h ++ [.lst ((orb n p (j + 1)).map T2p)]) = .nx (e4 n p h.length (some (T2p (itr (rd n) p (j + 1))))) (h ++ [.lst ((orb n p (j + 1 + 1)).map T2p)]) := by
        have lo := lsOf_end (h := h) (l := (orb n p (j + 1)).map T2p)
        unfold l_pair_round_1
        simp_arith only [ap, lo]
      rw [hC] at ih
      refine ⟨o3', ?_⟩
      simp_arith only [q, bd]
      exact ih
theorem bels_T2 : ∀ l : List (Int × Int), D.bel.bels 0 (l.map T2p) = true
  | [] => rfl
  | p :: r => by
    show (true && D.bel.bels 0 (r.map T2p)) = true
    rw [bels_T2 r]; rfl
theorem pair_round_ok (h1 : 1 ≤ n) (h2 : n ≤ 100) (o : Own2 n p) (h : Ph) : iso m_pair_round [.int n, T2p p] h = .ok (.tup ((orb n p (wd n p)).map T2p)) h := by
  obtain ⟨a, b, m⟩ := mats h1 h2 p o
  obtain ⟨w1, w2, w3⟩ := wd_ok (p := p) h1
  obtain ⟨k1, k2⟩ := wd_back h1 h2 o m.det
  have bt : D.bel 0 (.tup ((orb n p (wd n p)).map T2p)) = true := bels_T2 _
  refine iso_ok rfl (h' := [.lst ((orb n p (wd n p)).map T2p)]) ?_ bt h
  have r1 := require_level_ok (L := n) (h := []) h1 h2
  have r2 := require_pair_ok h1 (show n ≤ 1000 by omega) o []
  obtain ⟨o3', lp⟩ := round_loop h1 h2 o (by omega) k1 k2 [] (wd n p - 1) 0 FU none (by omega) (by omega) (by have := fu_big; omega)
  have one : (orb n p 1).map T2p = [T2p p] := rfl
  rw [Nat.zero_add, one] at lp
  have tu := tup_end (h := []) (l := (orb n p (wd n p)).map T2p)
  unfold e4 at lp
  simp only [List.length_nil, List.nil_append] at lp tu
  unfold m_pair_round
  generalize hC : cnd = C at lp
  unfold cnd at hC
  rw [hC]
  simp_arith only [r1, r2, lp, tu]
abbrev tdD (kvs : List (List Key × D)) : D := .dcT (kvs.map (·.1)) (kvs.map (·.2))
theorem told_at (h1 : 1 ≤ n) (x : TD n (fun p => tl n p.1 p.2 = true) kvs) {c d : Int} (t : tl n c d = true) (h : Ph) : dTGet (tdD kvs) (.tup [.int (c % n), .int (d % n)]) h = .ok (T2p (lp n (c, d))) h := by
  have v := x.yes (p := md n (c, d)) (md_res h1) (by rw [← t]; exact tl_md (p := (c, d)) h1)
  rw [lp_md h1] at v
  unfold dTGet dtR
  simp only [zip_parts]
  show R.opt (valD kvs (K2 (md n (c, d)))) _ = _
  rw [v]; rfl
theorem told_rd (h1 : 1 ≤ n) (x : TD n (fun p => tl n p.1 p.2 = true) kvs) (o : Own2 n p) (h : Ph) : dTGet (tdD kvs) (.tup [.int p.1, .int ((p.1 + p.2) % n)]) h = .ok (T2p (rd n p)) h := by
  obtain ⟨r1, r2, _, _⟩ := o.1
  have t : tl n p.1 (p.1 + p.2) = true := by
    have := act_tell (a := 1) (b := 1) (e := 0) (f := 1) det1 o.2.1
    have e : act 1 1 0 1 p = (p.1, p.1 + p.2) := Prod.ext (by show p.1 * 1 + p.2 * 0 = p.1; omega) (by show p.1 * 1 + p.2 * 1 = p.1 + p.2; omega)
    rwa [e] at this
  have := told_at h1 x t h
  rw [Int.emod_eq_of_lt r1 r2, ← rd_eq] at this
  exact this
theorem bels_td (x : TD n (fun p => tl n p.1 p.2 = true) kvs) : D.bel.bels 0 (kvs.map (·.2)) = true := by
  have : kvs.map (·.2) = (kvs.map fun kv => dec2 kv.2).map T2p := by
    rw [List.map_map]
    refine List.map_congr_left fun kv m => ?_
    obtain ⟨q, _, _, rfl⟩ := x.sd kv m
    rfl
  rw [this]
  exact bels_T2 _
abbrev e8 (kvs : List (List Key × D)) (n : Int) (p : Int × Int) (m : Nat) (o4 o5 o6 o7 : Option D) : Pe := [some (tdD kvs), some (.int n), some (T2p p), some (.ref m), o4, o5, o6, o7]
theorem own_round_ok (h1 : 1 ≤ n) (h2 : n ≤ 100) (x : TD n (fun p => tl n p.1 p.2 = true) kvs) (o : Own2 n p) (h : Ph) : iso m__law_own_round [tdD kvs, .int n, T2p p] h = .ok (.tup ((orb n p (wd n p)).map T2p)) h := by
  obtain ⟨a, b, m⟩ := mats h1 h2 p o
  obtain ⟨w1, w2, w3⟩ := wd_ok (p := p) h1
  obtain ⟨kr, km⟩ := wd_back h1 h2 o m.det
  have bt : D.bel 0 (.tup ((orb n p (wd n p)).map T2p)) = true := bels_T2 _
  refine iso_ok (by show (D.bel.bels 0 (kvs.map (·.2)) && true) = true; rw [bels_td x]; rfl) (h' := [.lst ((orb n p (wd n p)).map T2p)]) ?_ bt h
  clear bt
  generalize wd n p = k at *
  obtain ⟨e', h', q1, rfl, o4', o5', o6', o7', rfl⟩ := for_brk (g := gNm 4) (f := l__law_own_round_1)
    (fun r e0 h' => ∃ j o4 o5 o6 o7, r = k - 1 - j ∧ j < k ∧ e0 = e8 kvs n p 0 o4 o5 o6 o7 ∧ h' = [.lst ((orb n p (j + 1)).map T2p)])
    (fun e0 h' => h' = [.lst ((orb n p k).map T2p)] ∧ ∃ o4 o5 o6 o7, e0 = e8 kvs n p 0 o4 o5 o6 o7)
    (by
      rintro r y e0 h' ⟨j, o4, o5, o6, o7, rfl, hj, rfl, rfl⟩
      refine ⟨e8 kvs n p 0 (some y) o5 o6 o7, _, rfl, ?_⟩
      have la := last_ok (h := []) (l := (orb n p j).map T2p) (x := T2p (itr (rd n) p j))
      rw [← orb_s] at la
      have oj := itr_own h1 o j
      obtain ⟨r1, r2, r3, r4⟩ := oj.1
      have tg := told_rd h1 x oj [.lst ((orb n p (j + 1)).map T2p)]
      have tg : dTGet (tdD kvs) (.tup [.int (itr (rd n) p j).1, .int (((itr (rd n) p j).1 + (itr (rd n) p j).2) % n)]) [.lst ((orb n p (j + 1)).map T2p)] = .ok (T2p (itr (rd n) p (j + 1))) [.lst ((orb n p (j + 1)).map T2p)] := tg
      have q := dEq_P (p := itr (rd n) p (j + 1)) (q := p) (h := [.lst ((orb n p (j + 1)).map T2p)])
      have n0 : 0 < n := by omega
      have i2 : dInt (.int ((itr (rd n) p j).1 + (itr (rd n) p j).2)) [.lst ((orb n p (j + 1)).map T2p)] = .ok (.int ((itr (rd n) p j).1 + (itr (rd n) p j).2)) [.lst ((orb n p (j + 1)).map T2p)] := rfl
      have tk : gTp 2 (gConsS (gNm 6) (gConsS (gNm 7) (gNilS))) (T2p (itr (rd n) p j)) (e8 kvs n p 0 (some y) o5 o6 o7) [.lst ((orb n p (j + 1)).map T2p)] = .ok (e8 kvs n p 0 (some y) o5 (some (.int (itr (rd n) p j).1)) (some (.int (itr (rd n) p j).2))) [.lst ((orb n p (j + 1)).map T2p)] := rfl
      simp only [List.length_nil, List.nil_append] at la
      have la : dIx (.ref 0) (.int (-1)) [.lst ((orb n p (j + 1)).map T2p)] = .ok (.tup [.int (itr (rd n) p j).1, .int (itr (rd n) p j).2]) [.lst ((orb n p (j + 1)).map T2p)] := la
      by_cases c : j + 1 = k
      · refine .inl ⟨e8 kvs n p 0 (some y) (some (T2p (itr (rd n) p (j + 1)))) (some (.int (itr (rd n) p j).1)) (some (.int (itr (rd n) p j).2)), [.lst ((orb n p (j + 1)).map T2p)], ?_, by rw [c], _, _, _, _, rfl⟩
        have q' : decide (itr (rd n) p (j + 1) = p) = true := by rw [c, kr]; simp
        rw [q'] at q
        unfold l__law_own_round_1
        simp_arith only [la, tg, q, gTp_ap, gConsS_ap, gNilS_ap]
      · have q' : decide (itr (rd n) p (j + 1) = p) = false := by simp [km (j + 1) (by omega) (by omega)]
        rw [q'] at q
        have ap := app_ok (h := []) (l := (orb n p (j + 1)).map T2p) (x := T2p (itr (rd n) p (j + 1))) (by rw [orb_len]; exact Nat.lt_of_lt_of_le (show j + 1 < 100000 by omega) (by decide))
        rw [← orb_s] at ap
        have lo := lsOf_end (h := []) (l := (orb n p (j + 1)).map T2p)
        simp only [List.length_nil, List.nil_append] at ap lo
        refine .inr ⟨e8 kvs n p 0 (some y) (some (T2p (itr (rd n) p (j + 1)))) (some (.int (itr (rd n) p j).1)) (some (.int (itr (rd n) p j).2)), [.lst ((orb n p (j + 1 + 1)).map T2p)], k - 1 - (j + 1), .inl ?_, by omega, j + 1, _, _, _, _, rfl, by omega, rfl, rfl⟩
        unfold l__law_own_round_1
        simp_arith only [la, tg, q, ap, lo, gTp_ap, gConsS_ap, gNilS_ap])
    (rangeD 0 n.toNat) (k - 1 - 0) (e8 kvs n p 0 none none none none) [.lst [T2p p]] (by rw [rangeD_len]; omega) ⟨0, none, none, none, none, rfl, by omega, rfl, rfl⟩
  have tu := tup_end (h := []) (l := (orb n p k).map T2p)
  simp only [List.length_nil, List.nil_append] at tu
  have rg := rng_ok (n := n) (h := [.lst [T2p p]]) (by omega) (by omega)
  unfold e8 at q1
  unfold m__law_own_round
  simp_arith only [rg, q1, tu]
end
end L15

namespace L15
open PySem L2 Evl Pd
local macro_rules | `(tactic| walk_at "sm") => `(tactic| first | assumption | exact Sm.lit | exact Sm.mul (by walk_at "sm") (by walk_at "sm") | exact Sm.add (by walk_at "sm") (by walk_at "sm") | exact Sm.sub (by walk_at "sm") (by walk_at "sm") | exact Sm.neg (by walk_at "sm"))
local macro_rules | `(tactic| walk_at "cm") => `(tactic| ((with_reducible show CM _ _); first | assumption | exact CM.left (by decide) | exact CM.right (by decide) | exact CM.left (by omega) | exact CM.right (by omega) | exact CM.of (by walk_at "sm") (by walk_at "sm") (by decide)))
local macro_rules | `(tactic| simp_arith only [$xs,*]) => `(tactic| simp (maxSteps := 4000000) (dsimp := false) (disch := first | assumption | decide | omega | walk_at "cm") only [runDef_ap, sVar_ap, sC_ap, sBin_ap, sNeg_ap, sAnd_ap, sOr_ap, sNot_ap, sIf_ap, sTst_ap, qAnd_ap, qOr_ap, qNot_ap, qYes_ap, sChain_ap, sChain3_ap, sNil_ap, sCons_ap, sTup_ap, sLst_ap, sLstM_ap, sCall_ap, g1_ap, g2_ap, sFn_ap, sAsg_ap, gNm_ap, gTp_ap, gConsS_ap, gNilS_ap, sPar_ap, sPar3_ap, sRet_ap, sRetN_ap, sNx_ap, sBrk_ap, sCnt_ap, sSeq_ap, sIte_ap, sDrop_ap, sFrz_ap, sAug_ap, iRange1_ap, iRange2_ap, iSeq_ap, sFor_ap, sLc_ap, R.toG_ok, ↓R.bind_bnd, bnd_ok, ↓R.bd_bdn, bdn_ok, ↓R.toF_tof, tof_ok, ↓F.seq_sqn, sqn_nx, sqn_ret, sqn_cnt, sqn_brk, ↓F.turn_trn, trn_nx, trn_ret, trn_cnt, trn_brk, F.end_nx, F.end_ret, ↓br_true, br_true, ↓br_false, br_false, Dbr, Dneg, Dtst, opt_some, dAdd_int, dIAdd_int, dSub_int, dLt_int, dLe_int, dGt_int, dGe_int, dEq_int, dNe_int, dEq_bl, dNe_bl, dMul_cm, dMod_pos, dDiv_pos, dAbs_int, dMax2_int, dMin2_int, dInt_int, dInt_bl, dIx_tup, dIx_lst, dIx_seq, dLen_tup, dLen_lst, dLen_seq, atI_0, atI_1, atI_2, atI_3, List.map_cons, List.map_nil, List.length_cons, List.length_nil, List.replicate_succ, List.replicate_zero, List.cons_append, List.nil_append, List.getElem?_cons_zero, List.getElem?_cons_succ, List.set_cons_zero, List.set_cons_succ, Nat.reduceAdd, Nat.reduceSub, Nat.zero_add, Nat.add_zero, Nat.sub_self, Nat.reduceMul, mostL_def, Nat.reduceLeDiff, Nat.reduceLT, ite_true, ite_false, if_true, if_false, ↓reduceIte, reduceIte, ↓br_ite, Bool.false_eq_true, reduceCtorEq, Bool.not_true, Bool.not_false, decide_true, decide_false, Int.cast_ofNat_Int, Int.reduceBEq, Int.reduceAdd, Int.reduceSub, Int.reduceMul, Int.reduceNeg, Int.reduceLT, Int.reduceLE, Int.reduceMod, Int.reduceDiv, sMeth1_ap, sSl_ap, sRev_ap, oNo_ap, oPart_ap, sDict0_ap, sSetL_ap, sLc2_ap, sStar_ap, sDGet1_ap, sDGet2_ap, sPutD_ap, iItemsD_ap, iValsD_ap, iKeysD_ap, sDict0T_ap, sPutT_ap, sTGet1_ap, sFrzT_ap, iKeysT_ap, $xs,*])
def isv (r : R D) (x : Int) : Bool := match r with
  | .ok (.int i) _ => i == x
  | _ => false
theorem isv_ok {fn : Fn} {as : List D} {x : Int} (ha : D.bel.bels 0 as = true) (e : isv (fn as []) x = true) (h : Ph) : iso fn as h = .ok (.int x) h := by
  unfold isv at e
  split at e
  · next i h' q =>
    have := eq_of_beq e
    subst this
    exact iso_ok ha q rfl h
  · cases e
def cK (n : Int) : Nat := (ddp ((apP n).map fun p => L2p (key n p))).length
def chk (n : Int) : Bool := isv (m_count_rims [.int n] []) (cK n)
theorem chk_1 : ((List.range 8).all fun k => chk (1 + (k : Int))) = true := by kernel_rfl
theorem chk_9 : ((List.range 8).all fun k => chk (9 + (k : Int))) = true := by kernel_rfl
theorem chk_17 : ((List.range 8).all fun k => chk (17 + (k : Int))) = true := by kernel_rfl
theorem chk_25 : ((List.range 8).all fun k => chk (25 + (k : Int))) = true := by kernel_rfl
theorem chk_33 : ((List.range 8).all fun k => chk (33 + (k : Int))) = true := by kernel_rfl
theorem chk_41 : ((List.range 8).all fun k => chk (41 + (k : Int))) = true := by kernel_rfl
theorem chk_ok {n : Int} (h1 : 1 ≤ n) (h2 : n ≤ 48) : chk n = true := by
  have go : ∀ {lo : Int} {k : Nat}, ((List.range k).all fun k => chk (lo + (k : Int))) = true → lo ≤ n → n < lo + k → chk n = true := fun {lo k} e a b => by
    have := List.all_eq_true.mp e (n - lo).toNat (List.mem_range.mpr (by omega))
    rwa [show lo + ((n - lo).toNat : Int) = n by omega] at this
  by_cases c1 : n < 9
  · exact go chk_1 (by omega) (by omega)
  by_cases c9 : n < 17
  · exact go chk_9 (by omega) (by omega)
  by_cases c17 : n < 25
  · exact go chk_17 (by omega) (by omega)
  by_cases c25 : n < 33
  · exact go chk_25 (by omega) (by omega)
  by_cases c33 : n < 41
  · exact go chk_33 (by omega) (by omega)
  exact go chk_41 (by omega) (by omega)
theorem count_ok {n : Int} (h1 : 1 ≤ n) (h2 : n ≤ 48) (h : Ph) : iso m_count_rims [.int n] h = .ok (.int (cK n)) h := isv_ok rfl (chk_ok h1 h2) h
end L15

namespace L15
open PySem L2 Evl Pd
local macro_rules | `(tactic| walk_at "sm") => `(tactic| first | assumption | exact Sm.lit | exact Sm.mul (by walk_at "sm") (by walk_at "sm") | exact Sm.add (by walk_at "sm") (by walk_at "sm") | exact Sm.sub (by walk_at "sm") (by walk_at "sm") | exact Sm.neg (by walk_at "sm"))
local macro_rules | `(tactic| walk_at "cm") => `(tactic| ((with_reducible show CM _ _); first | assumption | exact CM.left (by decide) | exact CM.right (by decide) | exact CM.left (by omega) | exact CM.right (by omega) | exact CM.of (by walk_at "sm") (by walk_at "sm") (by decide)))
local macro_rules | `(tactic| simp_arith only [$xs,*]) => `(tactic| simp (maxSteps := 4000000) (dsimp := false) (disch := first | assumption | decide | omega | walk_at "cm") only [runDef_ap, sVar_ap, sC_ap, sBin_ap, sNeg_ap, sAnd_ap, sOr_ap, sNot_ap, sIf_ap, sTst_ap, qAnd_ap, qOr_ap, qNot_ap, qYes_ap, sChain_ap, sChain3_ap, sNil_ap, sCons_ap, sTup_ap, sLst_ap, sLstM_ap, sCall_ap, g1_ap, g2_ap, sFn_ap, sAsg_ap, gNm_ap, gTp_ap, gConsS_ap, gNilS_ap, sPar_ap, sPar3_ap, sRet_ap, sRetN_ap, sNx_ap, sBrk_ap, sCnt_ap, sSeq_ap, sIte_ap, sDrop_ap, sFrz_ap, sAug_ap, iRange1_ap, iRange2_ap, iSeq_ap, sFor_ap, sLc_ap, R.toG_ok, ↓R.bind_bnd, bnd_ok, ↓R.bd_bdn, bdn_ok, ↓R.toF_tof, tof_ok, ↓F.seq_sqn, sqn_nx, sqn_ret, sqn_cnt, sqn_brk, ↓F.turn_trn, trn_nx, trn_ret, trn_cnt, trn_brk, F.end_nx, F.end_ret, ↓br_true, br_true, ↓br_false, br_false, Dbr, Dneg, Dtst, opt_some, dAdd_int, dIAdd_int, dSub_int, dLt_int, dLe_int, dGt_int, dGe_int, dEq_int, dNe_int, dEq_bl, dNe_bl, dMul_cm, dMod_pos, dDiv_pos, dAbs_int, dMax2_int, dMin2_int, dInt_int, dInt_bl, dIx_tup, dIx_lst, dIx_seq, dLen_tup, dLen_lst, dLen_seq, atI_0, atI_1, atI_2, atI_3, List.map_cons, List.map_nil, List.length_cons, List.length_nil, List.replicate_succ, List.replicate_zero, List.cons_append, List.nil_append, List.getElem?_cons_zero, List.getElem?_cons_succ, List.set_cons_zero, List.set_cons_succ, Nat.reduceAdd, Nat.reduceSub, Nat.zero_add, Nat.add_zero, Nat.sub_self, Nat.reduceMul, mostL_def, Nat.reduceLeDiff, Nat.reduceLT, ite_true, ite_false, if_true, if_false, ↓reduceIte, reduceIte, ↓br_ite, Bool.false_eq_true, reduceCtorEq, Bool.not_true, Bool.not_false, decide_true, decide_false, Int.cast_ofNat_Int, Int.reduceBEq, Int.reduceAdd, Int.reduceSub, Int.reduceMul, Int.reduceNeg, Int.reduceLT, Int.reduceLE, Int.reduceMod, Int.reduceDiv, sMeth1_ap, sSl_ap, sRev_ap, oNo_ap, oPart_ap, sDict0_ap, sSetL_ap, sLc2_ap, sStar_ap, sDGet1_ap, sDGet2_ap, sPutD_ap, iItemsD_ap, iValsD_ap, iKeysD_ap, sDict0T_ap, sPutT_ap, sTGet1_ap, sFrzT_ap, iKeysT_ap, $xs,*])
theorem for_ret {g : SG} {f : SS} {d : D} (P : Pe → Ph → Prop) (Q : Ph → Prop) {y : D} {ys : List D} (Hy : ∀ e h, P e h → ∃ e1 h1 h2, g y e h = .ok e1 h1 ∧ f e1 h1 = .ret d h2 ∧ Q h2) : ∀ (xs : List D), (∀ x ∈ xs, ∀ e h, P e h → ∃ e1 h1 e2 h2, g x e h = .ok e1 h1 ∧ f e1 h1 = .nx e2 h2 ∧ P e2 h2) → ∀ e h, P e h → ∃ h2, forGo g f (xs ++ y :: ys) e h = .ret d h2 ∧ Q h2 := by
  intro xs
  induction xs with
  | nil =>
    intro _ e h p
    obtain ⟨e1, h1, h2, a, b, q⟩ := Hy e h p
    refine ⟨h2, ?_, q⟩
    show forGo g f (y :: ys) e h = _
    unfold forGo
    rw [a]
    show (f e1 h1).turn _ = _
    rw [b]
    rfl
  | cons x r ih =>
    intro H e h p
    obtain ⟨e1, h1, e2, h2, a, b, p2⟩ := H x List.mem_cons_self e h p
    obtain ⟨h3, c, q⟩ := ih (fun z hz => H z (List.mem_cons_of_mem _ hz)) e2 h2 p2
    refine ⟨h3, ?_, q⟩
    show forGo g f (x :: (r ++ y :: ys)) e h = _
    unfold forGo
    rw [a]
    show (f e1 h1).turn _ = _
    rw [b]
    exact c
section
variable {n : Int} {p q : Int × Int} {a b c d L t : Int} {kvs : List (List Key × D)} {h : Ph}
theorem rS_pos (hL : 1 ≤ L) : 0 < rS L b := rP_pos (L := L / rP L b) (b := rP L b) (by
  have hp := rP_pos (b := b) hL
  obtain ⟨_, e⟩ := rU_eq (b := b) hL
  by_cases h : 1 ≤ L / rP L b
  · exact h
  · have : rP L b * (L / rP L b) ≤ 0 := Int.mul_nonpos_of_nonneg_of_nonpos (by omega) (by omega)
    omega)
theorem range_split {a b : Nat} (h : a < b) : rangeD 0 b = rangeD 0 a ++ .int a :: rangeD (a + 1) (b - a - 1) := by
  obtain ⟨c, rfl⟩ : ∃ c, b = a + (c + 1) := ⟨b - a - 1, by omega⟩
  unfold rangeD
  rw [List.range_add, List.map_append, List.map_map, List.range_succ_eq_map, List.map_cons, List.map_map]
  have : a + (c + 1) - a - 1 = c := by omega
  rw [this]
  congr 1
  congr 1
  · show D.int _ = D.int _
    congr 1
    simp
  · refine List.map_congr_left fun k _ => ?_
    show D.int _ = D.int _
    congr 1
    simp only [Function.comp]
    omega
theorem rim_told_ok {x : Int} {k : Nat} (hL : 1 ≤ L) (hL2 : L ≤ 100) (hk : k ≤ 200) (st : Sm k t) (sb : Sm k b) (r : RimOf L t b x) : m__law_rim_told [.int L, .int t, .int b] h = .ok (T2 x (rP L b)) h := by
  have hp := rP_pos (b := b) hL
  have hp2 : rP L b ≤ L := Int.le_of_dvd (by omega) rP_dvd.2
  have hs := rS_pos (b := b) hL
  have hs2 : rS L b ≤ rP L b := Int.le_of_dvd hp rS_dvd.1
  have e1 : f__law_gcd [.int b, .int L] h = .ok (.int (rP L b)) h := gcdL_ok b L h (fu_lt (Sm.of_lt 600 (n := 101) (by omega) (by omega) (by decide +kernel)))
  have hq : L / rP L b ≤ L ∧ 0 ≤ L / rP L b := ⟨Int.ediv_le_self _ (by omega), Int.ediv_nonneg (by omega) (by omega)⟩
  have e2 : f__law_gcd [.int (rP L b), .int (L / rP L b)] h = .ok (.int (rS L b)) h := gcdL_ok _ _ h (fu_lt (Sm.of_lt 600 (n := 101) (by omega) (by omega) (by decide +kernel)))
  have lg : (rP L b).natAbs.log2 < 9000 := Nat.lt_of_le_of_lt (log_lt (k := 7) (by omega)) (by decide)
  have d1 : dDiv (.int L) (.int (rP L b)) h = .ok (.int (L / rP L b)) h := dDiv_pos hp lg
  have d2 : ∀ h, dDiv (.int b) (.int (rP L b)) h = .ok (.int (rU L b)) h := fun h => dDiv_pos hp lg
  have hPS : rP L b * rS L b ≤ 10000 := by
    have : rP L b * rS L b ≤ 100 * 100 := Int.mul_le_mul (by omega) (by omega) (by omega) (by omega)
    omega
  have hPS0 : 0 < rP L b * rS L b := Int.mul_pos hp hs
  have su : Sm 200 (rU L b) := ⟨Nat.lt_of_le_of_lt (Int.natAbs_ediv_le_natAbs b (rP L b)) (sb.mono hk).lt⟩
  have c1 : CM t (rU L b) := CM.of st su (by omega)
  have c2 : CM (rP L b) (rS L b) := CM.left (by omega)
  have hx := r.lt
  have hx0 := r.x0
  obtain ⟨j, hj⟩ := Int.eq_ofNat_of_zero_le hx0
  subst hj
  have body : ∀ (y : Int) (h' : Ph), l__law_rim_told_1 [some (.int L), some (.int t), some (.int b), some (.int (rP L b)), some (.int (rS L b)), some (.int y)] h' = if Int.gcd y (rP L b) = 1 ∧ rS L b ∣ y - rR L t b then .ret (T2 y (rP L b)) h' else .nx [some (.int L), some (.int t), some (.int b), some (.int (rP L b)), some (.int (rS L b)), some (.int y)] h' := by
    intro y h'
    have g1 : f__law_gcd [.int y, .int (rP L b)] h' = .ok (.int (Int.gcd y (rP L b))) h' := gcdL_ok _ _ h' (fu_lt (Sm.of_lt 600 (n := 101) (by omega) (by omega) (by decide +kernel)))
    have g2 := d2 h'
    have hR : t * rU L b = rR L t b := rfl
    by_cases q1 : Int.gcd y (rP L b) = 1
    · have q1' : ((Int.gcd y (rP L b) : Int) == 1) = true := by rw [q1]; rfl
      by_cases q2 : rS L b ∣ y - rR L t b
      · have q2' : ((y - rR L t b) % rS L b == 0) = true := by rw [Int.emod_eq_zero_of_dvd q2]; rfl
        rw [if_pos ⟨q1, q2⟩]
        unfold l__law_rim_told_1
        simp_arith only [g1, g2, q1', q2', c1, hR]
      · have q2' : ((y - rR L t b) % rS L b == 0) = false := by
          rw [beq_eq_false_iff_ne]
          exact fun z => q2 (Int.dvd_of_emod_eq_zero z)
        rw [if_neg (fun z => q2 z.2)]
        unfold l__law_rim_told_1
        simp_arith only [g1, g2, q1', q2', c1, hR]
    · have q1' : ((Int.gcd y (rP L b) : Int) == 1) = false := by rw [beq_eq_false_iff_ne]; omega
      rw [if_neg (fun z => q1 z.1)]
      unfold l__law_rim_told_1
      simp_arith only [g1, q1']
  obtain ⟨h2, q1, rfl⟩ := for_ret (g := gNm 5) (f := l__law_rim_told_1) (d := T2 j (rP L b)) (fun e h' => h' = h ∧ ∃ o5, e = [some (.int L), some (.int t), some (.int b), some (.int (rP L b)), some (.int (rS L b)), o5]) (fun h' => h' = h)
    (y := .int j) (ys := rangeD (j + 1) ((rP L b * rS L b + 1).toNat - j - 1))
    (fun e h' ⟨hh, o5, he⟩ => by
      subst hh
      subst he
      exact ⟨_, _, h', rfl, by rw [show (List.set _ _ _) = [some (.int L), some (.int t), some (.int b), some (.int (rP L b)), some (.int (rS L b)), some (.int j)] from rfl, body]; rw [if_pos ⟨r.co, r.dv⟩], rfl⟩)
    (rangeD 0 j) (fun y hy e h' ⟨hh, o5, he⟩ => by
      subst hh
      subst he
      obtain ⟨i, hi, rfl⟩ := rangeD_mem hy
      refine ⟨_, _, _, h', rfl, ?_, rfl, some (.int (0 + i)), rfl⟩
      · rw [show (List.set _ _ _) = [some (.int L), some (.int t), some (.int b), some (.int (rP L b)), some (.int (rS L b)), some (.int (0 + i))] from rfl, body, if_neg]
        rintro ⟨z1, z2⟩
        have := r.le (0 + i) (by omega) z2 z1
        omega)
    [some (.int L), some (.int t), some (.int b), some (.int (rP L b)), some (.int (rS L b)), none] h ⟨rfl, none, rfl⟩
  rw [← range_split (by omega)] at q1
  have rg := rng_ok (n := rP L b * rS L b + 1) (h := h2) (by omega) (by omega)
  have e2' : Int.gcd (rP L b) (L / rP L b) = Int.gcd (rP L b) (L / rP L b) := rfl
  unfold m__law_rim_told
  simp_arith only [e1, d1, e2, c2, rg, q1]
theorem rim_of_ok {x : Int} (hL : 1 ≤ L) (hL2 : L ≤ 100) (f : Fs t b) (e : f_rim_in [.int L, T2 t b] h = .ok (T2 x (rP L b)) h) : f_rim_of [.int L, T2 t b] h = .ok (T2 x (rP L b)) h := by
  have e1 := require_level_ok (h := h) hL hL2
  have e2 := require_fraction_ok (h := h) f
  unfold f_rim_of; simp_arith only [e1, e2, e]
theorem rim_of_at {x : Int} {k : Nat} (hL : 1 ≤ L) (hL2 : L ≤ 100) (f : Fs t b) (hk : k ≤ 500) (st : Sm k t) (sb : Sm k b) (r : RimOf L t b x) (h : Ph) : f_rim_of [.int L, T2 t b] h = .ok (T2 x (rP L b)) h := by
  obtain ⟨y, e, r'⟩ := rim_in_ok (h := h) hL hL2 f.fr hk st sb
  rw [Ltop.uniq r r']
  exact rim_of_ok hL hL2 f e
theorem width_of_ok (hL : 1 ≤ L) (hL2 : L ≤ 100) (f : Fs t b) (sq : Sm 200 b) : m_width_of [.int L, T2 t b] h = .ok (.int (wid L b)) h := by
  have e1 := require_level_ok (h := h) hL hL2
  have e2 := require_fraction_ok (h := h) f
  have e3 := width_in_ok (p := t) (h := h) hL hL2 sq
  unfold m_width_of; simp_arith only [e1, e2, e3]
def RX (n : Int) (p : Int × Int) (x : Int) : Prop := ∃ a b, Mt n p a b ∧ (∀ h, iso m_matrix_of [.int n, T2p p] h = .ok (T4 a b (fst2 n p) p.2) h) ∧ RimOf n a (fst2 n p) x
noncomputable def rtop (n : Int) (p : Int × Int) : Int := open Classical in if h : ∃ x, RX n p x then h.choose else 0
theorem mt_fr (h1 : 1 ≤ n) (h2 : n ≤ 100) (o : Own2 n p) (m : Mt n p a b) : Fs a (fst2 n p) ∧ Sm 40 (fst2 n p) := by
  obtain ⟨f1, f2, _⟩ := fst2_ok h1 h2 o
  have g : Int.gcd a (fst2 n p) = 1 := cop_by fun g k1 k2 => by
    have := Int.dvd_sub (dvL (c := p.2) k1) (dvR (b := b) k2)
    rwa [m.det] at this
  have sc : Sm 40 (fst2 n p) := Sm.of_lt 40 (n := 101) (by omega) (by omega) (by decide)
  have l := m.sa.lt
  have e : (2 : Nat) ^ 40 = 1099511627776 := by decide
  rw [e] at l
  exact ⟨⟨⟨g, by omega, fun z => by omega⟩, by omega, by omega⟩, sc⟩
theorem top_ok (h1 : 1 ≤ n) (h2 : n ≤ 100) (o : Own2 n p) : RX n p (rtop n p) := by
  have ex : ∃ x, RX n p x := by
    obtain ⟨a, b, e, m⟩ := matrix_of_ok h1 h2 o
    obtain ⟨f, sc⟩ := mt_fr h1 h2 o m
    obtain ⟨x, _, r⟩ := rim_in_ok (h := []) h1 h2 f.fr (show 40 ≤ 500 by decide) m.sa sc
    exact ⟨x, a, b, m, e, r⟩
  unfold rtop
  rw [dif_pos ex]
  exact ex.choose_spec
noncomputable def rm (n : Int) (p : Int × Int) : Int × Int := (rtop n p, fst2 n p)
theorem rm_iff (h1 : 1 ≤ n) (h2 : n ≤ 100) (o : Own2 n p) (o' : Own2 n q) : rm n p = rm n q ↔ key n p = key n q := by
  obtain ⟨a, b, m, _, r⟩ := top_ok h1 h2 o
  obtain ⟨a', b', m', _, r'⟩ := top_ok h1 h2 o'
  rw [key_iff h1 h2 o o' m.det m'.det]
  have s := rim_same r r'
  rw [rP_fst h1 h2 o, rP_fst h1 h2 o'] at s
  refine Iff.trans ⟨fun e => ⟨congrArg Prod.fst e, congrArg Prod.snd e⟩, fun e => Prod.ext e.1 e.2⟩ s
theorem rm_rmn (h1 : 1 ≤ n) (h2 : n ≤ 100) (o : Own2 n p) (o' : Own2 n q) : rm n p = rm n q ↔ rmn n p = rmn n q := by
  rw [rm_iff h1 h2 o o', rmn_iff h1 h2 (mats h1 h2) o o']
structure PF (n : Int) (kvs : List (List Key × D)) (p : Int × Int) (a b : Int) : Prop where
  mat : ∀ h, iso m_matrix_of [.int n, T2p p] h = .ok (T4 a b (fst2 n p) p.2) h
  low : ∀ h, iso f__law_lowest [.int a, .int (fst2 n p)] h = .ok (T2 a (fst2 n p)) h
  rim : ∀ h, iso m__law_rim_told [.int n, .int a, .int (fst2 n p)] h = .ok (T2p (rm n p)) h
  row : ∀ h, iso m_pair_round [.int n, T2p p] h = .ok (.tup ((orb n p (wd n p)).map T2p)) h
  own : ∀ h, iso m__law_own_round [tdD kvs, .int n, T2p p] h = .ok (.tup ((orb n p (wd n p)).map T2p)) h
  lw : ∀ h, iso f__law_width [.int n, T2 a (fst2 n p)] h = .ok (.int (wd n p)) h
  rof : ∀ h, iso f_rim_of [.int n, T2p (rm n p)] h = .ok (T2p (rm n p)) h
  wof : ∀ h, iso m_width_of [.int n, T2p (rm n p)] h = .ok (.int (wd n p)) h
  eof : ∀ h, iso f_rim_of [.int n, T2 a (fst2 n p)] h = .ok (T2p (rm n p)) h
  least : ∀ h, dMinA (.tup ((orb n p (wd n p)).map T2p)) h = .ok (T2p (rmn n p)) h
theorem min_orb (h1 : 1 ≤ n) (h : Ph) : dMinA (.tup ((orb n p (wd n p)).map T2p)) h = .ok (T2p (rmn n p)) h := by
  obtain ⟨r, e⟩ := orb_cons (p := p) h1
  obtain ⟨k, _⟩ := rmn_ok e
  have e0 : (orb n p (wd n p)).map T2p = ((orb n p (wd n p)).map L2p).map tupZ := by rw [List.map_map]; rfl
  rw [e0]
  show R.opt (tupsOf (((orb n p (wd n p)).map L2p).map tupZ)) _ = _
  rw [tupsOf_map (fun y hy => by obtain ⟨q, _, rfl⟩ := List.mem_map.mp hy; simp [L2p]), e]
  show R.ok (tupZ (minS (L2p p) (r.map L2p))) h = _
  rw [k]
  rfl
theorem pf_ok (h1 : 1 ≤ n) (h2 : n ≤ 100) (x : TD n (fun p => tl n p.1 p.2 = true) kvs) (o : Own2 n p) : ∃ a b, PF n kvs p a b := by
  obtain ⟨a, b, m, e, r⟩ := top_ok h1 h2 o
  obtain ⟨f, sc⟩ := mt_fr h1 h2 o m
  obtain ⟨f1, f2, f3, f4, f5⟩ := fst2_ok h1 h2 o
  obtain ⟨w1, w2, w3⟩ := wd_ok (p := p) h1
  have hP := rP_fst h1 h2 o
  -- the end in lowest terms
  have low : T2 (lwT a (fst2 n p)) (lwB a (fst2 n p)) = T2 a (fst2 n p) := by
    unfold lwT lwB lwS
    rw [if_neg (by omega), f.fr.co]
    simp
  -- the rim of the rim
  have dvx := r.dv
  have r : Ltop (rP n (fst2 n p)) (rS n (fst2 n p)) (rR n a (fst2 n p)) (rtop n p) := r
  rw [hP] at r
  have hU : rU n (fst2 n p) = 1 := by
    show fst2 n p / rP n (fst2 n p) = 1
    rw [hP]
    exact Int.ediv_self (by omega)
  have xlt := r.lt
  have hs := rS_pos (L := n) (b := fst2 n p) h1
  have hs2 : rS n (fst2 n p) ≤ n := by
    have h3 := Int.le_of_dvd (rP_pos h1) (rS_dvd (L := n) (b := fst2 n p)).1
    rw [hP] at h3; omega
  have xl : rtop n p < 10000 := by
    have : fst2 n p * rS n (fst2 n p) ≤ 100 * 100 := Int.mul_le_mul (by omega) (by omega) (by omega) (by omega)
    omega
  have x0 := r.x0
  have fx : Fs (rtop n p) (fst2 n p) := ⟨⟨r.co, by omega, fun z => by omega⟩, by omega, by omega⟩
  have sx : Sm 40 (rtop n p) := Sm.of_lt 40 (n := 10001) (by omega) (by omega) (by decide)
  have rx : RimOf n (rtop n p) (fst2 n p) (rtop n p) := by
    show Ltop (rP n (fst2 n p)) (rS n (fst2 n p)) (rR n (rtop n p) (fst2 n p)) (rtop n p)
    rw [hP]
    refine r.congr ?_
    have e1 : rR n a (fst2 n p) = a := by show a * rU n (fst2 n p) = a; rw [hU]; omega
    have e2 : rR n (rtop n p) (fst2 n p) = rtop n p := by show rtop n p * rU n (fst2 n p) = rtop n p; rw [hU]; omega
    rw [e1] at dvx ⊢
    rw [e2]
    have := Int.dvd_neg.mpr dvx
    rwa [Int.neg_sub] at this
  have rr : RimOf n a (fst2 n p) (rtop n p) := by
    show Ltop (rP n (fst2 n p)) _ _ _
    rw [hP]; exact r
  have back : T2 (rtop n p) (rP n (fst2 n p)) = T2p (rm n p) := by rw [hP]; rfl
  refine ⟨a, b, ⟨e, fun h => iso_ok rfl (h' := []) (by rw [law_lowest_ok (m.sa.mono (by decide)) (sc.mono (by decide)) (.inr (by omega)), low]) rfl h, fun h => iso_ok rfl (h' := []) (by rw [rim_told_ok h1 h2 (show 40 ≤ 200 by decide) m.sa sc rr, back]) rfl h,
    fun h => pair_round_ok h1 h2 o h, fun h => own_round_ok h1 h2 x o h, fun h => iso_ok rfl (h' := []) (by rw [law_width_ok h1 h2 (sc.mono (by decide)), w3]) rfl h, fun h => iso_ok rfl (h' := []) ?_ rfl h, fun h => iso_ok rfl (h' := []) ?_ rfl h, fun h => iso_ok rfl (h' := []) ?_ rfl h, fun h => min_orb h1 h⟩⟩
  · have := rim_of_at h1 h2 fx (show 40 ≤ 500 by decide) sx sc rx []
    rw [back] at this
    exact this
  · have := width_of_ok (h := []) h1 h2 fx (sc.mono (by decide))
    rw [w3]
    exact this
  · have := rim_of_at h1 h2 f (show 40 ≤ 500 by decide) m.sa sc rr []
    rw [back] at this
    exact this
end
end L15

namespace L15
open PySem L2 Evl Pd
local macro_rules | `(tactic| walk_at "sm") => `(tactic| first | assumption | exact Sm.lit | exact Sm.mul (by walk_at "sm") (by walk_at "sm") | exact Sm.add (by walk_at "sm") (by walk_at "sm") | exact Sm.sub (by walk_at "sm") (by walk_at "sm") | exact Sm.neg (by walk_at "sm"))
local macro_rules | `(tactic| walk_at "cm") => `(tactic| ((with_reducible show CM _ _); first | assumption | exact CM.left (by decide) | exact CM.right (by decide) | exact CM.left (by omega) | exact CM.right (by omega) | exact CM.of (by walk_at "sm") (by walk_at "sm") (by decide)))
local macro_rules | `(tactic| simp_arith only [$xs,*]) => `(tactic| simp (maxSteps := 4000000) (dsimp := false) (disch := first | assumption | decide | omega | walk_at "cm") only [runDef_ap, sVar_ap, sC_ap, sBin_ap, sNeg_ap, sAnd_ap, sOr_ap, sNot_ap, sIf_ap, sTst_ap, qAnd_ap, qOr_ap, qNot_ap, qYes_ap, sChain_ap, sChain3_ap, sNil_ap, sCons_ap, sTup_ap, sLst_ap, sLstM_ap, sCall_ap, g1_ap, g2_ap, sFn_ap, sAsg_ap, gNm_ap, gTp_ap, gConsS_ap, gNilS_ap, sPar_ap, sPar3_ap, sRet_ap, sRetN_ap, sNx_ap, sBrk_ap, sCnt_ap, sSeq_ap, sIte_ap, sDrop_ap, sFrz_ap, sAug_ap, iRange1_ap, iRange2_ap, iSeq_ap, sFor_ap, sLc_ap, R.toG_ok, ↓R.bind_bnd, bnd_ok, ↓R.bd_bdn, bdn_ok, ↓R.toF_tof, tof_ok, ↓F.seq_sqn, sqn_nx, sqn_ret, sqn_cnt, sqn_brk, ↓F.turn_trn, trn_nx, trn_ret, trn_cnt, trn_brk, F.end_nx, F.end_ret, ↓br_true, br_true, ↓br_false, br_false, Dbr, Dneg, Dtst, opt_some, dAdd_int, dIAdd_int, dSub_int, dLt_int, dLe_int, dGt_int, dGe_int, dEq_int, dNe_int, dEq_bl, dNe_bl, dMul_cm, dMod_pos, dDiv_pos, dAbs_int, dMax2_int, dMin2_int, dInt_int, dInt_bl, dIx_tup, dIx_lst, dIx_seq, dLen_tup, dLen_lst, dLen_seq, atI_0, atI_1, atI_2, atI_3, List.map_cons, List.map_nil, List.length_cons, List.length_nil, List.replicate_succ, List.replicate_zero, List.cons_append, List.nil_append, List.getElem?_cons_zero, List.getElem?_cons_succ, List.set_cons_zero, List.set_cons_succ, Nat.reduceAdd, Nat.reduceSub, Nat.zero_add, Nat.add_zero, Nat.sub_self, Nat.reduceMul, mostL_def, Nat.reduceLeDiff, Nat.reduceLT, ite_true, ite_false, if_true, if_false, ↓reduceIte, reduceIte, ↓br_ite, Bool.false_eq_true, reduceCtorEq, Bool.not_true, Bool.not_false, decide_true, decide_false, Int.cast_ofNat_Int, Int.reduceBEq, Int.reduceAdd, Int.reduceSub, Int.reduceMul, Int.reduceNeg, Int.reduceLT, Int.reduceLE, Int.reduceMod, Int.reduceDiv, sMeth1_ap, sSl_ap, sRev_ap, oNo_ap, oPart_ap, sDict0_ap, sSetL_ap, sLc2_ap, sStar_ap, sDGet1_ap, sDGet2_ap, sPutD_ap, iItemsD_ap, iValsD_ap, iKeysD_ap, sDict0T_ap, sPutT_ap, sTGet1_ap, sFrzT_ap, iKeysT_ap, $xs,*])
noncomputable def ent (n : Int) (q : Int × Int) : List Key × D := (K2 (rmn n q), T2p (rm n q))
structure HD (n : Int) (L : List (Int × Int)) (ks : List (List Key × D)) : Prop where
  own : ∀ q ∈ L, Own2 n q
  nd : (L.map (rmn n)).Nodup
  eq : ks = L.map (ent n)
section
variable {n : Int} {p q : Int × Int} {L : List (Int × Int)} {ks kvs : List (List Key × D)} {a b : Int} {k m : Nat} {h : Ph}
theorem HD.len (h1 : 1 ≤ n) (h2 : n ≤ 60) (x : HD n L ks) : ks.length < 300 := by
  rw [x.eq, List.length_map]
  have nd : L.Nodup := (List.pairwise_map.mp x.nd).imp fun ne e => ne (by rw [e])
  exact Nat.lt_of_le_of_lt (pigeonG nd fun q hq => (mem_apP h1 (by omega)).mpr (x.own q hq)) (ap_few h1 h2)
theorem HD.yes (h1 : 1 ≤ n) (h2 : n ≤ 60) (x : HD n L ks) (o : Own2 n p) (hm : ∃ q ∈ L, rmn n q = rmn n p) : valD ks (K2 (rmn n p)) = some (T2p (rm n p)) := by
  unfold valD
  cases e : ks.find? fun kv => decide (kv.1 = K2 (rmn n p)) with
  | none =>
    obtain ⟨q, hq, eq⟩ := hm
    have := List.find?_eq_none.mp e (ent n q) (by rw [x.eq]; exact List.mem_map_of_mem hq)
    exact absurd (show decide (K2 (rmn n q) = K2 (rmn n p)) = true by rw [eq]; simp) this
  | some kv =>
    have k1 := List.find?_some e
    have hk := List.mem_of_find?_eq_some e
    rw [x.eq] at hk
    obtain ⟨q, hq, rfl⟩ := List.mem_map.mp hk
    have e1 : rmn n q = rmn n p := K2_inj (of_decide_eq_true k1)
    have e2 := (rm_rmn h1 (show n ≤ 100 by omega) (x.own q hq) o).mpr e1
    show some (T2p (rm n q)) = _
    rw [e2]
theorem HD.no (x : HD n L ks) (hm : ¬ ∃ q ∈ L, rmn n q = rmn n p) : valD ks (K2 (rmn n p)) = none := by
  unfold valD
  cases e : ks.find? fun kv => decide (kv.1 = K2 (rmn n p)) with
  | none => rfl
  | some kv =>
    have k1 := List.find?_some e
    have hk := List.mem_of_find?_eq_some e
    rw [x.eq] at hk
    obtain ⟨q, hq, rfl⟩ := List.mem_map.mp hk
    exact absurd ⟨q, hq, K2_inj (of_decide_eq_true k1)⟩ hm
theorem HD.put (x : HD n L ks) (o : Own2 n p) (hm : ¬ ∃ q ∈ L, rmn n q = rmn n p) : HD n (L ++ [p]) (putD ks (K2 (rmn n p)) (T2p (rm n p))) := by
  have out : ¬ (ks.any fun kv => decide (kv.1 = K2 (rmn n p))) = true := fun z => by
    obtain ⟨kv, hk, k1⟩ := List.any_eq_true.mp z
    rw [x.eq] at hk
    obtain ⟨q, hq, rfl⟩ := List.mem_map.mp hk
    exact hm ⟨q, hq, K2_inj (of_decide_eq_true k1)⟩
  refine ⟨fun q hq => ?_, ?_, ?_⟩
  · rcases List.mem_append.mp hq with hq | hq
    · exact x.own q hq
    · rw [List.mem_singleton.mp hq]; exact o
  · rw [List.map_append, List.nodup_append]
    refine ⟨x.nd, by simp, fun y hy z hz e => ?_⟩
    obtain ⟨q, hq, rfl⟩ := List.mem_map.mp hy
    have : z = rmn n p := by simpa using hz
    exact hm ⟨q, hq, e.trans this⟩
  · unfold putD
    rw [if_neg out, List.map_append, x.eq]
    rfl
abbrev e11 (k : Nat) (n : Int) (kvs : List (List Key × D)) (o3 : Option D) (P : List D) (m : Nat) (o6 o7 o8 o9 : Option D) : Pe := [some (.ref k), some (.int n), some (tdD kvs), o3, some (.lst P), some (.ref m), o6, o7, o8, o9, none]
theorem sdef_ok (h1 : 1 ≤ n) (h2 : n ≤ 60) (x : HD n L ks) (o : Own2 n p) (hm : h[m]? = some (.dT ks)) {P : List D} {o3 o6 o9 : Option D} :
    ∃ L' ks' h', sNSetDef (sVar 5) (sCall (g1 dMinA) (sCons (sVar 8) (sNil))) (sVar 7) (e11 k n kvs o3 P m o6 (some (T2p (rm n p))) (some (.tup ((orb n p (wd n p)).map T2p))) o9) h = .ok (T2p (rm n p)) h' ∧ (h' = h ∨ ∃ o, h' = h.set m o) ∧ HD n L' ks' ∧ h'[m]? = some (.dT ks') := by
  have d1 : dtOf (.ref m) h = some (m, ks) := by unfold dtOf; simp only [hm]
  have mn := min_orb (p := p) h1 h
  have st : sNSetDef (sVar 5) (sCall (g1 dMinA) (sCons (sVar 8) (sNil))) (sVar 7) (e11 k n kvs o3 P m o6 (some (T2p (rm n p))) (some (.tup ((orb n p (wd n p)).map T2p))) o9) h = (R.opt (dtOf (.ref m) h) fun _ => (dMinA (.tup ((orb n p (wd n p)).map T2p)) h).bind fun kk h2 => R.opt (dtOf (.ref m) h2) fun pp => R.opt (kPr kk) fun kk => match valD pp.2 kk with
    | some y => .ok y h2
    | none => if pp.2.length < mostL then .ok (T2p (rm n p)) (h2.set pp.1 (.dT (putD pp.2 kk (T2p (rm n p))))) else .bad) := rfl
  have st2 : sNSetDef (sVar 5) (sCall (g1 dMinA) (sCons (sVar 8) (sNil))) (sVar 7) (e11 k n kvs o3 P m o6 (some (T2p (rm n p))) (some (.tup ((orb n p (wd n p)).map T2p))) o9) h = (match valD ks (K2 (rmn n p)) with
    | some y => .ok y h
    | none => if ks.length < mostL then .ok (T2p (rm n p)) (h.set m (.dT (putD ks (K2 (rmn n p)) (T2p (rm n p))))) else .bad) := by
    rw [st, d1, mn]
    show (R.opt (dtOf (.ref m) h) fun pp => R.opt (kPr (T2p (rmn n p))) fun kk => _) = _
    rw [d1]
    rfl
  rw [st2]
  by_cases c : ∃ q ∈ L, rmn n q = rmn n p
  · rw [x.yes h1 h2 o c]
    exact ⟨L, ks, h, rfl, .inl rfl, x, hm⟩
  · rw [x.no c]
    refine ⟨L ++ [p], _, h.set m (.dT (putD ks (K2 (rmn n p)) (T2p (rm n p)))), ?_, .inr ⟨_, rfl⟩, x.put o c, ?_⟩
    · show (if ks.length < mostL then _ else _) = _
      rw [if_pos (Nat.lt_trans (x.len h1 h2) (by decide))]
    · rw [List.getElem?_set_self (List.getElem?_eq_some_iff.mp hm).1]
theorem pair_ok (h1 : 1 ≤ n) (h2 : n ≤ 60) (xt : TD n (fun p => tl n p.1 p.2 = true) kvs) (x : HD n L ks) (o : Own2 n p) (hm : h[m]? = some (.dT ks)) {P : List D} {o6 o7 o8 o9 : Option D} :
    ∃ L' ks' h' o6' o7' o8' o9', l__law_right_2 (e11 k n kvs (some (T2p p)) P m o6 o7 o8 o9) h = .nx (e11 k n kvs (some (T2p p)) P m o6' o7' o8' o9') h' ∧ (h' = h ∨ ∃ o, h' = h.set m o) ∧ HD n L' ks' ∧ h'[m]? = some (.dT ks') := by
  obtain ⟨a, b, f⟩ := pf_ok h1 (show n ≤ 100 by omega) xt o
  obtain ⟨L', ks', h', sd, hh, x', hm'⟩ := sdef_ok (k := k) (kvs := kvs) (P := P) (o3 := some (T2p p)) (o6 := some (T2 a (fst2 n p))) (o9 := some (T4 a b (fst2 n p) p.2)) h1 h2 x o hm
  refine ⟨L', ks', h', some (T2 a (fst2 n p)), some (T2p (rm n p)), some (.tup ((orb n p (wd n p)).map T2p)), some (T4 a b (fst2 n p) p.2), ?_, hh, x', hm'⟩
  have a1 := f.row h
  have a2 := f.mat h
  have a3 := f.low h
  have a4 := f.rim h
  have a5 := f.own h
  have a6 := f.lw h
  have a7 := f.rof h'
  have a8 := f.wof h'
  have a9 := f.eof h'
  have i0 : ∀ h, dIx (T4 a b (fst2 n p) p.2) (.int 0) h = .ok (.int a) h := fun _ => rfl
  have i2 : ∀ h, dIx (T4 a b (fst2 n p) p.2) (.int 2) h = .ok (.int (fst2 n p)) h := fun _ => rfl
  have j0 : ∀ h, dIx (T2 a (fst2 n p)) (.int 0) h = .ok (.int a) h := fun _ => rfl
  have j1 : ∀ h, dIx (T2 a (fst2 n p)) (.int 1) h = .ok (.int (fst2 n p)) h := fun _ => rfl
  have n1 := dNe_tupP (l := orb n p (wd n p)) (m := orb n p (wd n p)) (h := h)
  have n2 : ∀ h, dNe (T2p (rm n p)) (T2p (rm n p)) h = .ok (.bl false) h := fun h => by rw [dNe_P]; simp
  have n3 : ∀ h, dNe (.int (wd n p)) (.int (wd n p)) h = .ok (.bl false) h := fun h => by
    show R.ok (D.bl (!((wd n p : Int) == (wd n p : Int)))) h = _
    simp
  have ln : ∀ h, dLen (.tup ((orb n p (wd n p)).map T2p)) h = .ok (.int (wd n p)) h := fun h => by
    show R.ok (D.int (((orb n p (wd n p)).map T2p).length : Nat)) h = _
    rw [orb_len]
  have t : (!decide (orb n p (wd n p) = orb n p (wd n p))) = false := by simp
  rw [t] at n1
  generalize hS : sNSetDef (sVar 5) (sCall (g1 dMinA) (sCons (sVar 8) (sNil))) (sVar 7) = S at sd
  unfold e11 at sd ⊢
  unfold l__law_right_2
  rw [hS]
  simp_arith only [a1, a2, a3, a4, a5, a6, a7, a8, a9, i0, i2, j0, j1, n1, n2, n3, ln, sd, ite_self]
theorem ddp_len : ∀ l : List (List Int), (ddp l).length ≤ l.length
  | [] => Nat.le_refl _
  | x :: r => by
    have := ddp_len r
    unfold ddp
    split
    · rw [List.length_cons]; omega
    · rw [List.length_cons, List.length_cons]; omega
theorem met15 (h1 : 1 ≤ n) (h2 : n ≤ 60) (x : TD n (fun p => tl n p.1 p.2 = true) kvs) {e : Pe} (e2 : e[2]? = some (some (tdD kvs))) (hl : e.length = 11) : sSortSet c__law_right_1 e h = .ok (.lst ((apP n).map T2p)) h := by
  have few := few_of (n := n) (by omega) (x.len h1)
  have key : ∀ y ∈ kvs.map (·.1), ∃ p, res n p ∧ tl n p.1 p.2 = true ∧ y = K2 p := fun y hy => by
    obtain ⟨kv, m, rfl⟩ := List.mem_map.mp hy
    obtain ⟨p, a, b, rfl⟩ := x.sd kv m
    exact ⟨p, a, b, rfl⟩
  have hk : iKeysT (sVar 2) e h = .ok ((kvs.map (·.1)).map kTD) h := by
    unfold iKeysT sVar
    rw [e2]; rfl
  have hc : c__law_right_1 e h = .ok (.lst (((kvs.map (·.1)).map kTD).map (atK kvs))) h := by
    unfold c__law_right_1
    refine lc_mp (atK kvs) hk (by rw [List.length_map, List.length_map]; exact Nat.le_of_lt few) fun y hy => ?_
    obtain ⟨k, hk, rfl⟩ := List.mem_map.mp hy
    obtain ⟨p, rp, tp, rfl⟩ := key k hk
    have v := x.yes rp tp
    have ea : atK kvs (kTD (K2 p)) = T2p (lp n p) := by
      show (valD kvs (K2 p)).getD .non = _
      rw [v]; rfl
    have eg : dTGet (tdD kvs) (kTD (K2 p)) h = .ok (T2p (lp n p)) h := by
      unfold dTGet dtR
      simp only [zip_parts]
      show R.opt (valD kvs (K2 p)) _ = _
      rw [v]; rfl
    have s2 : ((wipeD e [10]).set 10 (some (kTD (K2 p))))[2]? = some (some (tdD kvs)) := by
      show ((e.set 10 none).set 10 (some (kTD (K2 p))))[2]? = _
      rw [List.getElem?_set_ne (by decide), List.getElem?_set_ne (by decide), e2]
    have s16 : ((wipeD e [10]).set 10 (some (kTD (K2 p))))[10]? = some (some (kTD (K2 p))) := by
      show ((e.set 10 none).set 10 (some (kTD (K2 p))))[10]? = _
      rw [List.getElem?_set_self (by rw [List.length_set, hl]; decide)]
    rw [ea]
    generalize (wipeD e [10]).set 10 (some (kTD (K2 p))) = e' at s2 s16
    have v2 := sVar_at (h := h) s2
    have v16 := sVar_at (h := h) s16
    show (sVar 2 e' h).bind (fun a h1 => (sVar 10 e' h1).bind fun b h2 => dTGet a b h2) = _
    rw [v2]
    show (sVar 10 e' h).bind (fun b h2 => dTGet (tdD kvs) b h2) = _
    rw [v16]
    exact eg
  have eL : ((kvs.map (·.1)).map kTD).map (atK kvs) = ((kvs.map fun kv => dec2 kv.2).map L2p).map tupZ := by
    simp only [List.map_map]
    refine List.map_congr_left fun kv m => ?_
    obtain ⟨p, rp, tp, rfl⟩ := x.sd kv m
    show (valD kvs (K2 p)).getD .non = T2p (lp n p)
    rw [x.yes rp tp]; rfl
  have mem : ∀ q, q ∈ kvs.map (fun kv => dec2 kv.2) ↔ q ∈ apP n := fun q => by
    rw [mem_apP h1 (by omega)]
    constructor
    · intro hq
      obtain ⟨kv, m, rfl⟩ := List.mem_map.mp hq
      obtain ⟨p, rp, tp, rfl⟩ := x.sd kv m
      exact lp_own h1 tp
    · rintro ⟨rq, tq, eq⟩
      exact List.mem_map.mpr ⟨_, x.fl q rq tq, eq⟩
  generalize kvs.map (fun kv => dec2 kv.2) = l at eL mem
  have inj : ∀ {p q : Int × Int}, L2p p = L2p q → p = q := fun {p q} e => by
    injection e with e1 e2
    injection e2 with e2 _
    exact Prod.ext e1 e2
  have nda : ((apP n).map L2p).Nodup := List.pairwise_map.mpr (apP_nodup.imp fun ne e => ne (inj e))
  have memL : ∀ y, y ∈ ddp (l.map L2p) ↔ y ∈ (apP n).map L2p := fun y => by
    rw [ddp_mem, List.mem_map, List.mem_map]
    exact ⟨fun ⟨q, a, b⟩ => ⟨q, (mem q).mp a, b⟩, fun ⟨q, a, b⟩ => ⟨q, (mem q).mpr a, b⟩⟩
  have lenL : (ddp (l.map L2p)).length < 300 := by
    refine Nat.lt_of_le_of_lt (pigeonG (ddp_nodup _) fun y hy => (memL y).mp hy) ?_
    rw [List.length_map]
    exact ap_few h1 h2
  have srt : sortS HT.lexLt (ddp (l.map L2p)) = (apP n).map L2p := by
    refine srtd_one (lex_swo id) (fun x y h1 h2 => lex_conn h1 h2) (sortS_srt (lex_swo id) _) ?_ ((sortS_perm _).trans ((List.perm_ext_iff_of_nodup (ddp_nodup _) nda).mpr memL))
    refine List.pairwise_map.mpr (apP_lt.imp fun {p q} z => ?_)
    exact lex_asym (lex2.mpr z)
  rw [eL] at hc
  show (c__law_right_1 e h).bind dSortSet = _
  rw [hc]
  have e0 : dSortSet (.lst (((l.map L2p).map tupZ))) h = R.opt (tupsOf ((l.map L2p).map tupZ)) fun ns => if (ddp ns).length < 300 then .ok (.lst ((sortS HT.lexLt (ddp ns)).map tupZ)) h else .bad := rfl
  show dSortSet (.lst ((l.map L2p).map tupZ)) h = _
  rw [e0, tupsOf_map (fun y hy => by obtain ⟨q, _, rfl⟩ := List.mem_map.mp hy; simp [L2p])]
  show (if _ then _ else _) = _
  rw [if_pos lenL, srt, List.map_map]
  rfl
theorem ddp_nd : ∀ l : List (List Int), l.Nodup → ddp l = l
  | [], _ => rfl
  | x :: r, nd => by
    obtain ⟨a, b⟩ := List.nodup_cons.mp nd
    unfold ddp
    rw [if_neg (by rw [List.elem_iff]; exact a), ddp_nd r b]
theorem L2p_inj {p q : Int × Int} (e : L2p p = L2p q) : p = q := by
  injection e with e1 e2
  injection e2 with e2 _
  exact Prod.ext e1 e2
theorem lenset_ok {c : SE} {e : Pe} {l : List (Int × Int)} (hc : c e h = .ok (.lst (l.map T2p)) h) (hl : (ddp (l.map L2p)).length < 300) : sLenSet c e h = .ok (.int ((ddp (l.map L2p)).length : Nat)) h := by
  show (c e h).bind dLenSet = _
  rw [hc]
  have e0 : l.map T2p = (l.map L2p).map tupZ := by rw [List.map_map]; rfl
  rw [e0]
  show R.opt (tupsOf ((l.map L2p).map tupZ)) _ = _
  rw [tupsOf_map (fun y hy => by obtain ⟨q, _, rfl⟩ := List.mem_map.mp hy; simp [L2p])]
  show (if _ then _ else _) = _
  rw [if_pos hl]
theorem heads_ok (h1 : 1 ≤ n) (h2 : n ≤ 60) (x : HD n L ks) {e : Pe} (e5 : e[5]? = some (some (.dcT (ks.map (·.1)) (ks.map (·.2))))) (hl : e.length = 11) : sLenSet c__law_right_3 e h = .ok (.int (ks.length : Nat)) h := by
  have few := x.len h1 h2
  have hk : iKeysT (sVar 5) e h = .ok ((ks.map (·.1)).map kTD) h := by
    unfold iKeysT sVar
    rw [e5]; rfl
  have hc : c__law_right_3 e h = .ok (.lst (((ks.map (·.1)).map kTD).map (atK ks))) h := by
    unfold c__law_right_3
    refine lc_mp (atK ks) hk (by rw [List.length_map, List.length_map]; exact Nat.le_of_lt (Nat.lt_trans few (by decide))) fun y hy => ?_
    obtain ⟨kk, hk, rfl⟩ := List.mem_map.mp hy
    obtain ⟨kv, hkv, rfl⟩ := List.mem_map.mp hk
    rw [x.eq] at hkv
    obtain ⟨q, hq, rfl⟩ := List.mem_map.mp hkv
    have v := x.yes h1 h2 (x.own q hq) ⟨q, hq, rfl⟩
    have ea : atK ks (kTD (ent n q).1) = T2p (rm n q) := by
      show (valD ks (K2 (rmn n q))).getD .non = _
      rw [v]; rfl
    have eg : dTGet (.dcT (ks.map (·.1)) (ks.map (·.2))) (kTD (K2 (rmn n q))) h = .ok (T2p (rm n q)) h := by
      unfold dTGet dtR
      simp only [zip_parts]
      show R.opt (valD ks (K2 (rmn n q))) _ = _
      rw [v]; rfl
    have s2 : ((wipeD e [10]).set 10 (some (kTD (K2 (rmn n q)))))[5]? = some (some (.dcT (ks.map (·.1)) (ks.map (·.2)))) := by
      show ((e.set 10 none).set 10 (some (kTD (K2 (rmn n q)))))[5]? = _
      rw [List.getElem?_set_ne (by decide), List.getElem?_set_ne (by decide), e5]
    have s16 : ((wipeD e [10]).set 10 (some (kTD (K2 (rmn n q)))))[10]? = some (some (kTD (K2 (rmn n q)))) := by
      show ((e.set 10 none).set 10 (some (kTD (K2 (rmn n q)))))[10]? = _
      rw [List.getElem?_set_self (by rw [List.length_set, hl]; decide)]
    rw [ea]
    show (sBin dTGet (sVar 5) (sVar 10)) ((wipeD e [10]).set 10 (some (kTD (K2 (rmn n q))))) h = _
    generalize (wipeD e [10]).set 10 (some (kTD (K2 (rmn n q)))) = e' at s2 s16
    have v2 := sVar_at (h := h) s2
    have v16 := sVar_at (h := h) s16
    show (sVar 5 e' h).bind (fun a h1 => (sVar 10 e' h1).bind fun b h2 => dTGet a b h2) = _
    rw [v2]
    show (sVar 10 e' h).bind (fun b h2 => dTGet (.dcT (ks.map (·.1)) (ks.map (·.2))) b h2) = _
    rw [v16]
    exact eg
  have eL : ((ks.map (·.1)).map kTD).map (atK ks) = (L.map (rm n)).map T2p := by
    conv => lhs; arg 2; rw [x.eq]
    simp only [List.map_map]
    refine List.map_congr_left fun q hq => ?_
    show (valD ks (K2 (rmn n q))).getD .non = T2p (rm n q)
    rw [x.yes h1 h2 (x.own q hq) ⟨q, hq, rfl⟩]; rfl
  rw [eL] at hc
  have nd : ((L.map (rm n)).map L2p).Nodup := by
    rw [List.map_map]
    refine List.pairwise_map.mpr (List.Pairwise.imp_of_mem (fun {p q} hp hq ne e => ne ?_) (List.pairwise_map.mp x.nd))
    exact (rm_rmn h1 (show n ≤ 100 by omega) (x.own p hp) (x.own q hq)).mp (L2p_inj e)
  have lk : (ddp ((L.map (rm n)).map L2p)).length = ks.length := by
    rw [ddp_nd _ nd, List.length_map, List.length_map, x.eq, List.length_map]
  rw [lenset_ok hc (by rw [lk]; exact few), lk]
theorem rounds_ok (h1 : 1 ≤ n) (h2 : n ≤ 60) (xt : TD n (fun p => tl n p.1 p.2 = true) kvs) {e : Pe} (e1 : e[1]? = some (some (.int n))) (e2 : e[2]? = some (some (tdD kvs))) (e4 : e[4]? = some (some (.lst ((apP n).map T2p)))) (hl : e.length = 11) : sLenSet c__law_right_4 e h = .ok (.int (cK n)) h := by
  have few := ap_few h1 h2
  have ap : ∀ q, q ∈ apP n ↔ Own2 n q := fun q => mem_apP h1 (by omega)
  have hc : c__law_right_4 e h = .ok (.lst (((apP n).map T2p).map fun d => T2p (rmn n (dec2 d)))) h := by
    unfold c__law_right_4
    refine lc_mp (fun d => T2p (rmn n (dec2 d))) (xs := (apP n).map T2p) ?_ (by rw [List.length_map]; exact Nat.le_of_lt (Nat.lt_trans few (by decide))) fun y hy => ?_
    · show ((sVar 4) e h).bind _ = _
      rw [sVar_at (h := h) e4]; rfl
    · obtain ⟨q, hq, rfl⟩ := List.mem_map.mp hy
      have o := (ap q).mp hq
      have ow := own_round_ok h1 (show n ≤ 100 by omega) xt o h
      have mn := min_orb (p := q) h1 h
      have s1 : ((wipeD e [3]).set 3 (some (T2p q)))[1]? = some (some (.int n)) := by
        show ((e.set 3 none).set 3 (some (T2p q)))[1]? = _
        rw [List.getElem?_set_ne (by decide), List.getElem?_set_ne (by decide), e1]
      have s2 : ((wipeD e [3]).set 3 (some (T2p q)))[2]? = some (some (tdD kvs)) := by
        show ((e.set 3 none).set 3 (some (T2p q)))[2]? = _
        rw [List.getElem?_set_ne (by decide), List.getElem?_set_ne (by decide), e2]
      have s3 : ((wipeD e [3]).set 3 (some (T2p q)))[3]? = some (some (T2p q)) := by
        show ((e.set 3 none).set 3 (some (T2p q)))[3]? = _
        rw [List.getElem?_set_self (by rw [List.length_set, hl]; decide)]
      generalize (wipeD e [3]).set 3 (some (T2p q)) = e' at s1 s2 s3
      have v1 := sVar_at (h := h) s1
      have v2 := sVar_at (h := h) s2
      have v3 := sVar_at (h := h) s3
      have dd : dec2 (T2p q) = q := rfl
      rw [dd]
      simp_arith only [s1, s2, s3, ow, mn]
  have eL : ((apP n).map T2p).map (fun d => T2p (rmn n (dec2 d))) = ((apP n).map (rmn n)).map T2p := by
    rw [List.map_map, List.map_map]
    rfl
  rw [eL] at hc
  have lk : (ddp (((apP n).map (rmn n)).map L2p)).length = cK n := by
    unfold cK
    rw [List.map_map]
    refine ddp_alike (f := L2p ∘ rmn n) (g := fun p => L2p (key n p)) (apP n) fun p hp q hq => ?_
    have := rmn_iff h1 (show n ≤ 100 by omega) (mats h1 (show n ≤ 100 by omega)) ((ap p).mp hp) ((ap q).mp hq)
    exact ⟨fun e => congrArg L2p (this.mp (L2p_inj e)), fun e => congrArg L2p (this.mpr (L2p_inj e))⟩
  have fw : (ddp (((apP n).map (rmn n)).map L2p)).length < 300 := by
    refine Nat.lt_of_le_of_lt (ddp_len _) ?_
    rw [List.length_map, List.length_map]; exact few
  rw [lenset_ok hc fw, lk]
end
end L15

namespace L15
open PySem L2 Evl Pd
local macro_rules | `(tactic| walk_at "sm") => `(tactic| first | assumption | exact Sm.lit | exact Sm.mul (by walk_at "sm") (by walk_at "sm") | exact Sm.add (by walk_at "sm") (by walk_at "sm") | exact Sm.sub (by walk_at "sm") (by walk_at "sm") | exact Sm.neg (by walk_at "sm"))
local macro_rules | `(tactic| walk_at "cm") => `(tactic| ((with_reducible show CM _ _); first | assumption | exact CM.left (by decide) | exact CM.right (by decide) | exact CM.left (by omega) | exact CM.right (by omega) | exact CM.of (by walk_at "sm") (by walk_at "sm") (by decide)))
local macro_rules | `(tactic| simp_arith only [$xs,*]) => `(tactic| simp (maxSteps := 4000000) (dsimp := false) (disch := first | assumption | decide | omega | walk_at "cm") only [runDef_ap, sVar_ap, sC_ap, sBin_ap, sNeg_ap, sAnd_ap, sOr_ap, sNot_ap, sIf_ap, sTst_ap, qAnd_ap, qOr_ap, qNot_ap, qYes_ap, sChain_ap, sChain3_ap, sNil_ap, sCons_ap, sTup_ap, sLst_ap, sLstM_ap, sCall_ap, g1_ap, g2_ap, sFn_ap, sAsg_ap, gNm_ap, gTp_ap, gConsS_ap, gNilS_ap, sPar_ap, sPar3_ap, sRet_ap, sRetN_ap, sNx_ap, sBrk_ap, sCnt_ap, sSeq_ap, sIte_ap, sDrop_ap, sFrz_ap, sAug_ap, iRange1_ap, iRange2_ap, iSeq_ap, sFor_ap, sLc_ap, R.toG_ok, ↓R.bind_bnd, bnd_ok, ↓R.bd_bdn, bdn_ok, ↓R.toF_tof, tof_ok, ↓F.seq_sqn, sqn_nx, sqn_ret, sqn_cnt, sqn_brk, ↓F.turn_trn, trn_nx, trn_ret, trn_cnt, trn_brk, F.end_nx, F.end_ret, ↓br_true, br_true, ↓br_false, br_false, Dbr, Dneg, Dtst, opt_some, dAdd_int, dIAdd_int, dSub_int, dLt_int, dLe_int, dGt_int, dGe_int, dEq_int, dNe_int, dEq_bl, dNe_bl, dMul_cm, dMod_pos, dDiv_pos, dAbs_int, dMax2_int, dMin2_int, dInt_int, dInt_bl, dIx_tup, dIx_lst, dIx_seq, dLen_tup, dLen_lst, dLen_seq, atI_0, atI_1, atI_2, atI_3, List.map_cons, List.map_nil, List.length_cons, List.length_nil, List.replicate_succ, List.replicate_zero, List.cons_append, List.nil_append, List.getElem?_cons_zero, List.getElem?_cons_succ, List.set_cons_zero, List.set_cons_succ, Nat.reduceAdd, Nat.reduceSub, Nat.zero_add, Nat.add_zero, Nat.sub_self, Nat.reduceMul, mostL_def, Nat.reduceLeDiff, Nat.reduceLT, ite_true, ite_false, if_true, if_false, ↓reduceIte, reduceIte, ↓br_ite, Bool.false_eq_true, reduceCtorEq, Bool.not_true, Bool.not_false, decide_true, decide_false, Int.cast_ofNat_Int, Int.reduceBEq, Int.reduceAdd, Int.reduceSub, Int.reduceMul, Int.reduceNeg, Int.reduceLT, Int.reduceLE, Int.reduceMod, Int.reduceDiv, sMeth1_ap, sSl_ap, sRev_ap, oNo_ap, oPart_ap, sDict0_ap, sSetL_ap, sLc2_ap, sStar_ap, sDGet1_ap, sDGet2_ap, sPutD_ap, iItemsD_ap, iValsD_ap, iKeysD_ap, sDict0T_ap, sPutT_ap, sTGet1_ap, sFrzT_ap, iKeysT_ap, $xs,*])
theorem cutD_sub {xs : List D} {lo hi : Option Int} {y : D} (h : y ∈ cutD xs lo hi) : y ∈ xs := List.mem_of_mem_drop (List.mem_of_mem_take h)
section
variable {n : Int} {p q : Int × Int} {L : List (Int × Int)} {ks kvs : List (List Key × D)} {a b : Int} {k m : Nat} {h : Ph}
theorem bel2_hd (x : HD n L ks) : bel2 0 ks = true := by
  rw [x.eq]
  clear x
  induction L with
  | nil => rfl
  | cons q r ih =>
    show ((T2p (rm n q)).bel 0 && bel2 0 (r.map (ent n))) = true
    rw [ih]; rfl
theorem lock_ok (h1 : 1 ≤ n) (h2 : n ≤ 60) (x : HD n L ks) (hm : h[m]? = some (.dT ks)) {o3 o6 o7 o8 o9 : Option D} {P : List D} : sLkT 5 (sLenSet c__law_right_3) (e11 k n kvs o3 P m o6 o7 o8 o9) h = .ok (.int (ks.length : Nat)) h := by
  have d1 : dtOf (.ref m) h = some (m, ks) := by unfold dtOf; simp only [hm]
  have st : sLkT 5 (sLenSet c__law_right_3) (e11 k n kvs o3 P m o6 o7 o8 o9) h = (R.opt (dtOf (.ref m) h) fun p => match bel2 0 p.2 with
    | true => lkBack (sLenSet c__law_right_3 (lkEnvT (e11 k n kvs o3 P m o6 o7 o8 o9) 5 p.2) []) h
    | false => .bad) := rfl
  have hd := heads_ok (h := []) h1 h2 x (e := lkEnvT (e11 k n kvs o3 P m o6 o7 o8 o9) 5 ks) (by unfold lkEnvT; rw [List.getElem?_set_self (by rw [List.length_map]; show 5 < 11; decide)]) (by unfold lkEnvT; rw [List.length_set, List.length_map]; rfl)
  rw [st, d1]
  show (match bel2 0 ks with
    | true => lkBack (sLenSet c__law_right_3 (lkEnvT (e11 k n kvs o3 P m o6 o7 o8 o9) 5 ks) []) h
    | false => .bad) = _
  rw [bel2_hd x, hd]
  rfl
theorem right_ok {h : Ph} (hd : Dc h k) : ∃ h', m__law_right [.ref k] h = .ok (.bl true) h' ∧ Dr k h h' := by
  obtain ⟨n, g1, e1, h1, h2, d1⟩ := level_drawn_ok (T := 48) hd (by decide) (by decide)
  have n60 : n ≤ 60 := by omega
  obtain ⟨kvs, e2, xt⟩ := told_ok h1 (show n ≤ 1000 by omega) []
  have e2' : iso f__law_told_pairs [.int n] g1 = .ok (tdD kvs) g1 := iso_ok rfl e2 (bels_td xt) g1
  have e3 := met15 (e := [some (.ref k), some (.int n), some (tdD kvs), none, none, none, none, none, none, none, none]) (h := g1) h1 n60 xt rfl rfl
  have d2 := d1.push (.dT [])
  obtain ⟨ys, g2, e4, pm, d3⟩ := Tx.mixed_ok (xs := (apP n).map T2p) d2.dc (by rw [List.length_map]; exact Nat.lt_trans (ap_few h1 n60) (by decide))
  have kl : k < h.length := by
    obtain ⟨_, _, _, z⟩ := hd
    exact (List.getElem?_eq_some_iff.mp z).1
  have m0 : g2[g1.length]? = some (.dT []) := by
    have := d1.len
    rw [d3.keep g1.length (by omega) (by rw [List.length_append]; exact Nat.lt_succ_self _)]
    simp
  obtain ⟨e', h', q1, ⟨L, ks, x, hm, o3, o6, o7, o8, o9, rfl⟩, dr⟩ := forGo_inv (g := gNm 3) (f := l__law_right_2) (fun j e0 h' => (∃ L ks, HD n L ks ∧ h'[g1.length]? = some (.dT ks) ∧ ∃ o3 o6 o7 o8 o9, e0 = e11 k n kvs o3 ((apP n).map T2p) g1.length o6 o7 o8 o9) ∧ Dr k h h') (cutD ys none (some 40)) 0
    (e11 k n kvs none ((apP n).map T2p) g1.length none none none none) g2 ⟨⟨[], [], ⟨fun q hq => absurd hq (by simp), by simp, rfl⟩, m0, none, none, none, none, none, rfl⟩, d2.trans d3⟩
    (by
      rintro y hy j e0 h' _ _ ⟨⟨L, ks, x, hm, o3, o6, o7, o8, o9, rfl⟩, dr⟩
      obtain ⟨p, hp, rfl⟩ := List.mem_map.mp (pm.subset (cutD_sub hy))
      have o := (mem_apP h1 (show n ≤ 100 by omega)).mp hp
      obtain ⟨L', ks', h2', o6', o7', o8', o9', s, hh, x', hm'⟩ := pair_ok (k := k) (P := (apP n).map T2p) (o6 := o6) (o7 := o7) (o8 := o8) (o9 := o9) h1 n60 xt x o hm
      refine ⟨_, _, _, _, rfl, s, ⟨L', ks', x', hm', _, _, _, _, _, rfl⟩, ?_⟩
      rcases hh with rfl | ⟨o, rfl⟩
      · exact dr
      · exact dr.put kl d1.len o)
  have lk := lock_ok (k := k) (kvs := kvs) (o3 := o3) (o6 := o6) (o7 := o7) (o8 := o8) (o9 := o9) (P := (apP n).map T2p) h1 n60 x hm
  have rs := rounds_ok (h := h') h1 n60 xt (e := e11 k n kvs o3 ((apP n).map T2p) g1.length o6 o7 o8 o9) rfl rfl rfl rfl
  have ct := count_ok h1 h2 h'
  have tl' : dTLen (.ref g1.length) h' = .ok (.int (ks.length : Nat)) h' := by
    unfold dTLen dtR
    simp only [hm]
    rfl
  have n3 : dNe (.int (ks.length : Nat)) (.int (ks.length : Nat)) h' = .ok (.bl false) h' := by
    show R.ok (D.bl (!(((ks.length : Nat) : Int) == ((ks.length : Nat) : Int)))) h' = _
    simp
  have n4 : dEq (.int (cK n)) (.int (cK n)) h' = .ok (.bl true) h' := by
    show R.ok (D.bl (((cK n : Nat) : Int) == ((cK n : Nat) : Int))) h' = _
    simp
  have sl : ∀ h, dSl (.lst ys) none (some 40) h = .ok (.lst (cutD ys none (some 40))) h := fun _ => rfl
  refine ⟨h', ?_, dr⟩
  unfold e11 at q1 lk rs
  generalize hL : sLkT 5 (sLenSet c__law_right_3) = LK at lk
  generalize hR : sLenSet c__law_right_4 = RK at rs
  unfold m__law_right
  rw [hL, hR]
  simp_arith only [e1, e2', e3, e4, sl, iSeq_at, q1, lk, rs, ct, tl', n3, n4]
theorem spot_ok {ns : List Int} {h : Ph} {k : Nat} : ∃ h', l_law_1 [some (.seq (ns.map D.int)), some (.int k)] h = .nx [some (.seq (ns.map D.int)), some (.int k)] h' := by
  obtain ⟨l, m, e1⟩ := dice_ok ns k (by omega) h
  have hd : Dc (h ++ [.lst [.int l, .int m, .int 0]]) h.length := ⟨l, m, 0, by simp⟩
  generalize h ++ [.lst [.int l, .int m, .int 0]] = h1 at e1 hd
  obtain ⟨h2, e2, d2⟩ := right_ok hd
  refine ⟨h2, ?_⟩
  unfold l_law_1
  simp_arith only [e1, e2]
theorem left : Left := by
  intro ns hl
  obtain ⟨e', h', q1, q2⟩ := forGo_inv (g := gNm 1) (f := l_law_1) (fun j e h' => ∃ o1, e = [some (.seq (ns.map D.int)), o1]) (rangeD 0 (if (if (ns.length : Int) < 2 then (ns.length : Int) else 2) > 1 then (if (ns.length : Int) < 2 then (ns.length : Int) else 2) else 1).toNat) 0 [some (.seq (ns.map D.int)), none] [] ⟨_, rfl⟩
    (fun x hx j e h2 _ _ ⟨o1, he⟩ => by
      subst he
      obtain ⟨k, _, rfl⟩ := rangeD_mem hx
      obtain ⟨h3, s1⟩ := spot_ok (ns := ns) (h := h2) (k := k)
      exact ⟨_, _, _, _, rfl, by rw [Int.zero_add]; exact s1, _, rfl⟩)
  obtain ⟨o1, he⟩ := q2
  subst he
  refine ⟨h', ?_⟩
  have a1 : iso m_pair_round [.int 6, .tup [.int 2, .int 1]] h' = .ok (.tup [.tup [.int 2, .int 1], .tup [.int 2, .int 3], .tup [.int 2, .int 5]]) h' := iso_ok rfl (h' := [.lst [.tup [.int 2, .int 1], .tup [.int 2, .int 3], .tup [.int 2, .int 5]]]) (by kernel_rfl) rfl h'
  have a2 : iso m_pair_round [.int 6, .tup [.int 1, .int 0]] h' = .ok (.tup [.tup [.int 1, .int 0], .tup [.int 1, .int 1], .tup [.int 1, .int 2], .tup [.int 1, .int 3], .tup [.int 1, .int 4], .tup [.int 1, .int 5]]) h' := iso_ok rfl (h' := [.lst [.tup [.int 1, .int 0], .tup [.int 1, .int 1], .tup [.int 1, .int 2], .tup [.int 1, .int 3], .tup [.int 1, .int 4], .tup [.int 1, .int 5]]]) (by kernel_rfl) rfl h'
  have a3 : iso m_pair_round [.int 1, .tup [.int 0, .int 0]] h' = .ok (.tup [.tup [.int 0, .int 0]]) h' := iso_ok rfl (h' := [.lst [.tup [.int 0, .int 0]]]) (by kernel_rfl) rfl h'
  have b1 : dEq (.tup [.tup [.int 2, .int 1], .tup [.int 2, .int 3], .tup [.int 2, .int 5]]) (.tup [.tup [.int 2, .int 1], .tup [.int 2, .int 3], .tup [.int 2, .int 5]]) h' = .ok (.bl true) h' := by kernel_rfl
  have b2 : dLen (.tup [.tup [.int 1, .int 0], .tup [.int 1, .int 1], .tup [.int 1, .int 2], .tup [.int 1, .int 3], .tup [.int 1, .int 4], .tup [.int 1, .int 5]]) h' = .ok (.int 6) h' := rfl
  have b3 : dEq (.tup [.tup [.int 0, .int 0]]) (.tup [.tup [.int 0, .int 0]]) h' = .ok (.bl true) h' := by kernel_rfl
  unfold m_law
  simp_arith only [List.length_map, rng_ok, q1, a1, a2, a3, b1, b2, b3]
end
end L15

namespace L15
open PySem L2 Evl Pd
open PyProof.Rows (envOfC)
abbrev n__law_roll : List Str := ["_law_dice_here", "_law_total", "_law_one", "_law_two", "_law_found"]
theorem sc__law_roll : FnScope n__law_roll ["_law_dice_here", "_law_total"] (defScope s__law_roll) := ⟨rfl, rfl, rfl, by decide +kernel, rfl, by decide +kernel, by decide +kernel⟩
theorem d__law_roll {B : Cb} {a : Addr} {fd : FuncData} (F : FunD B.K "_law_roll" "_law_roll" (defArgs s__law_roll) (defBody s__law_roll) (defScope s__law_roll) [] [] a fd) (hm : B.mg "_law_roll" = some (.ref a)) (z_int : B.mg "int" = none) : Def B 1 "_law_roll" 2 f__law_roll :=
  Def.mk' (N := n__law_roll) (ps := ["_law_dice_here", "_law_total"]) F hm sc__law_roll (fun _ _ _ _ _ _ us hl => match us, hl with | [_, _], _ => rfl) (fun cdv A outer s H E hr =>
    (bi_cons (si_if (ti_cmp (fun _ => op_gt) oi_gt (nomark _) (ei_ix (ei_var 0) ei_int (fun _ _ => rfl)) ei_int) (bi_cons (si_set 4 sc__law_roll.nd rfl (fun _ => .inl rfl) (fun _ => .inr rfl) (ei_bin (fun _ => op_modN) oi_mod (ei_callTy (fun _ => call_int1) ci_int (fun _ => rfl) z_int (by decide +kernel) (ai_cons (ei_ix (ei_var 0) ei_int (fun _ _ => rfl)) ai_nil)) (ei_var 1))) (bi_cons (si_setL (ei_bin (fun _ => op_divAll) oi_div (ei_ix (ei_var 0) ei_int (fun _ _ => rfl)) (ei_var 1)) (ei_var 0) ei_int) (bi_one (si_ret (ei_var 4))))) bi_nil) (bi_cons (si_setL (ei_bin (fun _ => op_addAll) oi_add (ei_ix (ei_var 0) ei_int (fun _ _ => rfl)) ei_int) (ei_var 0) ei_int) (bi_cons (si_set 2 sc__law_roll.nd rfl (fun _ => .inl rfl) (fun _ => .inr rfl) (ei_bin (fun _ => op_modN) oi_mod (ei_callTy (fun _ => call_int1) ci_int (fun _ => rfl) z_int (by decide +kernel) (ai_cons (ei_bin (fun _ => op_addAll) oi_add (ei_ix (ei_var 0) ei_int (fun _ _ => rfl)) (ei_bin (fun _ => op_mulAll) oi_mul ei_int (ei_ix (ei_var 0) ei_int (fun _ _ => rfl)))) ai_nil)) ei_int)) (bi_cons (si_set 3 sc__law_roll.nd rfl (fun _ => .inl rfl) (fun _ => .inr rfl) (ei_bin (fun _ => op_addAll) oi_add (ei_bin (fun _ => op_mulAll) oi_mul (ei_bin (fun _ => op_modN) oi_mod (ei_callTy (fun _ => call_int1) ci_int (fun _ => rfl) z_int (by decide +kernel) (ai_cons (ei_bin (fun _ => op_addAll) oi_add (ei_bin (fun _ => op_mulAll) oi_mul (ei_var 2) (ei_var 2)) (ei_bin (fun _ => op_mulAll) oi_mul ei_int (ei_ix (ei_var 0) ei_int (fun _ _ => rfl)))) ai_nil)) ei_int) ei_int) (ei_var 2))) (bi_one (si_ret (ei_bin (fun _ => op_modN) oi_mod (ei_callTy (fun _ => call_int1) ci_int (fun _ => rfl) z_int (by decide +kernel) (ai_cons (ei_bin (fun _ => op_divAll) oi_div (ei_var 3) ei_int) ai_nil)) (ei_var 1)))))))))
abbrev n__law_pick : List Str := ["_law_dice_here", "_law_items"]
theorem sc__law_pick : FnScope n__law_pick ["_law_dice_here", "_law_items"] (defScope s__law_pick) := ⟨rfl, rfl, rfl, by decide +kernel, rfl, by decide +kernel, by decide +kernel⟩
theorem d__law_pick {B : Cb} {a : Addr} {fd : FuncData} (F : FunD B.K "_law_pick" "_law_pick" (defArgs s__law_pick) (defBody s__law_pick) (defScope s__law_pick) [] [] a fd) (hm : B.mg "_law_pick" = some (.ref a)) (D__law_roll : Def B 1 "_law_roll" 2 f__law_roll) (z_len : B.mg "len" = none) : Def B 2 "_law_pick" 2 f__law_pick :=
  Def.mk' (N := n__law_pick) (ps := ["_law_dice_here", "_law_items"]) F hm sc__law_pick (fun _ _ _ _ _ _ us hl => match us, hl with | [_, _], _ => rfl) (fun cdv A outer s H E hr =>
    (bi_one (si_ret (ei_ix (ei_var 1) (ei_call D__law_roll (fun _ => hr.mono (by decide)) (fun _ => cy_takes) (fun _ => rfl) rfl (ai_cons (ei_var 0) (ai_cons (ei_callB (fun _ => call_lenA) ci_len (fun _ => rfl) z_len (by decide +kernel) (ai_cons (ei_var 1) ai_nil)) ai_nil)) (len_cons (len_cons (fun _ _ _ _ => len_nil)))) (fun _ _ => rfl)))))
abbrev n__law_level_drawn : List Str := ["_law_dice_here", "_law_most", "_law_some", "_law_one"]
theorem sc__law_level_drawn : FnScope n__law_level_drawn ["_law_dice_here", "_law_most"] (defScope s__law_level_drawn) := ⟨rfl, rfl, rfl, by decide +kernel, rfl, by decide +kernel, by decide +kernel⟩
theorem d__law_level_drawn {B : Cb} {a : Addr} {fd : FuncData} (F : FunD B.K "_law_level_drawn" "_law_level_drawn" (defArgs s__law_level_drawn) (defBody s__law_level_drawn) (defScope s__law_level_drawn) [] [] a fd) (hm : B.mg "_law_level_drawn" = some (.ref a)) (D__law_roll : Def B 1 "_law_roll" 2 f__law_roll) (D__law_pick : Def B 2 "_law_pick" 2 f__law_pick) : Def B 3 "_law_level_drawn" 2 f__law_level_drawn :=
  Def.mk' (N := n__law_level_drawn) (ps := ["_law_dice_here", "_law_most"]) F hm sc__law_level_drawn (fun _ _ _ _ _ _ us hl => match us, hl with | [_, _], _ => rfl) (fun cdv A outer s H E hr =>
    (bi_cons (si_set 2 sc__law_level_drawn.nd rfl (fun _ => .inl rfl) (fun _ => .inr rfl) (ei_lst (ai_cons ei_int (ai_cons ei_int (ai_cons ei_int (ai_cons ei_int (ai_cons ei_int (ai_cons ei_int (ai_cons ei_int (ai_cons ei_int (ai_cons ei_int (ai_cons ei_int (ai_cons ei_int (ai_cons ei_int (ai_cons ei_int (ai_cons ei_int (ai_cons ei_int (ai_cons ei_int (ai_cons ei_int (ai_cons ei_int (ai_cons (ei_bin (fun _ => op_addAll) oi_add ei_int (ei_call D__law_roll (fun _ => hr.mono (by decide)) (fun _ => cy_takes) (fun _ => rfl) rfl (ai_cons (ei_var 0) (ai_cons (ei_var 1) ai_nil)) (len_cons (len_cons (fun _ _ _ _ => len_nil))))) ai_nil))))))))))))))))))))) (bi_one (si_ret (ei_call D__law_pick (fun _ => hr.mono (by decide)) (fun _ => cy_takes) (fun _ => rfl) rfl (ai_cons (ei_var 0) (ai_cons (ei_lc (own := [("_law_one", 3)]) (fun _ => rfl) sc__law_level_drawn.nd (ii_seq (ei_var 2)) (fun _ => show blkC n__law_level_drawn (defScope s__law_level_drawn) _ [("_law_one", 3)] = true by decide +kernel) (gi_name 3 sc__law_level_drawn.nd rfl (fun _ => .inl rfl) (fun _ => .inr rfl)) (tsi_one (ti_cmp (fun _ => op_le) oi_le (nomark _) (ei_var 3) (ei_var 1))) (ei_var 3) (by decide)) ai_nil)) (len_cons (len_cons (fun _ _ _ _ => len_nil))))))))
abbrev n__law_gcd : List Str := ["_law_one", "_law_other"]
theorem sc__law_gcd : FnScope n__law_gcd ["_law_one", "_law_other"] (defScope s__law_gcd) := ⟨rfl, rfl, rfl, by decide +kernel, rfl, by decide +kernel, by decide +kernel⟩
theorem d__law_gcd {B : Cb} {a : Addr} {fd : FuncData} (F : FunD B.K "_law_gcd" "_law_gcd" (defArgs s__law_gcd) (defBody s__law_gcd) (defScope s__law_gcd) [] [] a fd) (hm : B.mg "_law_gcd" = some (.ref a)) (z_abs : B.mg "abs" = none) (z_int : B.mg "int" = none) : Def B 1 "_law_gcd" 2 f__law_gcd :=
  Def.mk' (N := n__law_gcd) (ps := ["_law_one", "_law_other"]) F hm sc__law_gcd (fun _ _ _ _ _ _ us hl => match us, hl with | [_, _], _ => rfl) (fun cdv A outer s H E hr =>
    (bi_cons (si_par (i := 0) (j := 1) (fun _ => rfl) sc__law_gcd.nd rfl rfl (by decide) (fun _ => rfl) (fun _ => rfl) (ai_cons (ei_callB (fun _ => call_abs) ci_abs (fun _ => rfl) z_abs (by decide +kernel) (ai_cons (ei_var 0) ai_nil)) (ai_cons (ei_callB (fun _ => call_abs) ci_abs (fun _ => rfl) z_abs (by decide +kernel) (ai_cons (ei_var 1) ai_nil)) ai_nil)) (fun _ => rfl)) (bi_cons (si_while FU (fun _ => cy_passes) (ti_cmp (fun _ => op_gt) oi_gt (nomark _) (ei_var 1) ei_int) (bi_one (si_par (i := 0) (j := 1) (fun _ => rfl) sc__law_gcd.nd rfl rfl (by decide) (fun _ => rfl) (fun _ => rfl) (ai_cons (ei_var 1) (ai_cons (ei_bin (fun _ => op_modN) oi_mod (ei_callTy (fun _ => call_int1) ci_int (fun _ => rfl) z_int (by decide +kernel) (ai_cons (ei_var 0) ai_nil)) (ei_var 1)) ai_nil)) (fun _ => rfl)))) (bi_one (si_ret (ei_var 0))))))
abbrev n__law_told_pairs : List Str := ["_law_level", "_law_c", "_law_units", "_law_found", "_law_d", "_law_one", "_law_unit"]
theorem sc__law_told_pairs : FnScope n__law_told_pairs ["_law_level"] (defScope s__law_told_pairs) := ⟨rfl, rfl, rfl, by decide +kernel, rfl, by decide +kernel, by decide +kernel⟩
theorem d__law_told_pairs {B : Cb} {a : Addr} {fd : FuncData} (F : FunD B.K "_law_told_pairs" "_law_told_pairs" (defArgs s__law_told_pairs) (defBody s__law_told_pairs) (defScope s__law_told_pairs) [] [] a fd) (hm : B.mg "_law_told_pairs" = some (.ref a)) (z_range : B.mg "range" = none) (D__law_gcd : Def B 1 "_law_gcd" 2 f__law_gcd) (z_int : B.mg "int" = none) : Def B 2 "_law_told_pairs" 1 f__law_told_pairs :=
  Def.mk' (N := n__law_told_pairs) (ps := ["_law_level"]) F hm sc__law_told_pairs (fun _ _ _ _ _ _ us hl => match us, hl with | [_], _ => rfl) (fun cdv A outer s H E hr =>
    (bi_cons (si_par (i := 2) (j := 3) (fun _ => rfl) sc__law_told_pairs.nd rfl rfl (by decide) (fun _ => rfl) (fun _ => rfl) (ai_cons (ei_lc (own := [("_law_one", 5)]) (fun _ => rfl) sc__law_told_pairs.nd (ii_range2 (fun _ => rfl) z_range (ai_cons ei_int (ai_cons (ei_bin (fun _ => op_addAll) oi_add (ei_var 0) ei_int) ai_nil))) (fun _ => show blkC n__law_told_pairs (defScope s__law_told_pairs) _ [("_law_one", 5)] = true by decide +kernel) (gi_name 5 sc__law_told_pairs.nd rfl (fun _ => .inl rfl) (fun _ => .inr rfl)) (tsi_one (ti_cmp (fun _ => op_eqD hr.units) oi_eq (nomark _) (ei_call D__law_gcd (fun _ => hr.mono (by decide)) (fun _ => takes0) (fun _ => rfl) rfl (ai_cons (ei_var 5) (ai_cons (ei_var 0) ai_nil)) (len_cons (len_cons (fun _ _ _ _ => len_nil)))) ei_int)) (ei_var 5) (by decide)) (ai_cons ei_dict0T ai_nil)) (fun _ => rfl)) (bi_cons (si_for (fun _ => cy_passes) (fun _ => rfl) (ii_range1 (fun _ => rfl) z_range (ai_cons (ei_var 0) ai_nil)) (gi_name 1 sc__law_told_pairs.nd rfl (fun _ => .inl rfl) (fun _ => .inr rfl)) (bi_one (si_for (fun _ => cy_passes) (fun _ => rfl) (ii_range1 (fun _ => rfl) z_range (ai_cons (ei_var 0) ai_nil)) (gi_name 4 sc__law_told_pairs.nd rfl (fun _ => .inl rfl) (fun _ => .inr rfl)) (bi_one (si_if (WI.ti (wi_and (ti_tnotin (fun _ => hu_of hr) (ei_tup (ai_cons (ei_var 1) (ai_cons (ei_var 4) ai_nil))) (ei_var 3)) (wi_and1 (ti_cmp (fun _ => op_eqD hr.units) oi_eq (nomark _) (ei_call D__law_gcd (fun _ => hr.mono (by decide)) (fun _ => cy_takes) (fun _ => rfl) rfl (ai_cons (ei_call D__law_gcd (fun _ => hr.mono (by decide)) (fun _ => cy_takes) (fun _ => rfl) rfl (ai_cons (ei_var 1) (ai_cons (ei_var 4) ai_nil)) (len_cons (len_cons (fun _ _ _ _ => len_nil)))) (ai_cons (ei_var 0) ai_nil)) (len_cons (len_cons (fun _ _ _ _ => len_nil)))) ei_int)))) (bi_one (si_for (fun _ => cy_passes) (fun _ => rfl) (ii_seq (ei_var 2)) (gi_name 6 sc__law_told_pairs.nd rfl (fun _ => .inl rfl) (fun _ => .inr rfl)) (bi_one (si_putT (fun _ => hu_of hr) (ei_tup (ai_cons (ei_var 1) (ai_cons (ei_var 4) ai_nil))) (ei_var 3) (ai_cons (ei_bin (fun _ => op_modN) oi_mod (ei_callTy (fun _ => call_int1) ci_int (fun _ => rfl) z_int (by decide +kernel) (ai_cons (ei_bin (fun _ => op_mulAll) oi_mul (ei_var 6) (ei_var 1)) ai_nil)) (ei_var 0)) (ai_cons (ei_bin (fun _ => op_modN) oi_mod (ei_callTy (fun _ => call_int1) ci_int (fun _ => rfl) z_int (by decide +kernel) (ai_cons (ei_bin (fun _ => op_mulAll) oi_mul (ei_var 6) (ei_var 4)) ai_nil)) (ei_var 0)) ai_nil)))))) bi_nil))))) (bi_one (si_ret (ei_frzT (ei_var 3)))))))
abbrev n__law_mixed : List Str := ["_law_dice_here", "_law_items", "_law_turn", "_law_left", "_law_found"]
theorem sc__law_mixed : FnScope n__law_mixed ["_law_dice_here", "_law_items"] (defScope s__law_mixed) := ⟨rfl, rfl, rfl, by decide +kernel, rfl, by decide +kernel, by decide +kernel⟩
theorem d__law_mixed {B : Cb} {a : Addr} {fd : FuncData} (F : FunD B.K "_law_mixed" "_law_mixed" (defArgs s__law_mixed) (defBody s__law_mixed) (defScope s__law_mixed) [] [] a fd) (hm : B.mg "_law_mixed" = some (.ref a)) (z_list : B.mg "list" = none) (z_range : B.mg "range" = none) (z_len : B.mg "len" = none) (D__law_roll : Def B 1 "_law_roll" 2 f__law_roll) : Def B 2 "_law_mixed" 2 f__law_mixed :=
  Def.mk' (N := n__law_mixed) (ps := ["_law_dice_here", "_law_items"]) F hm sc__law_mixed (fun _ _ _ _ _ _ us hl => match us, hl with | [_, _], _ => rfl) (fun cdv A outer s H E hr =>
    (bi_cons (si_par (i := 3) (j := 4) (fun _ => rfl) sc__law_mixed.nd rfl rfl (by decide) (fun _ => rfl) (fun _ => rfl) (ai_cons (ei_callTy (fun _ => call_list_of) ci_listM (fun _ => rfl) z_list (by decide +kernel) (ai_cons (ei_var 1) ai_nil)) (ai_cons (ei_lstM ai_nil) ai_nil)) (fun _ => rfl)) (bi_cons (si_for (fun _ => cy_passes) (fun _ => rfl) (ii_range1 (fun _ => rfl) z_range (ai_cons (ei_callB (fun _ => call_lenA) ci_len (fun _ => rfl) z_len (by decide +kernel) (ai_cons (ei_var 1) ai_nil)) ai_nil)) (gi_name 2 sc__law_mixed.nd rfl (fun _ => .inl rfl) (fun _ => .inr rfl)) (bi_one (si_expr (ei_append (ei_var 4) (ei_popAt (ei_var 3) (ei_call D__law_roll (fun _ => hr.mono (by decide)) (fun _ => cy_takes) (fun _ => rfl) rfl (ai_cons (ei_var 0) (ai_cons (ei_callB (fun _ => call_lenA) ci_len (fun _ => rfl) z_len (by decide +kernel) (ai_cons (ei_var 3) ai_nil)) ai_nil)) (len_cons (len_cons (fun _ _ _ _ => len_nil))))))))) (bi_one (si_ret (ei_frz (ei_var 4)))))))
abbrev n_is_whole : List Str := ["value"]
theorem sc_is_whole : FnScope n_is_whole ["value"] (defScope s_is_whole) := ⟨rfl, rfl, rfl, by decide +kernel, rfl, by decide +kernel, by decide +kernel⟩
theorem d_is_whole {B : Cb} {a : Addr} {fd : FuncData} (F : FunD B.K "is_whole" "is_whole" (defArgs s_is_whole) (defBody s_is_whole) (defScope s_is_whole) [] [] a fd) (hm : B.mg "is_whole" = some (.ref a)) (z_isinstance : B.mg "isinstance" = none) (z_bool : B.mg "bool" = none) (z_int : B.mg "int" = none) : Def B 1 "is_whole" 1 f_is_whole :=
  Def.mk' (N := n_is_whole) (ps := ["value"]) F hm sc_is_whole (fun _ _ _ _ _ _ us hl => match us, hl with | [_], _ => rfl) (fun cdv A outer s H E hr =>
    (bi_one (si_ret (ei_and (ei_callB (fun _ => call_isi) ci_isi (fun _ => rfl) z_isinstance (by decide +kernel) (ai_cons (ei_var 0) (ai_cons (ei_ty (fun _ => rfl) z_int (by decide +kernel)) ai_nil))) (ei_one (ei_not (ei_callB (fun _ => call_isi) ci_isi (fun _ => rfl) z_isinstance (by decide +kernel) (ai_cons (ei_var 0) (ai_cons (ei_ty (fun _ => rfl) z_bool (by decide +kernel)) ai_nil)))))))))
abbrev n_is_level : List Str := ["value"]
theorem sc_is_level : FnScope n_is_level ["value"] (defScope s_is_level) := ⟨rfl, rfl, rfl, by decide +kernel, rfl, by decide +kernel, by decide +kernel⟩
theorem d_is_level {B : Cb} {a : Addr} {fd : FuncData} (F : FunD B.K "is_level" "is_level" (defArgs s_is_level) (defBody s_is_level) (defScope s_is_level) [] [] a fd) (hm : B.mg "is_level" = some (.ref a)) (c_MAX_LEVEL : ∃ t, B.mg "MAX_LEVEL" = some (.int (100) t)) (D_is_whole : Def B 1 "is_whole" 1 f_is_whole) : Def B 2 "is_level" 1 f_is_level :=
  Def.mk' (N := n_is_level) (ps := ["value"]) F hm sc_is_level (fun _ _ _ _ _ _ us hl => match us, hl with | [_], _ => rfl) (fun cdv A outer s H E hr =>
    (bi_one (si_ret (ei_and (ei_call D_is_whole (fun _ => hr.mono (by decide)) (fun _ => cy_takes) (fun _ => rfl) rfl (ai_cons (ei_var 0) ai_nil) (len_cons (fun _ _ _ _ => len_nil))) (ei_one (ei_chain (fun _ => op_le) oi_le (fun _ => op_le) oi_le ei_int (ei_var 0) (ei_gint (fun _ => rfl) c_MAX_LEVEL)))))))
abbrev n_require_level : List Str := ["value"]
theorem sc_require_level : FnScope n_require_level ["value"] (defScope s_require_level) := ⟨rfl, rfl, rfl, by decide +kernel, rfl, by decide +kernel, by decide +kernel⟩
theorem d_require_level {B : Cb} {a : Addr} {fd : FuncData} (F : FunD B.K "require_level" "require_level" (defArgs s_require_level) (defBody s_require_level) (defScope s_require_level) [] [] a fd) (hm : B.mg "require_level" = some (.ref a)) (D_is_level : Def B 2 "is_level" 1 f_is_level) : Def B 3 "require_level" 1 f_require_level :=
  Def.mk' (N := n_require_level) (ps := ["value"]) F hm sc_require_level (fun _ _ _ _ _ _ us hl => match us, hl with | [_], _ => rfl) (fun cdv A outer s H E hr =>
    (bi_one (si_if (ti_not (ti_val (ei_call D_is_level (fun _ => hr.mono (by decide)) (fun _ => cy_takes) (fun _ => rfl) rfl (ai_cons (ei_var 0) ai_nil) (len_cons (fun _ _ _ _ => len_nil))))) (bi_one si_never) bi_nil)))
abbrev n_is_integer : List Str := ["value"]
theorem sc_is_integer : FnScope n_is_integer ["value"] (defScope s_is_integer) := ⟨rfl, rfl, rfl, by decide +kernel, rfl, by decide +kernel, by decide +kernel⟩
theorem d_is_integer {B : Cb} {a : Addr} {fd : FuncData} (F : FunD B.K "is_integer" "is_integer" (defArgs s_is_integer) (defBody s_is_integer) (defScope s_is_integer) [] [] a fd) (hm : B.mg "is_integer" = some (.ref a)) (c_GREAT : ∃ t, B.mg "GREAT" = some (.int (1000000000000000000000000000000000000000000000000000000000000) t)) (D_is_whole : Def B 1 "is_whole" 1 f_is_whole) : Def B 2 "is_integer" 1 f_is_integer :=
  Def.mk' (N := n_is_integer) (ps := ["value"]) F hm sc_is_integer (fun _ _ _ _ _ _ us hl => match us, hl with | [_], _ => rfl) (fun cdv A outer s H E hr =>
    (bi_one (si_ret (ei_and (ei_call D_is_whole (fun _ => hr.mono (by decide)) (fun _ => cy_takes) (fun _ => rfl) rfl (ai_cons (ei_var 0) ai_nil) (len_cons (fun _ _ _ _ => len_nil))) (ei_one (ei_chain (fun _ => op_ltAll hr.units0) oi_lt (fun _ => op_ltAll hr.units0) oi_lt (ei_neg (ei_gint (fun _ => rfl) c_GREAT)) (ei_var 0) (ei_gint (fun _ => rfl) c_GREAT)))))))
abbrev n_is_residue_at : List Str := ["level", "value"]
theorem sc_is_residue_at : FnScope n_is_residue_at ["level", "value"] (defScope s_is_residue_at) := ⟨rfl, rfl, rfl, by decide +kernel, rfl, by decide +kernel, by decide +kernel⟩
theorem d_is_residue_at {B : Cb} {a : Addr} {fd : FuncData} (F : FunD B.K "is_residue_at" "is_residue_at" (defArgs s_is_residue_at) (defBody s_is_residue_at) (defScope s_is_residue_at) [] [] a fd) (hm : B.mg "is_residue_at" = some (.ref a)) (D_is_integer : Def B 2 "is_integer" 1 f_is_integer) : Def B 3 "is_residue_at" 2 f_is_residue_at :=
  Def.mk' (N := n_is_residue_at) (ps := ["level", "value"]) F hm sc_is_residue_at (fun _ _ _ _ _ _ us hl => match us, hl with | [_, _], _ => rfl) (fun cdv A outer s H E hr =>
    (bi_one (si_ret (ei_and (ei_call D_is_integer (fun _ => hr.mono (by decide)) (fun _ => cy_takes) (fun _ => rfl) rfl (ai_cons (ei_var 1) ai_nil) (len_cons (fun _ _ _ _ => len_nil))) (ei_one (ei_chain (fun _ => op_le) oi_le (fun _ => op_ltAll hr.units0) oi_lt ei_int (ei_var 1) (ei_var 0)))))))
abbrev n_common_of_pairs : List Str := ["one", "other"]
theorem sc_common_of_pairs : FnScope n_common_of_pairs ["one", "other"] (defScope s_common_of_pairs) := ⟨rfl, rfl, rfl, by decide +kernel, rfl, by decide +kernel, by decide +kernel⟩
theorem d_common_of_pairs {B : Cb} {a : Addr} {fd : FuncData} (F : FunD B.K "common_of" "common_of" (defArgs s_common_of_pairs) (defBody s_common_of_pairs) (defScope s_common_of_pairs) [] [] a fd) (hm : B.mg "common_of_pairs" = some (.ref a)) (z_abs : B.mg "abs" = none) : Def B 1 "common_of_pairs" 2 f_common_of :=
  Def.mk' (N := n_common_of_pairs) (ps := ["one", "other"]) F hm sc_common_of_pairs (fun _ _ _ _ _ _ us hl => match us, hl with | [_, _], _ => rfl) (fun cdv A outer s H E hr =>
    (bi_cons (si_while FU (fun _ => cy_passes) (ti_cmp (fun _ => op_neD hr.units) oi_ne (nomark _) (ei_var 1) ei_int) (bi_one (si_par (i := 0) (j := 1) (fun _ => rfl) sc_common_of_pairs.nd rfl rfl (by decide) (fun _ => rfl) (fun _ => rfl) (ai_cons (ei_var 1) (ai_cons (ei_bin (fun _ => op_modN) oi_mod (ei_var 0) (ei_var 1)) ai_nil)) (fun _ => rfl)))) (bi_one (si_ret (ei_callB (fun _ => call_abs) ci_abs (fun _ => rfl) z_abs (by decide +kernel) (ai_cons (ei_var 0) ai_nil))))))
abbrev n_units_modulo : List Str := ["level", "unit"]
theorem sc_units_modulo : FnScope n_units_modulo ["level"] (defScope s_units_modulo) := ⟨rfl, rfl, rfl, by decide +kernel, rfl, by decide +kernel, by decide +kernel⟩
theorem d_units_modulo {B : Cb} {a : Addr} {fd : FuncData} (F : FunD B.K "units_modulo" "units_modulo" (defArgs s_units_modulo) (defBody s_units_modulo) (defScope s_units_modulo) [] [] a fd) (hm : B.mg "units_modulo" = some (.ref a)) (z_range : B.mg "range" = none) (D_common_of_pairs : Def B 1 "common_of_pairs" 2 f_common_of) : Def B 2 "units_modulo" 1 f_units_modulo :=
  Def.mk' (N := n_units_modulo) (ps := ["level"]) F hm sc_units_modulo (fun _ _ _ _ _ _ us hl => match us, hl with | [_], _ => rfl) (fun cdv A outer s H E hr =>
    (bi_one (si_ret (ei_lc (own := [("unit", 1)]) (fun _ => rfl) sc_units_modulo.nd (ii_range1 (fun _ => rfl) z_range (ai_cons (ei_var 0) ai_nil)) (fun _ => show blkC n_units_modulo (defScope s_units_modulo) _ [("unit", 1)] = true by decide +kernel) (gi_name 1 sc_units_modulo.nd rfl (fun _ => .inl rfl) (fun _ => .inr rfl)) (tsi_one (ti_cmp (fun _ => op_eqD hr.units) oi_eq (nomark _) (ei_call D_common_of_pairs (fun _ => hr.mono (by decide)) (fun _ => takes0) (fun _ => rfl) rfl (ai_cons (ei_var 1) (ai_cons (ei_var 0) ai_nil)) (len_cons (len_cons (fun _ _ _ _ => len_nil)))) ei_int)) (ei_var 1) (by decide)))))
abbrev n_least_pair : List Str := ["level", "c", "d", "unit"]
theorem sc_least_pair : FnScope n_least_pair ["level", "c", "d"] (defScope s_least_pair) := ⟨rfl, rfl, rfl, by decide +kernel, rfl, by decide +kernel, by decide +kernel⟩
theorem d_least_pair {B : Cb} {a : Addr} {fd : FuncData} (F : FunD B.K "least_pair" "least_pair" (defArgs s_least_pair) (defBody s_least_pair) (defScope s_least_pair) [] [] a fd) (hm : B.mg "least_pair" = some (.ref a)) (z_min : B.mg "min" = none) (D_units_modulo : Def B 2 "units_modulo" 1 f_units_modulo) : Def B 3 "least_pair" 3 f_least_pair :=
  Def.mk' (N := n_least_pair) (ps := ["level", "c", "d"]) F hm sc_least_pair (fun _ _ _ _ _ _ us hl => match us, hl with | [_, _, _], _ => rfl) (fun cdv A outer s H E hr =>
    (bi_one (si_ret (ei_callB (fun _ => (cr_minA rfl (hu_of hr))) ci_minA (fun _ => rfl) z_min (by decide +kernel) (ai_cons (ei_lc (own := [("unit", 3)]) (fun _ => rfl) sc_least_pair.nd (ii_seq (ei_call D_units_modulo (fun _ => hr.mono (by decide)) (fun _ => cy_takes) (fun _ => rfl) rfl (ai_cons (ei_var 0) ai_nil) (len_cons (fun _ _ _ _ => len_nil)))) (fun _ => show blkC n_least_pair (defScope s_least_pair) _ [("unit", 3)] = true by decide +kernel) (gi_name 3 sc_least_pair.nd rfl (fun _ => .inl rfl) (fun _ => .inr rfl)) tsi_nil (ei_tup (ai_cons (ei_bin (fun _ => op_modN) oi_mod (ei_bin (fun _ => op_mulAll) oi_mul (ei_var 3) (ei_var 1)) (ei_var 0)) (ai_cons (ei_bin (fun _ => op_modN) oi_mod (ei_bin (fun _ => op_mulAll) oi_mul (ei_var 3) (ei_var 2)) (ei_var 0)) ai_nil))) (by decide)) ai_nil)))))
abbrev n_do_tell : List Str := ["level", "c", "d"]
theorem sc_do_tell : FnScope n_do_tell ["level", "c", "d"] (defScope s_do_tell) := ⟨rfl, rfl, rfl, by decide +kernel, rfl, by decide +kernel, by decide +kernel⟩
theorem d_do_tell {B : Cb} {a : Addr} {fd : FuncData} (F : FunD B.K "do_tell" "do_tell" (defArgs s_do_tell) (defBody s_do_tell) (defScope s_do_tell) [] [] a fd) (hm : B.mg "do_tell" = some (.ref a)) (D_common_of_pairs : Def B 1 "common_of_pairs" 2 f_common_of) : Def B 2 "do_tell" 3 f_do_tell :=
  Def.mk' (N := n_do_tell) (ps := ["level", "c", "d"]) F hm sc_do_tell (fun _ _ _ _ _ _ us hl => match us, hl with | [_, _, _], _ => rfl) (fun cdv A outer s H E hr =>
    (bi_one (si_ret (ei_cmp (fun _ => op_eqD hr.units) oi_eq (nomark _) (ei_call D_common_of_pairs (fun _ => hr.mono (by decide)) (fun _ => cy_takes) (fun _ => rfl) rfl (ai_cons (ei_call D_common_of_pairs (fun _ => hr.mono (by decide)) (fun _ => cy_takes) (fun _ => rfl) rfl (ai_cons (ei_var 1) (ai_cons (ei_var 2) ai_nil)) (len_cons (len_cons (fun _ _ _ _ => len_nil)))) (ai_cons (ei_var 0) ai_nil)) (len_cons (len_cons (fun _ _ _ _ => len_nil)))) ei_int))))
abbrev n_is_pair_of : List Str := ["level", "value"]
theorem sc_is_pair_of : FnScope n_is_pair_of ["level", "value"] (defScope s_is_pair_of) := ⟨rfl, rfl, rfl, by decide +kernel, rfl, by decide +kernel, by decide +kernel⟩
theorem d_is_pair_of {B : Cb} {a : Addr} {fd : FuncData} (F : FunD B.K "is_pair_of" "is_pair_of" (defArgs s_is_pair_of) (defBody s_is_pair_of) (defScope s_is_pair_of) [] [] a fd) (hm : B.mg "is_pair_of" = some (.ref a)) (z_len : B.mg "len" = none) (z_isinstance : B.mg "isinstance" = none) (z_tuple : B.mg "tuple" = none) (D_is_residue_at : Def B 3 "is_residue_at" 2 f_is_residue_at) (D_least_pair : Def B 3 "least_pair" 3 f_least_pair) (D_do_tell : Def B 2 "do_tell" 3 f_do_tell) : Def B 4 "is_pair_of" 2 f_is_pair_of :=
  Def.mk' (N := n_is_pair_of) (ps := ["level", "value"]) F hm sc_is_pair_of (fun _ _ _ _ _ _ us hl => match us, hl with | [_, _], _ => rfl) (fun cdv A outer s H E hr =>
    (bi_cons (si_if (WI.ti (wi_or (ti_not (ti_val (ei_callB (fun _ => call_isi) ci_isi (fun _ => rfl) z_isinstance (by decide +kernel) (ai_cons (ei_var 1) (ai_cons (ei_ty (fun _ => rfl) z_tuple (by decide +kernel)) ai_nil))))) (wi_or1 (ti_cmp (fun _ => op_neD hr.units) oi_ne (nomark _) (ei_callB (fun _ => call_lenA) ci_len (fun _ => rfl) z_len (by decide +kernel) (ai_cons (ei_var 1) ai_nil)) ei_int)))) (bi_one (si_ret ei_bl)) bi_nil) (bi_cons (si_if (WI.ti (wi_or (ti_not (ti_val (ei_call D_is_residue_at (fun _ => hr.mono (by decide)) (fun _ => cy_takes) (fun _ => rfl) rfl (ai_cons (ei_var 0) (ai_cons (ei_ix (ei_var 1) ei_int (fun _ _ => rfl)) ai_nil)) (len_cons (len_cons (fun _ _ _ _ => len_nil)))))) (wi_or1 (ti_not (ti_val (ei_call D_is_residue_at (fun _ => hr.mono (by decide)) (fun _ => cy_takes) (fun _ => rfl) rfl (ai_cons (ei_var 0) (ai_cons (ei_ix (ei_var 1) ei_int (fun _ _ => rfl)) ai_nil)) (len_cons (len_cons (fun _ _ _ _ => len_nil))))))))) (bi_one (si_ret ei_bl)) bi_nil) (bi_one (si_ret (ei_and (ei_call D_do_tell (fun _ => hr.mono (by decide)) (fun _ => cy_takes) (fun _ => rfl) rfl (ai_cons (ei_var 0) (ai_cons (ei_ix (ei_var 1) ei_int (fun _ _ => rfl)) (ai_cons (ei_ix (ei_var 1) ei_int (fun _ _ => rfl)) ai_nil))) (len_cons (len_cons (len_cons (fun _ _ _ _ => len_nil))))) (ei_one (ei_cmp (fun _ => op_eqD hr.units) oi_eq (nomark _) (ei_call D_least_pair (fun _ => hr.mono (by decide)) (fun _ => cy_takes) (fun _ => rfl) rfl (ai_cons (ei_var 0) (ai_cons (ei_ix (ei_var 1) ei_int (fun _ _ => rfl)) (ai_cons (ei_ix (ei_var 1) ei_int (fun _ _ => rfl)) ai_nil))) (len_cons (len_cons (len_cons (fun _ _ _ _ => len_nil))))) (ei_var 1)))))))))
abbrev n_require_pair : List Str := ["level", "value"]
theorem sc_require_pair : FnScope n_require_pair ["level", "value"] (defScope s_require_pair) := ⟨rfl, rfl, rfl, by decide +kernel, rfl, by decide +kernel, by decide +kernel⟩
theorem d_require_pair {B : Cb} {a : Addr} {fd : FuncData} (F : FunD B.K "require_pair" "require_pair" (defArgs s_require_pair) (defBody s_require_pair) (defScope s_require_pair) [] [] a fd) (hm : B.mg "require_pair" = some (.ref a)) (D_is_pair_of : Def B 4 "is_pair_of" 2 f_is_pair_of) : Def B 5 "require_pair" 2 f_require_pair :=
  Def.mk' (N := n_require_pair) (ps := ["level", "value"]) F hm sc_require_pair (fun _ _ _ _ _ _ us hl => match us, hl with | [_, _], _ => rfl) (fun cdv A outer s H E hr =>
    (bi_one (si_if (ti_not (ti_val (ei_call D_is_pair_of (fun _ => hr.mono (by decide)) (fun _ => cy_takes) (fun _ => rfl) rfl (ai_cons (ei_var 0) (ai_cons (ei_var 1) ai_nil)) (len_cons (len_cons (fun _ _ _ _ => len_nil)))))) (bi_one si_never) bi_nil)))
abbrev n_common_of_rims : List Str := ["one", "other"]
theorem sc_common_of_rims : FnScope n_common_of_rims ["one", "other"] (defScope s_common_of_rims) := ⟨rfl, rfl, rfl, by decide +kernel, rfl, by decide +kernel, by decide +kernel⟩
theorem d_common_of_rims {B : Cb} {a : Addr} {fd : FuncData} (F : FunD B.K "common_of" "common_of" (defArgs s_common_of_rims) (defBody s_common_of_rims) (defScope s_common_of_rims) [] [] a fd) (hm : B.mg "common_of_rims" = some (.ref a)) (z_abs : B.mg "abs" = none) : Def B 1 "common_of_rims" 2 f_common_of :=
  Def.mk' (N := n_common_of_rims) (ps := ["one", "other"]) F hm sc_common_of_rims (fun _ _ _ _ _ _ us hl => match us, hl with | [_, _], _ => rfl) (fun cdv A outer s H E hr =>
    (bi_cons (si_while FU (fun _ => cy_passes) (ti_cmp (fun _ => op_neD hr.units) oi_ne (nomark _) (ei_var 1) ei_int) (bi_one (si_par (i := 0) (j := 1) (fun _ => rfl) sc_common_of_rims.nd rfl rfl (by decide) (fun _ => rfl) (fun _ => rfl) (ai_cons (ei_var 1) (ai_cons (ei_bin (fun _ => op_modN) oi_mod (ei_var 0) (ei_var 1)) ai_nil)) (fun _ => rfl)))) (bi_one (si_ret (ei_callB (fun _ => call_abs) ci_abs (fun _ => rfl) z_abs (by decide +kernel) (ai_cons (ei_var 0) ai_nil))))))
abbrev n_second_row : List Str := ["level", "pair", "first", "second"]
theorem sc_second_row : FnScope n_second_row ["level", "pair"] (defScope s_second_row) := ⟨rfl, rfl, rfl, by decide +kernel, rfl, by decide +kernel, by decide +kernel⟩
theorem d_second_row {B : Cb} {a : Addr} {fd : FuncData} (F : FunD B.K "second_row" "second_row" (defArgs s_second_row) (defBody s_second_row) (defScope s_second_row) [] [] a fd) (hm : B.mg "second_row" = some (.ref a)) (D_common_of_rims : Def B 1 "common_of_rims" 2 f_common_of) : Def B 2 "second_row" 2 m_second_row :=
  Def.mk' (N := n_second_row) (ps := ["level", "pair"]) F hm sc_second_row (fun _ _ _ _ _ _ us hl => match us, hl with | [_, _], _ => rfl) (fun cdv A outer s H E hr =>
    (bi_cons (si_set 2 sc_second_row.nd rfl (fun _ => .inl rfl) (fun _ => .inr rfl) (ei_ifExp (ti_cmp (fun _ => op_gt) oi_gt (nomark _) (ei_ix (ei_var 1) ei_int (fun _ _ => rfl)) ei_int) (ei_ix (ei_var 1) ei_int (fun _ _ => rfl)) (ei_var 0))) (bi_cons (si_set 3 sc_second_row.nd rfl (fun _ => .inl rfl) (fun _ => .inr rfl) (ei_ix (ei_var 1) ei_int (fun _ _ => rfl))) (bi_cons (si_while FU (fun _ => cy_passes) (ti_cmp (fun _ => op_neD hr.units) oi_ne (nomark _) (ei_call D_common_of_rims (fun _ => hr.mono (by decide)) (fun _ => cy_takes) (fun _ => rfl) rfl (ai_cons (ei_var 2) (ai_cons (ei_var 3) ai_nil)) (len_cons (len_cons (fun _ _ _ _ => len_nil)))) ei_int) (bi_one (si_aug 3 sc_second_row.nd rfl (fun _ => .inl rfl) (fun _ => .inr rfl) (fun _ => iop_addAll) oi_iadd (ei_var 0)))) (bi_one (si_ret (ei_tup (ai_cons (ei_var 2) (ai_cons (ei_var 3) ai_nil)))))))))
abbrev n_column_beside : List Str := ["top", "bottom", "one", "other", "first", "second", "left", "right", "quotient"]
theorem sc_column_beside : FnScope n_column_beside ["top", "bottom"] (defScope s_column_beside) := ⟨rfl, rfl, rfl, by decide +kernel, rfl, by decide +kernel, by decide +kernel⟩
theorem d_column_beside {B : Cb} {a : Addr} {fd : FuncData} (F : FunD B.K "column_beside" "column_beside" (defArgs s_column_beside) (defBody s_column_beside) (defScope s_column_beside) [] [] a fd) (hm : B.mg "column_beside" = some (.ref a))  : Def B 1 "column_beside" 2 f_column_beside :=
  Def.mk' (N := n_column_beside) (ps := ["top", "bottom"]) F hm sc_column_beside (fun _ _ _ _ _ _ us hl => match us, hl with | [_, _], _ => rfl) (fun cdv A outer s H E hr =>
    (bi_cons (si_asg (ei_tup (ai_cons (ei_var 1) (ai_cons (ei_var 0) (ai_cons ei_int (ai_cons ei_int ai_nil))))) (gi_tup (fun _ => rfl) (gis_cons (gi_name 2 sc_column_beside.nd rfl (fun _ => .inl rfl) (fun _ => .inr rfl)) (gis_cons (gi_name 3 sc_column_beside.nd rfl (fun _ => .inl rfl) (fun _ => .inr rfl)) (gis_cons (gi_name 4 sc_column_beside.nd rfl (fun _ => .inl rfl) (fun _ => .inr rfl)) (gis_cons (gi_name 5 sc_column_beside.nd rfl (fun _ => .inl rfl) (fun _ => .inr rfl)) gis_nil)))))) (bi_cons (si_asg (ei_tup (ai_cons ei_int (ai_cons ei_int ai_nil))) (gi_tup (fun _ => rfl) (gis_cons (gi_name 6 sc_column_beside.nd rfl (fun _ => .inl rfl) (fun _ => .inr rfl)) (gis_cons (gi_name 7 sc_column_beside.nd rfl (fun _ => .inl rfl) (fun _ => .inr rfl)) gis_nil)))) (bi_cons (si_while FU (fun _ => cy_passes) (ti_cmp (fun _ => op_neD hr.units) oi_ne (nomark _) (ei_var 3) ei_int) (bi_cons (si_set 8 sc_column_beside.nd rfl (fun _ => .inl rfl) (fun _ => .inr rfl) (ei_bin (fun _ => op_divAll) oi_div (ei_var 2) (ei_var 3))) (bi_cons (si_par (i := 2) (j := 3) (fun _ => rfl) sc_column_beside.nd rfl rfl (by decide) (fun _ => rfl) (fun _ => rfl) (ai_cons (ei_var 3) (ai_cons (ei_bin (fun _ => op_sub) oi_sub (ei_var 2) (ei_bin (fun _ => op_mulAll) oi_mul (ei_var 8) (ei_var 3))) ai_nil)) (fun _ => rfl)) (bi_cons (si_par (i := 4) (j := 5) (fun _ => rfl) sc_column_beside.nd rfl rfl (by decide) (fun _ => rfl) (fun _ => rfl) (ai_cons (ei_var 5) (ai_cons (ei_bin (fun _ => op_sub) oi_sub (ei_var 4) (ei_bin (fun _ => op_mulAll) oi_mul (ei_var 8) (ei_var 5))) ai_nil)) (fun _ => rfl)) (bi_one (si_par (i := 6) (j := 7) (fun _ => rfl) sc_column_beside.nd rfl rfl (by decide) (fun _ => rfl) (fun _ => rfl) (ai_cons (ei_var 7) (ai_cons (ei_bin (fun _ => op_sub) oi_sub (ei_var 6) (ei_bin (fun _ => op_mulAll) oi_mul (ei_var 8) (ei_var 7))) ai_nil)) (fun _ => rfl))))))) (bi_one (si_ret (ei_tup (ai_cons (ei_bin (fun _ => op_mulAll) oi_mul (ei_neg (ei_var 6)) (ei_var 2)) (ai_cons (ei_bin (fun _ => op_mulAll) oi_mul (ei_var 4) (ei_var 2)) ai_nil)))))))))
abbrev n_matrix_of : List Str := ["level", "pair", "beside", "first", "second"]
theorem sc_matrix_of : FnScope n_matrix_of ["level", "pair"] (defScope s_matrix_of) := ⟨rfl, rfl, rfl, by decide +kernel, rfl, by decide +kernel, by decide +kernel⟩
theorem d_matrix_of {B : Cb} {a : Addr} {fd : FuncData} (F : FunD B.K "matrix_of" "matrix_of" (defArgs s_matrix_of) (defBody s_matrix_of) (defScope s_matrix_of) [] [] a fd) (hm : B.mg "matrix_of" = some (.ref a)) (D_require_level : Def B 3 "require_level" 1 f_require_level) (D_require_pair : Def B 5 "require_pair" 2 f_require_pair) (D_second_row : Def B 2 "second_row" 2 m_second_row) (D_column_beside : Def B 1 "column_beside" 2 f_column_beside) : Def B 6 "matrix_of" 2 m_matrix_of :=
  Def.mk' (N := n_matrix_of) (ps := ["level", "pair"]) F hm sc_matrix_of (fun _ _ _ _ _ _ us hl => match us, hl with | [_, _], _ => rfl) (fun cdv A outer s H E hr =>
    (bi_cons (si_expr (ei_call D_require_level (fun _ => hr.mono (by decide)) (fun _ => cy_takes) (fun _ => rfl) rfl (ai_cons (ei_var 0) ai_nil) (len_cons (fun _ _ _ _ => len_nil)))) (bi_cons (si_expr (ei_call D_require_pair (fun _ => hr.mono (by decide)) (fun _ => cy_takes) (fun _ => rfl) rfl (ai_cons (ei_var 0) (ai_cons (ei_var 1) ai_nil)) (len_cons (len_cons (fun _ _ _ _ => len_nil))))) (bi_cons (si_asg (ei_call D_second_row (fun _ => hr.mono (by decide)) (fun _ => cy_takes) (fun _ => rfl) rfl (ai_cons (ei_var 0) (ai_cons (ei_var 1) ai_nil)) (len_cons (len_cons (fun _ _ _ _ => len_nil)))) (gi_tup (fun _ => rfl) (gis_cons (gi_name 3 sc_matrix_of.nd rfl (fun _ => .inl rfl) (fun _ => .inr rfl)) (gis_cons (gi_name 4 sc_matrix_of.nd rfl (fun _ => .inl rfl) (fun _ => .inr rfl)) gis_nil)))) (bi_cons (si_set 2 sc_matrix_of.nd rfl (fun _ => .inl rfl) (fun _ => .inr rfl) (ei_call D_column_beside (fun _ => hr.mono (by decide)) (fun _ => cy_takes) (fun _ => rfl) rfl (ai_cons (ei_var 3) (ai_cons (ei_var 4) ai_nil)) (len_cons (len_cons (fun _ _ _ _ => len_nil))))) (bi_one (si_ret (ei_tup (ai_cons (ei_neg (ei_ix (ei_var 2) ei_int (fun _ _ => rfl))) (ai_cons (ei_neg (ei_ix (ei_var 2) ei_int (fun _ _ => rfl))) (ai_cons (ei_var 3) (ai_cons (ei_var 4) ai_nil))))))))))))
abbrev n_pair_round : List Str := ["level", "pair", "found", "here"]
theorem sc_pair_round : FnScope n_pair_round ["level", "pair"] (defScope s_pair_round) := ⟨rfl, rfl, rfl, by decide +kernel, rfl, by decide +kernel, by decide +kernel⟩
theorem d_pair_round {B : Cb} {a : Addr} {fd : FuncData} (F : FunD B.K "pair_round" "pair_round" (defArgs s_pair_round) (defBody s_pair_round) (defScope s_pair_round) [] [] a fd) (hm : B.mg "pair_round" = some (.ref a)) (D_require_level : Def B 3 "require_level" 1 f_require_level) (D_require_pair : Def B 5 "require_pair" 2 f_require_pair) (D_least_pair : Def B 3 "least_pair" 3 f_least_pair) (z_tuple : B.mg "tuple" = none) : Def B 6 "pair_round" 2 m_pair_round :=
  Def.mk' (N := n_pair_round) (ps := ["level", "pair"]) F hm sc_pair_round (fun _ _ _ _ _ _ us hl => match us, hl with | [_, _], _ => rfl) (fun cdv A outer s H E hr =>
    (bi_cons (si_expr (ei_call D_require_level (fun _ => hr.mono (by decide)) (fun _ => cy_takes) (fun _ => rfl) rfl (ai_cons (ei_var 0) ai_nil) (len_cons (fun _ _ _ _ => len_nil)))) (bi_cons (si_expr (ei_call D_require_pair (fun _ => hr.mono (by decide)) (fun _ => cy_takes) (fun _ => rfl) rfl (ai_cons (ei_var 0) (ai_cons (ei_var 1) ai_nil)) (len_cons (len_cons (fun _ _ _ _ => len_nil))))) (bi_cons (si_set 2 sc_pair_round.nd rfl (fun _ => .inl rfl) (fun _ => .inr rfl) (ei_lstM (ai_cons (ei_var 1) ai_nil))) (bi_cons (si_whileW FU 3 (fun _ => cy_passes) sc_pair_round.nd rfl (fun _ => .inl rfl) (fun _ => .inr rfl) (fun _ => op_neD hr.units) oi_ne (nomark _) (ei_call D_least_pair (fun _ => hr.mono (by decide)) (fun _ => cy_takes) (fun _ => rfl) rfl (ai_cons (ei_var 0) (ai_cons (ei_ix (ei_ix (ei_var 2) (ei_fold (f := sNeg (sC (.int 1))) (ei_neg ei_int) (by kernel_rfl)) (fun _ _ => rfl)) ei_int (fun _ _ => rfl)) (ai_cons (ei_bin (fun _ => op_addAll) oi_add (ei_ix (ei_ix (ei_var 2) (ei_fold (f := sNeg (sC (.int 1))) (ei_neg ei_int) (by kernel_rfl)) (fun _ _ => rfl)) ei_int (fun _ _ => rfl)) (ei_ix (ei_ix (ei_var 2) (ei_fold (f := sNeg (sC (.int 1))) (ei_neg ei_int) (by kernel_rfl)) (fun _ _ => rfl)) ei_int (fun _ _ => rfl))) ai_nil))) (len_cons (len_cons (len_cons (fun _ _ _ _ => len_nil))))) (ei_var 1) (bi_one (si_expr (ei_append (ei_var 2) (ei_var 3))))) (bi_one (si_ret (ei_callTy (fun _ => call_tuple_of) ci_tuple (fun _ => rfl) z_tuple (by decide +kernel) (ai_cons (ei_var 2) ai_nil)))))))))
abbrev n__law_lowest : List Str := ["_law_top", "_law_bottom", "_law_shared", "_law_sign"]
theorem sc__law_lowest : FnScope n__law_lowest ["_law_top", "_law_bottom"] (defScope s__law_lowest) := ⟨rfl, rfl, rfl, by decide +kernel, rfl, by decide +kernel, by decide +kernel⟩
theorem d__law_lowest {B : Cb} {a : Addr} {fd : FuncData} (F : FunD B.K "_law_lowest" "_law_lowest" (defArgs s__law_lowest) (defBody s__law_lowest) (defScope s__law_lowest) [] [] a fd) (hm : B.mg "_law_lowest" = some (.ref a)) (D__law_gcd : Def B 1 "_law_gcd" 2 f__law_gcd) : Def B 2 "_law_lowest" 2 f__law_lowest :=
  Def.mk' (N := n__law_lowest) (ps := ["_law_top", "_law_bottom"]) F hm sc__law_lowest (fun _ _ _ _ _ _ us hl => match us, hl with | [_, _], _ => rfl) (fun cdv A outer s H E hr =>
    (bi_cons (si_set 2 sc__law_lowest.nd rfl (fun _ => .inl rfl) (fun _ => .inr rfl) (ei_call D__law_gcd (fun _ => hr.mono (by decide)) (fun _ => cy_takes) (fun _ => rfl) rfl (ai_cons (ei_var 0) (ai_cons (ei_var 1) ai_nil)) (len_cons (len_cons (fun _ _ _ _ => len_nil))))) (bi_cons (si_set 3 sc__law_lowest.nd rfl (fun _ => .inl rfl) (fun _ => .inr rfl) (ei_ifExp (WI.ti (wi_or (ti_cmp (fun _ => op_ltAll hr.units0) oi_lt (nomark _) (ei_var 1) ei_int) (wi_or1 (WI.ti (wi_and (ti_cmp (fun _ => op_eqD hr.units) oi_eq (nomark _) (ei_var 1) ei_int) (wi_and1 (ti_cmp (fun _ => op_ltAll hr.units0) oi_lt (nomark _) (ei_var 0) ei_int))))))) (ei_fold (f := sNeg (sC (.int 1))) (ei_neg ei_int) (by kernel_rfl)) ei_int)) (bi_one (si_ret (ei_tup (ai_cons (ei_bin (fun _ => op_divAll) oi_div (ei_bin (fun _ => op_mulAll) oi_mul (ei_var 3) (ei_var 0)) (ei_var 2)) (ai_cons (ei_bin (fun _ => op_divAll) oi_div (ei_bin (fun _ => op_mulAll) oi_mul (ei_var 3) (ei_var 1)) (ei_var 2)) ai_nil))))))))
abbrev n__law_rim_told : List Str := ["_law_level", "_law_top", "_law_bottom", "_law_share", "_law_shared", "_law_least"]
theorem sc__law_rim_told : FnScope n__law_rim_told ["_law_level", "_law_top", "_law_bottom"] (defScope s__law_rim_told) := ⟨rfl, rfl, rfl, by decide +kernel, rfl, by decide +kernel, by decide +kernel⟩
theorem d__law_rim_told {B : Cb} {a : Addr} {fd : FuncData} (F : FunD B.K "_law_rim_told" "_law_rim_told" (defArgs s__law_rim_told) (defBody s__law_rim_told) (defScope s__law_rim_told) [] [] a fd) (hm : B.mg "_law_rim_told" = some (.ref a)) (D__law_gcd : Def B 1 "_law_gcd" 2 f__law_gcd) (z_range : B.mg "range" = none) : Def B 2 "_law_rim_told" 3 m__law_rim_told :=
  Def.mk' (N := n__law_rim_told) (ps := ["_law_level", "_law_top", "_law_bottom"]) F hm sc__law_rim_told (fun _ _ _ _ _ _ us hl => match us, hl with | [_, _, _], _ => rfl) (fun cdv A outer s H E hr =>
    (bi_cons (si_set 3 sc__law_rim_told.nd rfl (fun _ => .inl rfl) (fun _ => .inr rfl) (ei_call D__law_gcd (fun _ => hr.mono (by decide)) (fun _ => cy_takes) (fun _ => rfl) rfl (ai_cons (ei_var 2) (ai_cons (ei_var 0) ai_nil)) (len_cons (len_cons (fun _ _ _ _ => len_nil))))) (bi_cons (si_set 4 sc__law_rim_told.nd rfl (fun _ => .inl rfl) (fun _ => .inr rfl) (ei_call D__law_gcd (fun _ => hr.mono (by decide)) (fun _ => cy_takes) (fun _ => rfl) rfl (ai_cons (ei_var 3) (ai_cons (ei_bin (fun _ => op_divAll) oi_div (ei_var 0) (ei_var 3)) ai_nil)) (len_cons (len_cons (fun _ _ _ _ => len_nil))))) (bi_cons (si_for (fun _ => cy_passes) (fun _ => rfl) (ii_range1 (fun _ => rfl) z_range (ai_cons (ei_bin (fun _ => op_addAll) oi_add (ei_bin (fun _ => op_mulAll) oi_mul (ei_var 3) (ei_var 4)) ei_int) ai_nil)) (gi_name 5 sc__law_rim_told.nd rfl (fun _ => .inl rfl) (fun _ => .inr rfl)) (bi_one (si_if (WI.ti (wi_and (ti_cmp (fun _ => op_eqD hr.units) oi_eq (nomark _) (ei_call D__law_gcd (fun _ => hr.mono (by decide)) (fun _ => cy_takes) (fun _ => rfl) rfl (ai_cons (ei_var 5) (ai_cons (ei_var 3) ai_nil)) (len_cons (len_cons (fun _ _ _ _ => len_nil)))) ei_int) (wi_and1 (ti_cmp (fun _ => op_eqD hr.units) oi_eq (nomark _) (ei_bin (fun _ => op_modN) oi_mod (ei_bin (fun _ => op_sub) oi_sub (ei_var 5) (ei_bin (fun _ => op_mulAll) oi_mul (ei_var 1) (ei_bin (fun _ => op_divAll) oi_div (ei_var 2) (ei_var 3)))) (ei_var 4)) ei_int)))) (bi_one (si_ret (ei_tup (ai_cons (ei_var 5) (ai_cons (ei_var 3) ai_nil))))) bi_nil))) (bi_one (si_ret (ei_tup (ai_cons ei_int (ai_cons (ei_var 0) ai_nil)))))))))
abbrev n__law_width : List Str := ["_law_level", "_law_fraction"]
theorem sc__law_width : FnScope n__law_width ["_law_level", "_law_fraction"] (defScope s__law_width) := ⟨rfl, rfl, rfl, by decide +kernel, rfl, by decide +kernel, by decide +kernel⟩
theorem d__law_width {B : Cb} {a : Addr} {fd : FuncData} (F : FunD B.K "_law_width" "_law_width" (defArgs s__law_width) (defBody s__law_width) (defScope s__law_width) [] [] a fd) (hm : B.mg "_law_width" = some (.ref a)) (D__law_gcd : Def B 1 "_law_gcd" 2 f__law_gcd) : Def B 2 "_law_width" 2 f__law_width :=
  Def.mk' (N := n__law_width) (ps := ["_law_level", "_law_fraction"]) F hm sc__law_width (fun _ _ _ _ _ _ us hl => match us, hl with | [_, _], _ => rfl) (fun cdv A outer s H E hr =>
    (bi_one (si_ret (ei_bin (fun _ => op_divAll) oi_div (ei_var 0) (ei_call D__law_gcd (fun _ => hr.mono (by decide)) (fun _ => cy_takes) (fun _ => rfl) rfl (ai_cons (ei_var 0) (ai_cons (ei_bin (fun _ => op_mulAll) oi_mul (ei_ix (ei_var 1) ei_int (fun _ _ => rfl)) (ei_ix (ei_var 1) ei_int (fun _ _ => rfl))) ai_nil)) (len_cons (len_cons (fun _ _ _ _ => len_nil))))))))
abbrev n__law_own_round : List Str := ["_law_told", "_law_level", "_law_pair", "_law_found", "_law_turn", "_law_later", "_law_c", "_law_d"]
theorem sc__law_own_round : FnScope n__law_own_round ["_law_told", "_law_level", "_law_pair"] (defScope s__law_own_round) := ⟨rfl, rfl, rfl, by decide +kernel, rfl, by decide +kernel, by decide +kernel⟩
theorem d__law_own_round {B : Cb} {a : Addr} {fd : FuncData} (F : FunD B.K "_law_own_round" "_law_own_round" (defArgs s__law_own_round) (defBody s__law_own_round) (defScope s__law_own_round) [] [] a fd) (hm : B.mg "_law_own_round" = some (.ref a)) (z_range : B.mg "range" = none) (z_int : B.mg "int" = none) (z_tuple : B.mg "tuple" = none) : Def B 1 "_law_own_round" 3 m__law_own_round :=
  Def.mk' (N := n__law_own_round) (ps := ["_law_told", "_law_level", "_law_pair"]) F hm sc__law_own_round (fun _ _ _ _ _ _ us hl => match us, hl with | [_, _, _], _ => rfl) (fun cdv A outer s H E hr =>
    (bi_cons (si_set 3 sc__law_own_round.nd rfl (fun _ => .inl rfl) (fun _ => .inr rfl) (ei_lstM (ai_cons (ei_var 2) ai_nil))) (bi_cons (si_for (fun _ => cy_passes) (fun _ => rfl) (ii_range1 (fun _ => rfl) z_range (ai_cons (ei_var 1) ai_nil)) (gi_name 4 sc__law_own_round.nd rfl (fun _ => .inl rfl) (fun _ => .inr rfl)) (bi_cons (si_asg (ei_ix (ei_var 3) (ei_fold (f := sNeg (sC (.int 1))) (ei_neg ei_int) (by kernel_rfl)) (fun _ _ => rfl)) (gi_tup (fun _ => rfl) (gis_cons (gi_name 6 sc__law_own_round.nd rfl (fun _ => .inl rfl) (fun _ => .inr rfl)) (gis_cons (gi_name 7 sc__law_own_round.nd rfl (fun _ => .inl rfl) (fun _ => .inr rfl)) gis_nil)))) (bi_cons (si_set 5 sc__law_own_round.nd rfl (fun _ => .inl rfl) (fun _ => .inr rfl) (ei_tget (fun _ => hu_of hr) (ei_var 0) (ei_tup (ai_cons (ei_var 6) (ai_cons (ei_bin (fun _ => op_modN) oi_mod (ei_callTy (fun _ => call_int1) ci_int (fun _ => rfl) z_int (by decide +kernel) (ai_cons (ei_bin (fun _ => op_addAll) oi_add (ei_var 6) (ei_var 7)) ai_nil)) (ei_var 1)) ai_nil))) (fun _ _ => rfl))) (bi_cons (si_if (ti_cmp (fun _ => op_eqD hr.units) oi_eq (nomark _) (ei_var 5) (ei_var 2)) (bi_one si_break) bi_nil) (bi_one (si_expr (ei_append (ei_var 3) (ei_var 5)))))))) (bi_one (si_ret (ei_callTy (fun _ => call_tuple_of) ci_tuple (fun _ => rfl) z_tuple (by decide +kernel) (ai_cons (ei_var 3) ai_nil)))))))
abbrev n_is_fraction : List Str := ["value", "top", "bottom", "part"]
theorem sc_is_fraction : FnScope n_is_fraction ["value"] (defScope s_is_fraction) := ⟨rfl, rfl, rfl, by decide +kernel, rfl, by decide +kernel, by decide +kernel⟩
theorem d_is_fraction {B : Cb} {a : Addr} {fd : FuncData} (F : FunD B.K "is_fraction" "is_fraction" (defArgs s_is_fraction) (defBody s_is_fraction) (defScope s_is_fraction) [] [] a fd) (hm : B.mg "is_fraction" = some (.ref a)) (z_all : B.mg "all" = none) (D_is_integer : Def B 2 "is_integer" 1 f_is_integer) (z_len : B.mg "len" = none) (z_isinstance : B.mg "isinstance" = none) (z_tuple : B.mg "tuple" = none) (c_MAX_PART : ∃ t, B.mg "MAX_PART" = some (.int (100000000000000000000) t)) (D_common_of_rims : Def B 1 "common_of_rims" 2 f_common_of) : Def B 3 "is_fraction" 1 f_is_fraction :=
  Def.mk' (N := n_is_fraction) (ps := ["value"]) F hm sc_is_fraction (fun _ _ _ _ _ _ us hl => match us, hl with | [_], _ => rfl) (fun cdv A outer s H E hr =>
    (bi_cons (si_if (WI.ti (wi_or (ti_not (ti_val (ei_callB (fun _ => call_isi) ci_isi (fun _ => rfl) z_isinstance (by decide +kernel) (ai_cons (ei_var 0) (ai_cons (ei_ty (fun _ => rfl) z_tuple (by decide +kernel)) ai_nil))))) (wi_or (ti_cmp (fun _ => op_neD hr.units) oi_ne (nomark _) (ei_callB (fun _ => call_lenA) ci_len (fun _ => rfl) z_len (by decide +kernel) (ai_cons (ei_var 0) ai_nil)) ei_int) (wi_or1 (ti_not (ti_val (ei_callB (fun _ => (cr_all rfl)) ci_all (fun _ => rfl) z_all (by decide +kernel) (ai_cons (ei_lc (own := [("part", 3)]) (fun _ => rfl) sc_is_fraction.nd (ii_seq (ei_var 0)) (fun _ => show blkC n_is_fraction (defScope s_is_fraction) _ [("part", 3)] = true by decide +kernel) (gi_name 3 sc_is_fraction.nd rfl (fun _ => .inl rfl) (fun _ => .inr rfl)) tsi_nil (ei_call D_is_integer (fun _ => hr.mono (by decide)) (fun _ => takes0) (fun _ => rfl) rfl (ai_cons (ei_var 3) ai_nil) (len_cons (fun _ _ _ _ => len_nil))) (by decide)) ai_nil)))))))) (bi_one (si_ret ei_bl)) bi_nil) (bi_cons (si_asg (ei_var 0) (gi_tup (fun _ => rfl) (gis_cons (gi_name 1 sc_is_fraction.nd rfl (fun _ => .inl rfl) (fun _ => .inr rfl)) (gis_cons (gi_name 2 sc_is_fraction.nd rfl (fun _ => .inl rfl) (fun _ => .inr rfl)) gis_nil)))) (bi_cons (si_if (WI.ti (wi_or (ti_not (ti_chain (fun _ => op_le) oi_le (fun _ => op_le) oi_le (ei_neg (ei_gint (fun _ => rfl) c_MAX_PART)) (ei_var 1) (ei_gint (fun _ => rfl) c_MAX_PART))) (wi_or1 (ti_not (ti_chain (fun _ => op_le) oi_le (fun _ => op_le) oi_le ei_int (ei_var 2) (ei_gint (fun _ => rfl) c_MAX_PART)))))) (bi_one (si_ret ei_bl)) bi_nil) (bi_one (si_ret (ei_ifExp (ti_cmp (fun _ => op_eqD hr.units) oi_eq (nomark _) (ei_var 2) ei_int) (ei_cmp (fun _ => op_eqD hr.units) oi_eq (nomark _) (ei_var 0) (ei_tup (ai_cons ei_int (ai_cons ei_int ai_nil)))) (ei_cmp (fun _ => op_eqD hr.units) oi_eq (nomark _) (ei_call D_common_of_rims (fun _ => hr.mono (by decide)) (fun _ => cy_takes) (fun _ => rfl) rfl (ai_cons (ei_var 1) (ai_cons (ei_var 2) ai_nil)) (len_cons (len_cons (fun _ _ _ _ => len_nil)))) ei_int))))))))
abbrev n_require_fraction : List Str := ["value"]
theorem sc_require_fraction : FnScope n_require_fraction ["value"] (defScope s_require_fraction) := ⟨rfl, rfl, rfl, by decide +kernel, rfl, by decide +kernel, by decide +kernel⟩
theorem d_require_fraction {B : Cb} {a : Addr} {fd : FuncData} (F : FunD B.K "require_fraction" "require_fraction" (defArgs s_require_fraction) (defBody s_require_fraction) (defScope s_require_fraction) [] [] a fd) (hm : B.mg "require_fraction" = some (.ref a)) (D_is_fraction : Def B 3 "is_fraction" 1 f_is_fraction) : Def B 4 "require_fraction" 1 f_require_fraction :=
  Def.mk' (N := n_require_fraction) (ps := ["value"]) F hm sc_require_fraction (fun _ _ _ _ _ _ us hl => match us, hl with | [_], _ => rfl) (fun cdv A outer s H E hr =>
    (bi_one (si_if (ti_not (ti_val (ei_call D_is_fraction (fun _ => hr.mono (by decide)) (fun _ => cy_takes) (fun _ => rfl) rfl (ai_cons (ei_var 0) ai_nil) (len_cons (fun _ _ _ _ => len_nil))))) (bi_one si_never) bi_nil)))
abbrev n_width_in : List Str := ["level", "fraction"]
theorem sc_width_in : FnScope n_width_in ["level", "fraction"] (defScope s_width_in) := ⟨rfl, rfl, rfl, by decide +kernel, rfl, by decide +kernel, by decide +kernel⟩
theorem d_width_in {B : Cb} {a : Addr} {fd : FuncData} (F : FunD B.K "width_in" "width_in" (defArgs s_width_in) (defBody s_width_in) (defScope s_width_in) [] [] a fd) (hm : B.mg "width_in" = some (.ref a)) (D_common_of_rims : Def B 1 "common_of_rims" 2 f_common_of) : Def B 2 "width_in" 2 f_width_in :=
  Def.mk' (N := n_width_in) (ps := ["level", "fraction"]) F hm sc_width_in (fun _ _ _ _ _ _ us hl => match us, hl with | [_, _], _ => rfl) (fun cdv A outer s H E hr =>
    (bi_one (si_ret (ei_bin (fun _ => op_divAll) oi_div (ei_var 0) (ei_call D_common_of_rims (fun _ => hr.mono (by decide)) (fun _ => cy_takes) (fun _ => rfl) rfl (ai_cons (ei_var 0) (ai_cons (ei_bin (fun _ => op_mulAll) oi_mul (ei_ix (ei_var 1) ei_int (fun _ _ => rfl)) (ei_ix (ei_var 1) ei_int (fun _ _ => rfl))) ai_nil)) (len_cons (len_cons (fun _ _ _ _ => len_nil))))))))
abbrev n_width_of : List Str := ["level", "fraction"]
theorem sc_width_of : FnScope n_width_of ["level", "fraction"] (defScope s_width_of) := ⟨rfl, rfl, rfl, by decide +kernel, rfl, by decide +kernel, by decide +kernel⟩
theorem d_width_of {B : Cb} {a : Addr} {fd : FuncData} (F : FunD B.K "width_of" "width_of" (defArgs s_width_of) (defBody s_width_of) (defScope s_width_of) [] [] a fd) (hm : B.mg "width_of" = some (.ref a)) (D_require_level : Def B 3 "require_level" 1 f_require_level) (D_require_fraction : Def B 4 "require_fraction" 1 f_require_fraction) (D_width_in : Def B 2 "width_in" 2 f_width_in) : Def B 5 "width_of" 2 m_width_of :=
  Def.mk' (N := n_width_of) (ps := ["level", "fraction"]) F hm sc_width_of (fun _ _ _ _ _ _ us hl => match us, hl with | [_, _], _ => rfl) (fun cdv A outer s H E hr =>
    (bi_cons (si_expr (ei_call D_require_level (fun _ => hr.mono (by decide)) (fun _ => cy_takes) (fun _ => rfl) rfl (ai_cons (ei_var 0) ai_nil) (len_cons (fun _ _ _ _ => len_nil)))) (bi_cons (si_expr (ei_call D_require_fraction (fun _ => hr.mono (by decide)) (fun _ => cy_takes) (fun _ => rfl) rfl (ai_cons (ei_var 1) ai_nil) (len_cons (fun _ _ _ _ => len_nil)))) (bi_one (si_ret (ei_call D_width_in (fun _ => hr.mono (by decide)) (fun _ => cy_takes) (fun _ => rfl) rfl (ai_cons (ei_var 0) (ai_cons (ei_var 1) ai_nil)) (len_cons (len_cons (fun _ _ _ _ => len_nil)))))))))
abbrev n_least_top : List Str := ["part", "share", "rest", "found"]
theorem sc_least_top : FnScope n_least_top ["part", "share", "rest"] (defScope s_least_top) := ⟨rfl, rfl, rfl, by decide +kernel, rfl, by decide +kernel, by decide +kernel⟩
theorem d_least_top {B : Cb} {a : Addr} {fd : FuncData} (F : FunD B.K "least_top" "least_top" (defArgs s_least_top) (defBody s_least_top) (defScope s_least_top) [] [] a fd) (hm : B.mg "least_top" = some (.ref a)) (D_common_of_rims : Def B 1 "common_of_rims" 2 f_common_of) : Def B 2 "least_top" 3 f_least_top :=
  Def.mk' (N := n_least_top) (ps := ["part", "share", "rest"]) F hm sc_least_top (fun _ _ _ _ _ _ us hl => match us, hl with | [_, _, _], _ => rfl) (fun cdv A outer s H E hr =>
    (bi_cons (si_set 3 sc_least_top.nd rfl (fun _ => .inl rfl) (fun _ => .inr rfl) (ei_bin (fun _ => op_modN) oi_mod (ei_var 2) (ei_var 1))) (bi_cons (si_while FU (fun _ => cy_passes) (ti_cmp (fun _ => op_neD hr.units) oi_ne (nomark _) (ei_call D_common_of_rims (fun _ => hr.mono (by decide)) (fun _ => cy_takes) (fun _ => rfl) rfl (ai_cons (ei_var 3) (ai_cons (ei_var 0) ai_nil)) (len_cons (len_cons (fun _ _ _ _ => len_nil)))) ei_int) (bi_one (si_aug 3 sc_least_top.nd rfl (fun _ => .inl rfl) (fun _ => .inr rfl) (fun _ => iop_addAll) oi_iadd (ei_var 1)))) (bi_one (si_ret (ei_var 3))))))
abbrev n_rim_in : List Str := ["level", "fraction", "part", "top", "bottom"]
theorem sc_rim_in : FnScope n_rim_in ["level", "fraction"] (defScope s_rim_in) := ⟨rfl, rfl, rfl, by decide +kernel, rfl, by decide +kernel, by decide +kernel⟩
theorem d_rim_in {B : Cb} {a : Addr} {fd : FuncData} (F : FunD B.K "rim_in" "rim_in" (defArgs s_rim_in) (defBody s_rim_in) (defScope s_rim_in) [] [] a fd) (hm : B.mg "rim_in" = some (.ref a)) (D_common_of_rims : Def B 1 "common_of_rims" 2 f_common_of) (D_least_top : Def B 2 "least_top" 3 f_least_top) : Def B 3 "rim_in" 2 f_rim_in :=
  Def.mk' (N := n_rim_in) (ps := ["level", "fraction"]) F hm sc_rim_in (fun _ _ _ _ _ _ us hl => match us, hl with | [_, _], _ => rfl) (fun cdv A outer s H E hr =>
    (bi_cons (si_asg (ei_var 1) (gi_tup (fun _ => rfl) (gis_cons (gi_name 3 sc_rim_in.nd rfl (fun _ => .inl rfl) (fun _ => .inr rfl)) (gis_cons (gi_name 4 sc_rim_in.nd rfl (fun _ => .inl rfl) (fun _ => .inr rfl)) gis_nil)))) (bi_cons (si_set 2 sc_rim_in.nd rfl (fun _ => .inl rfl) (fun _ => .inr rfl) (ei_call D_common_of_rims (fun _ => hr.mono (by decide)) (fun _ => cy_takes) (fun _ => rfl) rfl (ai_cons (ei_var 4) (ai_cons (ei_var 0) ai_nil)) (len_cons (len_cons (fun _ _ _ _ => len_nil))))) (bi_one (si_ret (ei_tup (ai_cons (ei_call D_least_top (fun _ => hr.mono (by decide)) (fun _ => cy_takes) (fun _ => rfl) rfl (ai_cons (ei_var 2) (ai_cons (ei_call D_common_of_rims (fun _ => hr.mono (by decide)) (fun _ => cy_takes) (fun _ => rfl) rfl (ai_cons (ei_var 2) (ai_cons (ei_bin (fun _ => op_divAll) oi_div (ei_var 0) (ei_var 2)) ai_nil)) (len_cons (len_cons (fun _ _ _ _ => len_nil)))) (ai_cons (ei_bin (fun _ => op_mulAll) oi_mul (ei_var 3) (ei_bin (fun _ => op_divAll) oi_div (ei_var 4) (ei_var 2))) ai_nil))) (len_cons (len_cons (len_cons (fun _ _ _ _ => len_nil))))) (ai_cons (ei_var 2) ai_nil))))))))
abbrev n_rim_of : List Str := ["level", "fraction"]
theorem sc_rim_of : FnScope n_rim_of ["level", "fraction"] (defScope s_rim_of) := ⟨rfl, rfl, rfl, by decide +kernel, rfl, by decide +kernel, by decide +kernel⟩
theorem d_rim_of {B : Cb} {a : Addr} {fd : FuncData} (F : FunD B.K "rim_of" "rim_of" (defArgs s_rim_of) (defBody s_rim_of) (defScope s_rim_of) [] [] a fd) (hm : B.mg "rim_of" = some (.ref a)) (D_require_level : Def B 3 "require_level" 1 f_require_level) (D_require_fraction : Def B 4 "require_fraction" 1 f_require_fraction) (D_rim_in : Def B 3 "rim_in" 2 f_rim_in) : Def B 5 "rim_of" 2 f_rim_of :=
  Def.mk' (N := n_rim_of) (ps := ["level", "fraction"]) F hm sc_rim_of (fun _ _ _ _ _ _ us hl => match us, hl with | [_, _], _ => rfl) (fun cdv A outer s H E hr =>
    (bi_cons (si_expr (ei_call D_require_level (fun _ => hr.mono (by decide)) (fun _ => cy_takes) (fun _ => rfl) rfl (ai_cons (ei_var 0) ai_nil) (len_cons (fun _ _ _ _ => len_nil)))) (bi_cons (si_expr (ei_call D_require_fraction (fun _ => hr.mono (by decide)) (fun _ => cy_takes) (fun _ => rfl) rfl (ai_cons (ei_var 1) ai_nil) (len_cons (fun _ _ _ _ => len_nil)))) (bi_one (si_ret (ei_call D_rim_in (fun _ => hr.mono (by decide)) (fun _ => cy_takes) (fun _ => rfl) rfl (ai_cons (ei_var 0) (ai_cons (ei_var 1) ai_nil)) (len_cons (len_cons (fun _ _ _ _ => len_nil)))))))))
abbrev n_require_positive : List Str := ["value"]
theorem sc_require_positive : FnScope n_require_positive ["value"] (defScope s_require_positive) := ⟨rfl, rfl, rfl, by decide +kernel, rfl, by decide +kernel, by decide +kernel⟩
theorem d_require_positive {B : Cb} {a : Addr} {fd : FuncData} (F : FunD B.K "require_positive" "require_positive" (defArgs s_require_positive) (defBody s_require_positive) (defScope s_require_positive) [] [] a fd) (hm : B.mg "require_positive" = some (.ref a)) (D_is_integer : Def B 2 "is_integer" 1 f_is_integer) : Def B 3 "require_positive" 1 f_require_positive :=
  Def.mk' (N := n_require_positive) (ps := ["value"]) F hm sc_require_positive (fun _ _ _ _ _ _ us hl => match us, hl with | [_], _ => rfl) (fun cdv A outer s H E hr =>
    (bi_one (si_if (WI.ti (wi_or (ti_not (ti_val (ei_call D_is_integer (fun _ => hr.mono (by decide)) (fun _ => cy_takes) (fun _ => rfl) rfl (ai_cons (ei_var 0) ai_nil) (len_cons (fun _ _ _ _ => len_nil))))) (wi_or1 (ti_cmp (fun _ => op_ltAll hr.units0) oi_lt (nomark _) (ei_var 0) ei_int)))) (bi_one si_never) bi_nil)))
abbrev n_require_factored : List Str := ["number"]
theorem sc_require_factored : FnScope n_require_factored ["number"] (defScope s_require_factored) := ⟨rfl, rfl, rfl, by decide +kernel, rfl, by decide +kernel, by decide +kernel⟩
theorem d_require_factored {B : Cb} {a : Addr} {fd : FuncData} (F : FunD B.K "require_factored" "require_factored" (defArgs s_require_factored) (defBody s_require_factored) (defScope s_require_factored) [] [] a fd) (hm : B.mg "require_factored" = some (.ref a)) (c_MAX_FACTORED : ∃ t, B.mg "MAX_FACTORED" = some (.int (1000000000) t)) : Def B 1 "require_factored" 1 f_require_factored :=
  Def.mk' (N := n_require_factored) (ps := ["number"]) F hm sc_require_factored (fun _ _ _ _ _ _ us hl => match us, hl with | [_], _ => rfl) (fun cdv A outer s H E hr =>
    (bi_one (si_if (ti_cmp (fun _ => op_gt) oi_gt (nomark _) (ei_var 0) (ei_gint (fun _ => rfl) c_MAX_FACTORED)) (bi_one si_never) bi_nil)))
abbrev n_powers_in : List Str := ["number", "found", "left", "factor"]
theorem sc_powers_in : FnScope n_powers_in ["number"] (defScope s_powers_in) := ⟨rfl, rfl, rfl, by decide +kernel, rfl, by decide +kernel, by decide +kernel⟩
theorem d_powers_in {B : Cb} {a : Addr} {fd : FuncData} (F : FunD B.K "powers_in" "powers_in" (defArgs s_powers_in) (defBody s_powers_in) (defScope s_powers_in) [] [] a fd) (hm : B.mg "powers_in" = some (.ref a))  : Def B 1 "powers_in" 1 f_powers_in :=
  Def.mk' (N := n_powers_in) (ps := ["number"]) F hm sc_powers_in (fun _ _ _ _ _ _ us hl => match us, hl with | [_], _ => rfl) (fun cdv A outer s H E hr =>
    (bi_cons (si_par3 (i := 1) (j := 2) (l := 3) (fun _ => rfl) sc_powers_in.nd rfl rfl rfl (by decide) (by decide) (by decide) (fun _ => rfl) (fun _ => rfl) (fun _ => rfl) (ai_cons ei_dict0 (ai_cons (ei_var 0) (ai_cons ei_int ai_nil))) (fun _ => rfl)) (bi_cons (si_while FU (fun _ => cy_passes) (ti_cmp (fun _ => op_le) oi_le (nomark _) (ei_bin (fun _ => op_mulAll) oi_mul (ei_var 3) (ei_var 3)) (ei_var 2)) (bi_cons (si_while FU (fun _ => cy_passes) (ti_cmp (fun _ => op_eqD hr.units) oi_eq (nomark _) (ei_bin (fun _ => op_modN) oi_mod (ei_var 2) (ei_var 3)) ei_int) (bi_cons (si_putD (fun _ => hu_of hr) (ei_bin (fun _ => op_addAll) oi_add (ei_dget2 (fun _ => hu_of hr) (ei_var 1) (ei_var 3) ei_int) ei_int) (ei_var 1) (ei_var 3)) (bi_one (si_aug 2 sc_powers_in.nd rfl (fun _ => .inl rfl) (fun _ => .inr rfl) (fun _ => iop_fdivW) oi_idiv (ei_var 3))))) (bi_one (si_aug 3 sc_powers_in.nd rfl (fun _ => .inl rfl) (fun _ => .inr rfl) (fun _ => iop_addAll) oi_iadd (ei_ifExp (ti_cmp (fun _ => op_eqD hr.units) oi_eq (nomark _) (ei_var 3) ei_int) ei_int ei_int))))) (bi_cons (si_if (ti_cmp (fun _ => op_gt) oi_gt (nomark _) (ei_var 2) ei_int) (bi_one (si_putD (fun _ => hu_of hr) (ei_bin (fun _ => op_addAll) oi_add (ei_dget2 (fun _ => hu_of hr) (ei_var 1) (ei_var 2) ei_int) ei_int) (ei_var 1) (ei_var 2))) bi_nil) (bi_one (si_ret (ei_frz (ei_var 1))))))))
abbrev n_divisors_in : List Str := ["number", "found", "prime", "many", "turn", "power", "longer", "one"]
theorem sc_divisors_in : FnScope n_divisors_in ["number"] (defScope s_divisors_in) := ⟨rfl, rfl, rfl, by decide +kernel, rfl, by decide +kernel, by decide +kernel⟩
theorem d_divisors_in {B : Cb} {a : Addr} {fd : FuncData} (F : FunD B.K "divisors_in" "divisors_in" (defArgs s_divisors_in) (defBody s_divisors_in) (defScope s_divisors_in) [] [] a fd) (hm : B.mg "divisors_in" = some (.ref a)) (D_powers_in : Def B 1 "powers_in" 1 f_powers_in) (z_list : B.mg "list" = none) (z_range : B.mg "range" = none) (z_sorted : B.mg "sorted" = none) : Def B 2 "divisors_in" 1 f_divisors_in :=
  Def.mk' (N := n_divisors_in) (ps := ["number"]) F hm sc_divisors_in (fun _ _ _ _ _ _ us hl => match us, hl with | [_], _ => rfl) (fun cdv A outer s H E hr =>
    (bi_cons (si_set 1 sc_divisors_in.nd rfl (fun _ => .inl rfl) (fun _ => .inr rfl) (ei_lst (ai_cons ei_int ai_nil))) (bi_cons (si_for (fun _ => cy_passes) (fun _ => rfl) (ii_items (ei_call D_powers_in (fun _ => hr.mono (by decide)) (fun _ => cy_takes) (fun _ => rfl) rfl (ai_cons (ei_var 0) ai_nil) (len_cons (fun _ _ _ _ => len_nil)))) (gi_tup (fun _ => rfl) (gis_cons (gi_name 2 sc_divisors_in.nd rfl (fun _ => .inl rfl) (fun _ => .inr rfl)) (gis_cons (gi_name 3 sc_divisors_in.nd rfl (fun _ => .inl rfl) (fun _ => .inr rfl)) gis_nil))) (bi_cons (si_asg (ei_tup (ai_cons ei_int (ai_cons (ei_callTy (fun _ => call_list_of) ci_listM (fun _ => rfl) z_list (by decide +kernel) (ai_cons (ei_var 1) ai_nil)) ai_nil))) (gi_tup (fun _ => rfl) (gis_cons (gi_name 5 sc_divisors_in.nd rfl (fun _ => .inr rfl) (fun _ => .inl rfl)) (gis_cons (gi_name 6 sc_divisors_in.nd rfl (fun _ => .inl rfl) (fun _ => .inr rfl)) gis_nil)))) (bi_cons (si_for (fun _ => cy_passes) (fun _ => rfl) (ii_range1 (fun _ => rfl) z_range (ai_cons (ei_var 3) ai_nil)) (gi_name 4 sc_divisors_in.nd rfl (fun _ => .inl rfl) (fun _ => .inr rfl)) (bi_cons (si_aug 5 sc_divisors_in.nd rfl (fun _ => .inr rfl) (fun _ => .inl rfl) (fun _ => iop_mul) oi_imul (ei_var 2)) (bi_one (si_expr (ei_extend (ei_var 6) (ei_lc (own := [("one", 7)]) (fun _ => rfl) sc_divisors_in.nd (ii_seq (ei_var 1)) (fun _ => show blkC n_divisors_in (defScope s_divisors_in) _ [("one", 7)] = true by decide +kernel) (gi_name 7 sc_divisors_in.nd rfl (fun _ => .inl rfl) (fun _ => .inr rfl)) tsi_nil (ei_bin (fun _ => op_mulAll) oi_mul (ei_var 7) (ei_var 5)) (by decide))))))) (bi_one (si_set 1 sc_divisors_in.nd rfl (fun _ => .inl rfl) (fun _ => .inr rfl) (ei_frz (ei_var 6))))))) (bi_one (si_ret (ei_callB (fun _ => Pd.cr_sorted) ci_sorted (fun _ => rfl) z_sorted (by decide +kernel) (ai_cons (ei_var 1) ai_nil)))))))
abbrev n_divisors : List Str := ["number"]
theorem sc_divisors : FnScope n_divisors ["number"] (defScope s_divisors) := ⟨rfl, rfl, rfl, by decide +kernel, rfl, by decide +kernel, by decide +kernel⟩
theorem d_divisors {B : Cb} {a : Addr} {fd : FuncData} (F : FunD B.K "divisors" "divisors" (defArgs s_divisors) (defBody s_divisors) (defScope s_divisors) [] [] a fd) (hm : B.mg "divisors" = some (.ref a)) (D_require_positive : Def B 3 "require_positive" 1 f_require_positive) (D_require_factored : Def B 1 "require_factored" 1 f_require_factored) (z_tuple : B.mg "tuple" = none) (D_divisors_in : Def B 2 "divisors_in" 1 f_divisors_in) : Def B 4 "divisors" 1 f_divisors :=
  Def.mk' (N := n_divisors) (ps := ["number"]) F hm sc_divisors (fun _ _ _ _ _ _ us hl => match us, hl with | [_], _ => rfl) (fun cdv A outer s H E hr =>
    (bi_cons (si_expr (ei_call D_require_positive (fun _ => hr.mono (by decide)) (fun _ => cy_takes) (fun _ => rfl) rfl (ai_cons (ei_var 0) ai_nil) (len_cons (fun _ _ _ _ => len_nil)))) (bi_cons (si_expr (ei_call D_require_factored (fun _ => hr.mono (by decide)) (fun _ => cy_takes) (fun _ => rfl) rfl (ai_cons (ei_var 0) ai_nil) (len_cons (fun _ _ _ _ => len_nil)))) (bi_one (si_ret (ei_callTy (fun _ => call_tuple_of) ci_tuple (fun _ => rfl) z_tuple (by decide +kernel) (ai_cons (ei_call D_divisors_in (fun _ => hr.mono (by decide)) (fun _ => cy_takes) (fun _ => rfl) rfl (ai_cons (ei_var 0) ai_nil) (len_cons (fun _ _ _ _ => len_nil))) ai_nil)))))))
abbrev n_require_count : List Str := ["value", "least", "most"]
theorem sc_require_count : FnScope n_require_count ["value", "least", "most"] (defScope s_require_count) := ⟨rfl, rfl, rfl, by decide +kernel, rfl, by decide +kernel, by decide +kernel⟩
theorem d_require_count {B : Cb} {a : Addr} {fd : FuncData} (F : FunD B.K "require_count" "require_count" (defArgs s_require_count) (defBody s_require_count) (defScope s_require_count) [] [] a fd) (hm : B.mg "require_count" = some (.ref a)) (D_is_integer : Def B 2 "is_integer" 1 f_is_integer) : Def B 3 "require_count" 3 f_require_count :=
  Def.mk' (N := n_require_count) (ps := ["value", "least", "most"]) F hm sc_require_count (fun _ _ _ _ _ _ us hl => match us, hl with | [_, _, _], _ => rfl) (fun cdv A outer s H E hr =>
    (bi_one (si_if (WI.ti (wi_or (ti_not (ti_val (ei_call D_is_integer (fun _ => hr.mono (by decide)) (fun _ => cy_takes) (fun _ => rfl) rfl (ai_cons (ei_var 0) ai_nil) (len_cons (fun _ _ _ _ => len_nil))))) (wi_or1 (ti_not (ti_chain (fun _ => op_le) oi_le (fun _ => op_le) oi_le (ei_var 1) (ei_var 0) (ei_var 2)))))) (bi_one si_never) bi_nil)))
abbrev n_units_in : List Str := ["modulus", "found", "prime"]
theorem sc_units_in : FnScope n_units_in ["modulus"] (defScope s_units_in) := ⟨rfl, rfl, rfl, by decide +kernel, rfl, by decide +kernel, by decide +kernel⟩
theorem d_units_in {B : Cb} {a : Addr} {fd : FuncData} (F : FunD B.K "units_in" "units_in" (defArgs s_units_in) (defBody s_units_in) (defScope s_units_in) [] [] a fd) (hm : B.mg "units_in" = some (.ref a)) (D_powers_in : Def B 1 "powers_in" 1 f_powers_in) : Def B 2 "units_in" 1 f_units_in :=
  Def.mk' (N := n_units_in) (ps := ["modulus"]) F hm sc_units_in (fun _ _ _ _ _ _ us hl => match us, hl with | [_], _ => rfl) (fun cdv A outer s H E hr =>
    (bi_cons (si_set 1 sc_units_in.nd rfl (fun _ => .inl rfl) (fun _ => .inr rfl) (ei_var 0)) (bi_cons (si_for (fun _ => cy_passes) (fun _ => rfl) (ii_keys (ei_call D_powers_in (fun _ => hr.mono (by decide)) (fun _ => cy_takes) (fun _ => rfl) rfl (ai_cons (ei_var 0) ai_nil) (len_cons (fun _ _ _ _ => len_nil)))) (gi_name 2 sc_units_in.nd rfl (fun _ => .inl rfl) (fun _ => .inr rfl)) (bi_one (si_set 1 sc_units_in.nd rfl (fun _ => .inl rfl) (fun _ => .inr rfl) (ei_bin (fun _ => op_mulAll) oi_mul (ei_bin (fun _ => op_divAll) oi_div (ei_var 1) (ei_var 2)) (ei_bin (fun _ => op_sub) oi_sub (ei_var 2) ei_int))))) (bi_one (si_ret (ei_var 1))))))
abbrev n_count_units : List Str := ["modulus"]
theorem sc_count_units : FnScope n_count_units ["modulus"] (defScope s_count_units) := ⟨rfl, rfl, rfl, by decide +kernel, rfl, by decide +kernel, by decide +kernel⟩
theorem d_count_units {B : Cb} {a : Addr} {fd : FuncData} (F : FunD B.K "count_units" "count_units" (defArgs s_count_units) (defBody s_count_units) (defScope s_count_units) [] [] a fd) (hm : B.mg "count_units" = some (.ref a)) (D_require_count : Def B 3 "require_count" 3 f_require_count) (c_MAX_MODULUS : ∃ t, B.mg "MAX_MODULUS" = some (.int (10000) t)) (D_units_in : Def B 2 "units_in" 1 f_units_in) : Def B 4 "count_units" 1 f_count_units :=
  Def.mk' (N := n_count_units) (ps := ["modulus"]) F hm sc_count_units (fun _ _ _ _ _ _ us hl => match us, hl with | [_], _ => rfl) (fun cdv A outer s H E hr =>
    (bi_cons (si_expr (ei_call D_require_count (fun _ => hr.mono (by decide)) (fun _ => cy_takes) (fun _ => rfl) rfl (ai_cons (ei_var 0) (ai_cons ei_int (ai_cons (ei_gint (fun _ => rfl) c_MAX_MODULUS) ai_nil))) (len_cons (len_cons (len_cons (fun _ _ _ _ => len_nil)))))) (bi_one (si_ret (ei_call D_units_in (fun _ => hr.mono (by decide)) (fun _ => cy_takes) (fun _ => rfl) rfl (ai_cons (ei_var 0) ai_nil) (len_cons (fun _ _ _ _ => len_nil)))))))
abbrev n_divisor_of : List Str := ["one", "other"]
theorem sc_divisor_of : FnScope n_divisor_of ["one", "other"] (defScope s_divisor_of) := ⟨rfl, rfl, rfl, by decide +kernel, rfl, by decide +kernel, by decide +kernel⟩
theorem d_divisor_of {B : Cb} {a : Addr} {fd : FuncData} (F : FunD B.K "divisor_of" "divisor_of" (defArgs s_divisor_of) (defBody s_divisor_of) (defScope s_divisor_of) [] [] a fd) (hm : B.mg "divisor_of" = some (.ref a)) (z_abs : B.mg "abs" = none) : Def B 1 "divisor_of" 2 f_divisor_of :=
  Def.mk' (N := n_divisor_of) (ps := ["one", "other"]) F hm sc_divisor_of (fun _ _ _ _ _ _ us hl => match us, hl with | [_, _], _ => rfl) (fun cdv A outer s H E hr =>
    (bi_cons (si_while FU (fun _ => cy_passes) (ti_cmp (fun _ => op_neD hr.units) oi_ne (nomark _) (ei_var 1) ei_int) (bi_one (si_par (i := 0) (j := 1) (fun _ => rfl) sc_divisor_of.nd rfl rfl (by decide) (fun _ => rfl) (fun _ => rfl) (ai_cons (ei_var 1) (ai_cons (ei_bin (fun _ => op_modN) oi_mod (ei_var 0) (ei_var 1)) ai_nil)) (fun _ => rfl)))) (bi_one (si_ret (ei_callB (fun _ => call_abs) ci_abs (fun _ => rfl) z_abs (by decide +kernel) (ai_cons (ei_var 0) ai_nil))))))
abbrev n_common_divisor : List Str := ["numbers", "found", "number"]
theorem sc_common_divisor : FnScope n_common_divisor ["numbers"] (defScope s_common_divisor) := ⟨rfl, rfl, rfl, by decide +kernel, rfl, by decide +kernel, by decide +kernel⟩
theorem d_common_divisor {B : Cb} {a : Addr} {fd : FuncData} (F : FunD B.K "common_divisor" "common_divisor" (defArgs s_common_divisor) (defBody s_common_divisor) (defScope s_common_divisor) [] [] a fd) (hm : B.mg "common_divisor" = some (.ref a)) (z_all : B.mg "all" = none) (D_is_integer : Def B 2 "is_integer" 1 f_is_integer) (z_isinstance : B.mg "isinstance" = none) (z_tuple : B.mg "tuple" = none) (D_divisor_of : Def B 1 "divisor_of" 2 f_divisor_of) : Def B 3 "common_divisor" 1 f_common_divisor :=
  Def.mk' (N := n_common_divisor) (ps := ["numbers"]) F hm sc_common_divisor (fun _ _ _ _ _ _ us hl => match us, hl with | [_], _ => rfl) (fun cdv A outer s H E hr =>
    (bi_cons (si_if (WI.ti (wi_or (ti_not (ti_val (ei_callB (fun _ => call_isi) ci_isi (fun _ => rfl) z_isinstance (by decide +kernel) (ai_cons (ei_var 0) (ai_cons (ei_ty (fun _ => rfl) z_tuple (by decide +kernel)) ai_nil))))) (wi_or1 (ti_not (ti_val (ei_callB (fun _ => (cr_all rfl)) ci_all (fun _ => rfl) z_all (by decide +kernel) (ai_cons (ei_lc (own := [("number", 2)]) (fun _ => rfl) sc_common_divisor.nd (ii_seq (ei_var 0)) (fun _ => show blkC n_common_divisor (defScope s_common_divisor) _ [("number", 2)] = true by decide +kernel) (gi_name 2 sc_common_divisor.nd rfl (fun _ => .inl rfl) (fun _ => .inr rfl)) tsi_nil (ei_call D_is_integer (fun _ => hr.mono (by decide)) (fun _ => takes0) (fun _ => rfl) rfl (ai_cons (ei_var 2) ai_nil) (len_cons (fun _ _ _ _ => len_nil))) (by decide)) ai_nil))))))) (bi_one si_never) bi_nil) (bi_cons (si_set 1 sc_common_divisor.nd rfl (fun _ => .inl rfl) (fun _ => .inr rfl) ei_int) (bi_cons (si_for (fun _ => cy_passes) (fun _ => rfl) (ii_seq (ei_var 0)) (gi_name 2 sc_common_divisor.nd rfl (fun _ => .inl rfl) (fun _ => .inr rfl)) (bi_one (si_set 1 sc_common_divisor.nd rfl (fun _ => .inl rfl) (fun _ => .inr rfl) (ei_call D_divisor_of (fun _ => hr.mono (by decide)) (fun _ => cy_takes) (fun _ => rfl) rfl (ai_cons (ei_var 1) (ai_cons (ei_var 2) ai_nil)) (len_cons (len_cons (fun _ _ _ _ => len_nil))))))) (bi_one (si_ret (ei_var 1)))))))
abbrev n_count_rims : List Str := ["level", "part"]
theorem sc_count_rims : FnScope n_count_rims ["level"] (defScope s_count_rims) := ⟨rfl, rfl, rfl, by decide +kernel, rfl, by decide +kernel, by decide +kernel⟩
theorem d_count_rims {B : Cb} {a : Addr} {fd : FuncData} (F : FunD B.K "count_rims" "count_rims" (defArgs s_count_rims) (defBody s_count_rims) (defScope s_count_rims) [] [] a fd) (hm : B.mg "count_rims" = some (.ref a)) (D_require_level : Def B 3 "require_level" 1 f_require_level) (z_sum : B.mg "sum" = none) (D_divisors : Def B 4 "divisors" 1 f_divisors) (D_count_units : Def B 4 "count_units" 1 f_count_units) (D_common_divisor : Def B 3 "common_divisor" 1 f_common_divisor) : Def B 5 "count_rims" 1 m_count_rims :=
  Def.mk' (N := n_count_rims) (ps := ["level"]) F hm sc_count_rims (fun _ _ _ _ _ _ us hl => match us, hl with | [_], _ => rfl) (fun cdv A outer s H E hr =>
    (bi_cons (si_expr (ei_call D_require_level (fun _ => hr.mono (by decide)) (fun _ => cy_takes) (fun _ => rfl) rfl (ai_cons (ei_var 0) ai_nil) (len_cons (fun _ _ _ _ => len_nil)))) (bi_one (si_ret (ei_callB (fun _ => (cr_sum rfl)) ci_sum (fun _ => rfl) z_sum (by decide +kernel) (ai_cons (ei_lc (own := [("part", 1)]) (fun _ => rfl) sc_count_rims.nd (ii_seq (ei_call D_divisors (fun _ => hr.mono (by decide)) (fun _ => cy_takes) (fun _ => rfl) rfl (ai_cons (ei_var 0) ai_nil) (len_cons (fun _ _ _ _ => len_nil)))) (fun _ => show blkC n_count_rims (defScope s_count_rims) _ [("part", 1)] = true by decide +kernel) (gi_name 1 sc_count_rims.nd rfl (fun _ => .inl rfl) (fun _ => .inr rfl)) tsi_nil (ei_call D_count_units (fun _ => hr.mono (by decide)) (fun _ => takes0) (fun _ => rfl) rfl (ai_cons (ei_call D_common_divisor (fun _ => hr.mono (by decide)) (fun _ => takes0) (fun _ => rfl) rfl (ai_cons (ei_tup (ai_cons (ei_var 1) (ai_cons (ei_bin (fun _ => op_divAll) oi_div (ei_var 0) (ei_var 1)) ai_nil))) ai_nil) (len_cons (fun _ _ _ _ => len_nil))) ai_nil) (len_cons (fun _ _ _ _ => len_nil))) (by decide)) ai_nil))))))
abbrev n__law_right : List Str := ["_law_dice_here", "_law_level", "_law_told", "_law_pair", "_law_pairs", "_law_heads", "_law_end", "_law_rim", "_law_row", "_law_matrix", "_law_one"]
theorem sc__law_right : FnScope n__law_right ["_law_dice_here"] (defScope s__law_right) := ⟨rfl, rfl, rfl, by decide +kernel, rfl, by decide +kernel, by decide +kernel⟩
theorem d__law_right {B : Cb} {a : Addr} {fd : FuncData} (F : FunD B.K "_law_right" "_law_right" (defArgs s__law_right) (defBody s__law_right) (defScope s__law_right) [] [] a fd) (hm : B.mg "_law_right" = some (.ref a)) (D__law_level_drawn : Def B 3 "_law_level_drawn" 2 f__law_level_drawn) (D__law_told_pairs : Def B 2 "_law_told_pairs" 1 f__law_told_pairs) (z_set : B.mg "set" = none) (z_sorted : B.mg "sorted" = none) (D__law_mixed : Def B 2 "_law_mixed" 2 f__law_mixed) (D_matrix_of : Def B 6 "matrix_of" 2 m_matrix_of) (D_pair_round : Def B 6 "pair_round" 2 m_pair_round) (D__law_lowest : Def B 2 "_law_lowest" 2 f__law_lowest) (D__law_rim_told : Def B 2 "_law_rim_told" 3 m__law_rim_told) (z_len : B.mg "len" = none) (D__law_width : Def B 2 "_law_width" 2 f__law_width) (D__law_own_round : Def B 1 "_law_own_round" 3 m__law_own_round) (D_width_of : Def B 5 "width_of" 2 m_width_of) (D_rim_of : Def B 5 "rim_of" 2 f_rim_of) (z_min : B.mg "min" = none) (NP : NoPair B.K) (z_max : B.mg "max" = none) (z_abs : B.mg "abs" = none) (D_count_rims : Def B 5 "count_rims" 1 m_count_rims) : Def B 7 "_law_right" 1 m__law_right :=
  Def.mk' (N := n__law_right) (ps := ["_law_dice_here"]) F hm sc__law_right (fun _ _ _ _ _ _ us hl => match us, hl with | [_], _ => rfl) (fun cdv A outer s H E hr =>
    (bi_cons (si_set 1 sc__law_right.nd rfl (fun _ => .inr rfl) (fun _ => .inl rfl) (ei_call D__law_level_drawn (fun _ => hr.mono (by decide)) (fun _ => cy_takes) (fun _ => rfl) rfl (ai_cons (ei_var 0) (ai_cons ei_int ai_nil)) (len_cons (len_cons (fun _ _ _ _ => len_nil))))) (bi_cons (si_set 2 sc__law_right.nd rfl (fun _ => .inr rfl) (fun _ => .inl rfl) (ei_call (Def.iso D__law_told_pairs) (fun _ => hr.mono (by decide)) (fun _ => cy_takes) (fun _ => rfl) rfl (ai_cons (ei_var 1) ai_nil) (len_cons (fun _ _ _ _ => len_nil)))) (bi_cons (si_asg (ei_tup (ai_cons (ei_sortset (fun _ => (cr_setMany rfl hr.units)) (fun _ => (cr_sortedMany rfl)) (fun _ => rfl) z_set (by decide +kernel) (fun _ => rfl) z_sorted (by decide +kernel) (ei_lc (own := [("_law_one", 10)]) (fun _ => rfl) sc__law_right.nd (ii_keysT (ei_var 2)) (fun _ => show blkC n__law_right (defScope s__law_right) _ [("_law_one", 10)] = true by decide +kernel) (gi_name 10 sc__law_right.nd rfl (fun _ => .inl rfl) (fun _ => .inr rfl)) tsi_nil (ei_tget (fun _ => hu_of hr) (ei_var 2) (ei_var 10) (fun _ _ => rfl)) (by decide))) (ai_cons ei_dict0T ai_nil))) (gi_tup (fun _ => rfl) (gis_cons (gi_name 4 sc__law_right.nd rfl (fun _ => .inl rfl) (fun _ => .inr rfl)) (gis_cons (gi_name 5 sc__law_right.nd rfl (fun _ => .inr rfl) (fun _ => .inl rfl)) gis_nil)))) (bi_cons (si_for (fun _ => cy_passes) (fun _ => rfl) (ii_seq (ei_sl li_sl (ei_call D__law_mixed (fun _ => hr.mono (by decide)) (fun _ => cy_takes) (fun _ => rfl) rfl (ai_cons (ei_var 0) (ai_cons (ei_var 4) ai_nil)) (len_cons (len_cons (fun _ _ _ _ => len_nil)))) ol_no (ol_part ei_int))) (gi_name 3 sc__law_right.nd rfl (fun _ => .inl rfl) (fun _ => .inr rfl)) (bi_cons (si_par (i := 8) (j := 9) (fun _ => rfl) sc__law_right.nd rfl rfl (by decide) (fun _ => rfl) (fun _ => rfl) (ai_cons (ei_call (Def.iso D_pair_round) (fun _ => hr.mono (by decide)) (fun _ => cy_takes) (fun _ => rfl) rfl (ai_cons (ei_var 1) (ai_cons (ei_var 3) ai_nil)) (len_cons (len_cons (fun _ _ _ _ => len_nil)))) (ai_cons (ei_call (Def.iso D_matrix_of) (fun _ => hr.mono (by decide)) (fun _ => cy_takes) (fun _ => rfl) rfl (ai_cons (ei_var 1) (ai_cons (ei_var 3) ai_nil)) (len_cons (len_cons (fun _ _ _ _ => len_nil)))) ai_nil)) (fun _ => rfl)) (bi_cons (si_set 6 sc__law_right.nd rfl (fun _ => .inl rfl) (fun _ => .inr rfl) (ei_call (Def.iso D__law_lowest) (fun _ => hr.mono (by decide)) (fun _ => cy_takes) (fun _ => rfl) rfl (ai_cons (ei_ix (ei_var 9) ei_int (fun _ _ => rfl)) (ai_cons (ei_ix (ei_var 9) ei_int (fun _ _ => rfl)) ai_nil)) (len_cons (len_cons (fun _ _ _ _ => len_nil))))) (bi_cons (si_set 7 sc__law_right.nd rfl (fun _ => .inl rfl) (fun _ => .inr rfl) (ei_call (Def.iso D__law_rim_told) (fun _ => hr.mono (by decide)) (fun _ => cy_takes) (fun _ => rfl) rfl (ai_cons (ei_var 1) (ai_cons (ei_ix (ei_var 6) ei_int (fun _ _ => rfl)) (ai_cons (ei_ix (ei_var 6) ei_int (fun _ _ => rfl)) ai_nil))) (len_cons (len_cons (len_cons (fun _ _ _ _ => len_nil)))))) (bi_cons (si_if (WI.ti (wi_or (ti_cmp (fun _ => op_neD hr.units) oi_ne (nomark _) (ei_var 8) (ei_call (Def.iso D__law_own_round) (fun _ => hr.mono (by decide)) (fun _ => cy_takes) (fun _ => rfl) rfl (ai_cons (ei_var 2) (ai_cons (ei_var 1) (ai_cons (ei_var 3) ai_nil))) (len_cons (len_cons (len_cons (fun _ _ _ _ => len_nil)))))) (wi_or1 (ti_cmp (fun _ => op_neD hr.units) oi_ne (nomark _) (ei_callB (fun _ => call_lenA) ci_len (fun _ => rfl) z_len (by decide +kernel) (ai_cons (ei_var 8) ai_nil)) (ei_call (Def.iso D__law_width) (fun _ => hr.mono (by decide)) (fun _ => cy_takes) (fun _ => rfl) rfl (ai_cons (ei_var 1) (ai_cons (ei_var 6) ai_nil)) (len_cons (len_cons (fun _ _ _ _ => len_nil)))))))) (bi_one (si_ret ei_bl)) bi_nil) (bi_cons (si_if (WI.ti (wi_or (ti_cmp (fun _ => op_neD hr.units) oi_ne (nomark _) (ei_nsdef NP (fun _ => hu_of hr) (ei_var 5) (ei_callB (fun _ => (cr_minA rfl (hu_of hr))) ci_minA (fun _ => rfl) z_min (by decide +kernel) (ai_cons (ei_var 8) ai_nil)) (ei_var 7)) (ei_var 7)) (wi_or (ti_cmp (fun _ => op_neD hr.units) oi_ne (nomark _) (ei_call (Def.iso D_rim_of) (fun _ => hr.mono (by decide)) (fun _ => cy_takes) (fun _ => rfl) rfl (ai_cons (ei_var 1) (ai_cons (ei_var 7) ai_nil)) (len_cons (len_cons (fun _ _ _ _ => len_nil)))) (ei_var 7)) (wi_or1 (ti_cmp (fun _ => op_neD hr.units) oi_ne (nomark _) (ei_call (Def.iso D_width_of) (fun _ => hr.mono (by decide)) (fun _ => cy_takes) (fun _ => rfl) rfl (ai_cons (ei_var 1) (ai_cons (ei_var 7) ai_nil)) (len_cons (len_cons (fun _ _ _ _ => len_nil)))) (ei_callB (fun _ => call_lenA) ci_len (fun _ => rfl) z_len (by decide +kernel) (ai_cons (ei_var 8) ai_nil))))))) (bi_one (si_ret ei_bl)) bi_nil) (bi_one (si_if (WI.ti (wi_and (ti_cmp (fun _ => op_le) oi_le (nomark _) (ei_callB (fun _ => (call_max2 rfl)) ci_max2 (fun _ => rfl) z_max (by decide +kernel) (ai_cons (ei_callB (fun _ => call_abs) ci_abs (fun _ => rfl) z_abs (by decide +kernel) (ai_cons (ei_ix (ei_var 6) ei_int (fun _ _ => rfl)) ai_nil)) (ai_cons (ei_ix (ei_var 6) ei_int (fun _ _ => rfl)) ai_nil))) (ei_fold (f := sBin dPow (sC (.int 10)) (sC (.int 20))) (ei_bin (fun _ => op_pow) oi_pow ei_int ei_int) (by kernel_rfl))) (wi_and1 (ti_cmp (fun _ => op_neD hr.units) oi_ne (nomark _) (ei_call (Def.iso D_rim_of) (fun _ => hr.mono (by decide)) (fun _ => cy_takes) (fun _ => rfl) rfl (ai_cons (ei_var 1) (ai_cons (ei_var 6) ai_nil)) (len_cons (len_cons (fun _ _ _ _ => len_nil)))) (ei_var 7))))) (bi_one (si_ret ei_bl)) bi_nil)))))))) (bi_cons (si_if (ti_cmp (fun _ => op_neD hr.units) oi_ne (nomark _) (ei_lkT (i := 5) (ei_lenset (fun _ => (cr_setMany rfl hr.units)) (fun _ => cr_lenSetM) (fun _ => rfl) z_set (by decide +kernel) (fun _ => rfl) z_len (by decide +kernel) (ei_lc (own := [("_law_one", 10)]) (fun _ => rfl) sc__law_right.nd (ii_keysT (ei_var 5)) (fun _ => show blkC n__law_right (defScope s__law_right) _ [("_law_one", 10)] = true by decide +kernel) (gi_name 10 sc__law_right.nd rfl (fun _ => .inl rfl) (fun _ => .inr rfl)) tsi_nil (ei_tget (fun _ => hu_of hr) (ei_var 5) (ei_var 10) (fun _ _ => rfl)) (by decide)))) (ei_callB (fun _ => call_lenR) ci_lenR (fun _ => rfl) z_len (by decide +kernel) (ai_cons (ei_var 5) ai_nil))) (bi_one (si_ret ei_bl)) bi_nil) (bi_one (si_ret (ei_cmp (fun _ => op_eqD hr.units) oi_eq (nomark _) (ei_lenset (fun _ => (cr_setMany rfl hr.units)) (fun _ => cr_lenSetM) (fun _ => rfl) z_set (by decide +kernel) (fun _ => rfl) z_len (by decide +kernel) (ei_lc (own := [("_law_pair", 3)]) (fun _ => rfl) sc__law_right.nd (ii_seq (ei_var 4)) (fun _ => show blkC n__law_right (defScope s__law_right) _ [("_law_pair", 3)] = true by decide +kernel) (gi_name 3 sc__law_right.nd rfl (fun _ => .inl rfl) (fun _ => .inr rfl)) tsi_nil (ei_callB (fun _ => (cr_minA rfl (hu_of hr))) ci_minA (fun _ => rfl) z_min (by decide +kernel) (ai_cons (ei_call (Def.iso D__law_own_round) (fun _ => hr.mono (by decide)) (fun _ => takes0) (fun _ => rfl) rfl (ai_cons (ei_var 2) (ai_cons (ei_var 1) (ai_cons (ei_var 3) ai_nil))) (len_cons (len_cons (len_cons (fun _ _ _ _ => len_nil))))) ai_nil)) (by decide))) (ei_call (Def.iso D_count_rims) (fun _ => hr.mono (by decide)) (fun _ => cy_takes) (fun _ => rfl) rfl (ai_cons (ei_var 1) ai_nil) (len_cons (fun _ _ _ _ => len_nil))))))))))))
abbrev n__law_dice : List Str := ["_law_script", "_law_spot", "_law_cell", "_law_left"]
theorem sc__law_dice : FnScope n__law_dice ["_law_script", "_law_spot"] (defScope s__law_dice) := ⟨rfl, rfl, rfl, by decide +kernel, rfl, by decide +kernel, by decide +kernel⟩
theorem d__law_dice {B : Cb} {a : Addr} {fd : FuncData} (F : FunD B.K "_law_dice" "_law_dice" (defArgs s__law_dice) (defBody s__law_dice) (defScope s__law_dice) [] [] a fd) (hm : B.mg "_law_dice" = some (.ref a)) (z_len : B.mg "len" = none) (z_int : B.mg "int" = none) (z_max : B.mg "max" = none) (z_abs : B.mg "abs" = none) : Def B 1 "_law_dice" 2 f__law_dice :=
  Def.mk' (N := n__law_dice) (ps := ["_law_script", "_law_spot"]) F hm sc__law_dice (fun _ _ _ _ _ _ us hl => match us, hl with | [_, _], _ => rfl) (fun cdv A outer s H E hr =>
    (bi_cons (si_set 2 sc__law_dice.nd rfl (fun _ => .inl rfl) (fun _ => .inr rfl) (ei_ifExp (ti_cmp (fun _ => op_ltAll hr.units0) oi_lt (nomark _) (ei_var 1) (ei_callB (fun _ => call_lenA) ci_len (fun _ => rfl) z_len (by decide +kernel) (ai_cons (ei_var 0) ai_nil))) (ei_callTy (fun _ => call_int1) ci_int (fun _ => rfl) z_int (by decide +kernel) (ai_cons (ei_ix (ei_var 0) (ei_var 1) (fun _ _ => rfl)) ai_nil)) (ei_bin (fun _ => op_addAll) oi_add (ei_bin (fun _ => op_mulAll) oi_mul ei_int (ei_var 1)) ei_int))) (bi_cons (si_set 3 sc__law_dice.nd rfl (fun _ => .inl rfl) (fun _ => .inr rfl) (ei_bin (fun _ => op_modN) oi_mod (ei_callB (fun _ => (call_max2 rfl)) ci_max2 (fun _ => rfl) z_max (by decide +kernel) (ai_cons ei_int (ai_cons (ei_bin (fun _ => op_sub) oi_sub (ei_callB (fun _ => call_abs) ci_abs (fun _ => rfl) z_abs (by decide +kernel) (ai_cons (ei_var 2) ai_nil)) (ei_fold (f := sBin dPow (sC (.int 10)) (sC (.int 17))) (ei_bin (fun _ => op_pow) oi_pow ei_int ei_int) (by kernel_rfl))) ai_nil))) (ei_fold (f := sBin dMul (sC (.int (100000000000000000000000000000000000000000000000000000000000))) (sC (.int (1000000000000000000000000000000000000000000000000000000000000)))) (ei_bin (fun _ => op_mulAll) oi_mul (ei_fold (f := sBin dPow (sC (.int 10)) (sC (.int 59))) (ei_bin (fun _ => op_pow) oi_pow ei_int ei_int) (by kernel_rfl)) (ei_fold (f := sBin dPow (sC (.int 10)) (sC (.int 60))) (ei_bin (fun _ => op_pow) oi_pow ei_int ei_int) (by kernel_rfl))) (by kernel_rfl)))) (bi_one (si_ret (ei_lstM (ai_cons (ei_var 3) (ai_cons (ei_bin (fun _ => op_addAll) oi_add (ei_bin (fun _ => op_addAll) oi_add (ei_bin (fun _ => op_addAll) oi_add (ei_bin (fun _ => op_mulAll) oi_mul (ei_bin (fun _ => op_modN) oi_mod (ei_callB (fun _ => call_abs) ci_abs (fun _ => rfl) z_abs (by decide +kernel) (ai_cons (ei_var 2) ai_nil)) ei_int) ei_int) (ei_bin (fun _ => op_mulAll) oi_mul ei_int (ei_var 1))) (ei_bin (fun _ => op_mulAll) oi_mul ei_int (ei_callTy (fun _ => call_int1) ci_int (fun _ => rfl) z_int (by decide +kernel) (ai_cons (ei_cmp (fun _ => op_ltAll hr.units0) oi_lt (nomark _) (ei_var 2) ei_int) ai_nil)))) ei_int) (ai_cons ei_int ai_nil)))))))))
abbrev n_law : List Str := ["_law_script", "_law_spot"]
theorem sc_law : FnScope n_law ["_law_script"] (defScope s_law) := ⟨rfl, rfl, rfl, by decide +kernel, rfl, by decide +kernel, by decide +kernel⟩
theorem ob_eq (s : PySem.W.SharedT) : ob s = hk.obs s.abs := obsXG_eq (HandSHeadRun.getT_eq s)
theorem facts {P : Program} {w : World} {K : PySem.W.Frag} {h : Heap} {mg : Str → Option Value} {f : Addr} (X : K.In h) (G : h.Ns mainGlobals mg) (hfa : mg ("law" : Str) = some (.ref f)) (c : SaysX fa fn K) :
    ∃ fd : FuncData, (∀ (s : Shared) (v : Value), BindsTo s fd ⟨[v], []⟩ [("_law_script", v)]) ∧ ∀ base : Heap, K.In base → base.Ns mainGlobals mg → FnOk P w K mg base CX0 8 f fd ["_law_script"] (fun vs H Q _ => spI K mg 1 m_law vs H Q fun _ _ _ => False) := by
  obtain ⟨fd__law_roll, F__law_roll⟩ := c.def_ 0 (d := e__law_roll) rfl
  obtain ⟨fd__law_pick, F__law_pick⟩ := c.def_ 1 (d := e__law_pick) rfl
  obtain ⟨fd__law_level_drawn, F__law_level_drawn⟩ := c.def_ 2 (d := e__law_level_drawn) rfl
  obtain ⟨fd__law_gcd, F__law_gcd⟩ := c.def_ 3 (d := e__law_gcd) rfl
  obtain ⟨fd__law_told_pairs, F__law_told_pairs⟩ := c.def_ 4 (d := e__law_told_pairs) rfl
  obtain ⟨fd__law_mixed, F__law_mixed⟩ := c.def_ 5 (d := e__law_mixed) rfl
  obtain ⟨fd_is_whole, F_is_whole⟩ := c.def_ 6 (d := e_is_whole) rfl
  obtain ⟨fd_is_level, F_is_level⟩ := c.def_ 7 (d := e_is_level) rfl
  obtain ⟨fd_require_level, F_require_level⟩ := c.def_ 8 (d := e_require_level) rfl
  obtain ⟨fd_is_integer, F_is_integer⟩ := c.def_ 9 (d := e_is_integer) rfl
  obtain ⟨fd_is_residue_at, F_is_residue_at⟩ := c.def_ 10 (d := e_is_residue_at) rfl
  obtain ⟨fd_common_of_pairs, F_common_of_pairs⟩ := c.def_ 11 (d := e_common_of_pairs) rfl
  obtain ⟨fd_units_modulo, F_units_modulo⟩ := c.def_ 12 (d := e_units_modulo) rfl
  obtain ⟨fd_least_pair, F_least_pair⟩ := c.def_ 13 (d := e_least_pair) rfl
  obtain ⟨fd_do_tell, F_do_tell⟩ := c.def_ 14 (d := e_do_tell) rfl
  obtain ⟨fd_is_pair_of, F_is_pair_of⟩ := c.def_ 15 (d := e_is_pair_of) rfl
  obtain ⟨fd_require_pair, F_require_pair⟩ := c.def_ 16 (d := e_require_pair) rfl
  obtain ⟨fd_common_of_rims, F_common_of_rims⟩ := c.def_ 17 (d := e_common_of_rims) rfl
  obtain ⟨fd_second_row, F_second_row⟩ := c.def_ 18 (d := e_second_row) rfl
  obtain ⟨fd_column_beside, F_column_beside⟩ := c.def_ 19 (d := e_column_beside) rfl
  obtain ⟨fd_matrix_of, F_matrix_of⟩ := c.def_ 20 (d := e_matrix_of) rfl
  obtain ⟨fd_pair_round, F_pair_round⟩ := c.def_ 21 (d := e_pair_round) rfl
  obtain ⟨fd__law_lowest, F__law_lowest⟩ := c.def_ 22 (d := e__law_lowest) rfl
  obtain ⟨fd__law_rim_told, F__law_rim_told⟩ := c.def_ 23 (d := e__law_rim_told) rfl
  obtain ⟨fd__law_width, F__law_width⟩ := c.def_ 24 (d := e__law_width) rfl
  obtain ⟨fd__law_own_round, F__law_own_round⟩ := c.def_ 25 (d := e__law_own_round) rfl
  obtain ⟨fd_is_fraction, F_is_fraction⟩ := c.def_ 26 (d := e_is_fraction) rfl
  obtain ⟨fd_require_fraction, F_require_fraction⟩ := c.def_ 27 (d := e_require_fraction) rfl
  obtain ⟨fd_width_in, F_width_in⟩ := c.def_ 28 (d := e_width_in) rfl
  obtain ⟨fd_width_of, F_width_of⟩ := c.def_ 29 (d := e_width_of) rfl
  obtain ⟨fd_least_top, F_least_top⟩ := c.def_ 30 (d := e_least_top) rfl
  obtain ⟨fd_rim_in, F_rim_in⟩ := c.def_ 31 (d := e_rim_in) rfl
  obtain ⟨fd_rim_of, F_rim_of⟩ := c.def_ 32 (d := e_rim_of) rfl
  obtain ⟨fd_require_positive, F_require_positive⟩ := c.def_ 33 (d := e_require_positive) rfl
  obtain ⟨fd_require_factored, F_require_factored⟩ := c.def_ 34 (d := e_require_factored) rfl
  obtain ⟨fd_powers_in, F_powers_in⟩ := c.def_ 35 (d := e_powers_in) rfl
  obtain ⟨fd_divisors_in, F_divisors_in⟩ := c.def_ 36 (d := e_divisors_in) rfl
  obtain ⟨fd_divisors, F_divisors⟩ := c.def_ 37 (d := e_divisors) rfl
  obtain ⟨fd_require_count, F_require_count⟩ := c.def_ 38 (d := e_require_count) rfl
  obtain ⟨fd_units_in, F_units_in⟩ := c.def_ 39 (d := e_units_in) rfl
  obtain ⟨fd_count_units, F_count_units⟩ := c.def_ 40 (d := e_count_units) rfl
  obtain ⟨fd_divisor_of, F_divisor_of⟩ := c.def_ 41 (d := e_divisor_of) rfl
  obtain ⟨fd_common_divisor, F_common_divisor⟩ := c.def_ 42 (d := e_common_divisor) rfl
  obtain ⟨fd_count_rims, F_count_rims⟩ := c.def_ 43 (d := e_count_rims) rfl
  obtain ⟨fd__law_right, F__law_right⟩ := c.def_ 44 (d := e__law_right) rfl
  obtain ⟨fd__law_dice, F__law_dice⟩ := c.def_ 45 (d := e__law_dice) rfl
  obtain ⟨fd_law, F_law⟩ := c.def_ 46 (d := e_law) rfl
  have e := hfa.symm.trans (He.glo_ok X G (show (He.Fa.glo "law").ok K = true from c.fact 46 (f := fa_46) rfl))
  cases e
  have b := FunD.bindsA (ps := ["_law_script"]) F_law fun _ _ _ _ _ _ us hl => match us, hl with | [_], _ => rfl
  refine ⟨fd_law, fun s v => b s [v] rfl, fun base _ _ => ?_⟩
  have c_MAX_LEVEL := He.int_ok X G (show (He.Fa.int "MAX_LEVEL" (100)).ok K = true from c.fact 48 (f := fa_48) rfl)
  have c_GREAT := He.int_ok X G (show (He.Fa.int "GREAT" (1000000000000000000000000000000000000000000000000000000000000)).ok K = true from c.fact 49 (f := fa_49) rfl)
  have c_MAX_PART := He.int_ok X G (show (He.Fa.int "MAX_PART" (100000000000000000000)).ok K = true from c.fact 50 (f := fa_50) rfl)
  have c_MAX_FACTORED := He.int_ok X G (show (He.Fa.int "MAX_FACTORED" (1000000000)).ok K = true from c.fact 51 (f := fa_51) rfl)
  have c_MAX_MODULUS := He.int_ok X G (show (He.Fa.int "MAX_MODULUS" (10000)).ok K = true from c.fact 52 (f := fa_52) rfl)
  have z_abs := He.free_ok X G (show (He.Fa.free "abs").ok K = true from c.fact 53 (f := fa_53) rfl)
  have z_all := He.free_ok X G (show (He.Fa.free "all").ok K = true from c.fact 54 (f := fa_54) rfl)
  have z_bool := He.free_ok X G (show (He.Fa.free "bool").ok K = true from c.fact 55 (f := fa_55) rfl)
  have z_int := He.free_ok X G (show (He.Fa.free "int").ok K = true from c.fact 56 (f := fa_56) rfl)
  have z_isinstance := He.free_ok X G (show (He.Fa.free "isinstance").ok K = true from c.fact 57 (f := fa_57) rfl)
  have z_len := He.free_ok X G (show (He.Fa.free "len").ok K = true from c.fact 58 (f := fa_58) rfl)
  have z_list := He.free_ok X G (show (He.Fa.free "list").ok K = true from c.fact 59 (f := fa_59) rfl)
  have z_max := He.free_ok X G (show (He.Fa.free "max").ok K = true from c.fact 60 (f := fa_60) rfl)
  have z_min := He.free_ok X G (show (He.Fa.free "min").ok K = true from c.fact 61 (f := fa_61) rfl)
  have z_range := He.free_ok X G (show (He.Fa.free "range").ok K = true from c.fact 62 (f := fa_62) rfl)
  have z_set := He.free_ok X G (show (He.Fa.free "set").ok K = true from c.fact 63 (f := fa_63) rfl)
  have z_sorted := He.free_ok X G (show (He.Fa.free "sorted").ok K = true from c.fact 64 (f := fa_64) rfl)
  have z_sum := He.free_ok X G (show (He.Fa.free "sum").ok K = true from c.fact 65 (f := fa_65) rfl)
  have z_tuple := He.free_ok X G (show (He.Fa.free "tuple").ok K = true from c.fact 66 (f := fa_66) rfl)
  have D__law_roll : Def ⟨P, w, K, mg, base⟩ 1 "_law_roll" 2 f__law_roll := d__law_roll (B := ⟨P, w, K, mg, base⟩) F__law_roll (He.glo_ok X G (show (He.Fa.glo "_law_roll").ok K = true from c.fact 0 (f := fa_0) rfl)) z_int
  have D__law_pick : Def ⟨P, w, K, mg, base⟩ 2 "_law_pick" 2 f__law_pick := d__law_pick (B := ⟨P, w, K, mg, base⟩) F__law_pick (He.glo_ok X G (show (He.Fa.glo "_law_pick").ok K = true from c.fact 1 (f := fa_1) rfl)) D__law_roll z_len
  have D__law_level_drawn : Def ⟨P, w, K, mg, base⟩ 3 "_law_level_drawn" 2 f__law_level_drawn := d__law_level_drawn (B := ⟨P, w, K, mg, base⟩) F__law_level_drawn (He.glo_ok X G (show (He.Fa.glo "_law_level_drawn").ok K = true from c.fact 2 (f := fa_2) rfl)) D__law_roll D__law_pick
  have D__law_gcd : Def ⟨P, w, K, mg, base⟩ 1 "_law_gcd" 2 f__law_gcd := d__law_gcd (B := ⟨P, w, K, mg, base⟩) F__law_gcd (He.glo_ok X G (show (He.Fa.glo "_law_gcd").ok K = true from c.fact 3 (f := fa_3) rfl)) z_abs z_int
  have D__law_told_pairs : Def ⟨P, w, K, mg, base⟩ 2 "_law_told_pairs" 1 f__law_told_pairs := d__law_told_pairs (B := ⟨P, w, K, mg, base⟩) F__law_told_pairs (He.glo_ok X G (show (He.Fa.glo "_law_told_pairs").ok K = true from c.fact 4 (f := fa_4) rfl)) z_range D__law_gcd z_int
  have D__law_mixed : Def ⟨P, w, K, mg, base⟩ 2 "_law_mixed" 2 f__law_mixed := d__law_mixed (B := ⟨P, w, K, mg, base⟩) F__law_mixed (He.glo_ok X G (show (He.Fa.glo "_law_mixed").ok K = true from c.fact 5 (f := fa_5) rfl)) z_list z_range z_len D__law_roll
  have D_is_whole : Def ⟨P, w, K, mg, base⟩ 1 "is_whole" 1 f_is_whole := d_is_whole (B := ⟨P, w, K, mg, base⟩) F_is_whole (He.glo_ok X G (show (He.Fa.glo "is_whole").ok K = true from c.fact 6 (f := fa_6) rfl)) z_isinstance z_bool z_int
  have D_is_level : Def ⟨P, w, K, mg, base⟩ 2 "is_level" 1 f_is_level := d_is_level (B := ⟨P, w, K, mg, base⟩) F_is_level (He.glo_ok X G (show (He.Fa.glo "is_level").ok K = true from c.fact 7 (f := fa_7) rfl)) c_MAX_LEVEL D_is_whole
  have D_require_level : Def ⟨P, w, K, mg, base⟩ 3 "require_level" 1 f_require_level := d_require_level (B := ⟨P, w, K, mg, base⟩) F_require_level (He.glo_ok X G (show (He.Fa.glo "require_level").ok K = true from c.fact 8 (f := fa_8) rfl)) D_is_level
  have D_is_integer : Def ⟨P, w, K, mg, base⟩ 2 "is_integer" 1 f_is_integer := d_is_integer (B := ⟨P, w, K, mg, base⟩) F_is_integer (He.glo_ok X G (show (He.Fa.glo "is_integer").ok K = true from c.fact 9 (f := fa_9) rfl)) c_GREAT D_is_whole
  have D_is_residue_at : Def ⟨P, w, K, mg, base⟩ 3 "is_residue_at" 2 f_is_residue_at := d_is_residue_at (B := ⟨P, w, K, mg, base⟩) F_is_residue_at (He.glo_ok X G (show (He.Fa.glo "is_residue_at").ok K = true from c.fact 10 (f := fa_10) rfl)) D_is_integer
  have D_common_of_pairs : Def ⟨P, w, K, mg, base⟩ 1 "common_of_pairs" 2 f_common_of := d_common_of_pairs (B := ⟨P, w, K, mg, base⟩) F_common_of_pairs (He.glo_ok X G (show (He.Fa.glo "common_of_pairs").ok K = true from c.fact 11 (f := fa_11) rfl)) z_abs
  have D_units_modulo : Def ⟨P, w, K, mg, base⟩ 2 "units_modulo" 1 f_units_modulo := d_units_modulo (B := ⟨P, w, K, mg, base⟩) F_units_modulo (He.glo_ok X G (show (He.Fa.glo "units_modulo").ok K = true from c.fact 12 (f := fa_12) rfl)) z_range D_common_of_pairs
  have D_least_pair : Def ⟨P, w, K, mg, base⟩ 3 "least_pair" 3 f_least_pair := d_least_pair (B := ⟨P, w, K, mg, base⟩) F_least_pair (He.glo_ok X G (show (He.Fa.glo "least_pair").ok K = true from c.fact 13 (f := fa_13) rfl)) z_min D_units_modulo
  have D_do_tell : Def ⟨P, w, K, mg, base⟩ 2 "do_tell" 3 f_do_tell := d_do_tell (B := ⟨P, w, K, mg, base⟩) F_do_tell (He.glo_ok X G (show (He.Fa.glo "do_tell").ok K = true from c.fact 14 (f := fa_14) rfl)) D_common_of_pairs
  have D_is_pair_of : Def ⟨P, w, K, mg, base⟩ 4 "is_pair_of" 2 f_is_pair_of := d_is_pair_of (B := ⟨P, w, K, mg, base⟩) F_is_pair_of (He.glo_ok X G (show (He.Fa.glo "is_pair_of").ok K = true from c.fact 15 (f := fa_15) rfl)) z_len z_isinstance z_tuple D_is_residue_at D_least_pair D_do_tell
  have D_require_pair : Def ⟨P, w, K, mg, base⟩ 5 "require_pair" 2 f_require_pair := d_require_pair (B := ⟨P, w, K, mg, base⟩) F_require_pair (He.glo_ok X G (show (He.Fa.glo "require_pair").ok K = true from c.fact 16 (f := fa_16) rfl)) D_is_pair_of
  have D_common_of_rims : Def ⟨P, w, K, mg, base⟩ 1 "common_of_rims" 2 f_common_of := d_common_of_rims (B := ⟨P, w, K, mg, base⟩) F_common_of_rims (He.glo_ok X G (show (He.Fa.glo "common_of_rims").ok K = true from c.fact 17 (f := fa_17) rfl)) z_abs
  have D_second_row : Def ⟨P, w, K, mg, base⟩ 2 "second_row" 2 m_second_row := d_second_row (B := ⟨P, w, K, mg, base⟩) F_second_row (He.glo_ok X G (show (He.Fa.glo "second_row").ok K = true from c.fact 18 (f := fa_18) rfl)) D_common_of_rims
  have D_column_beside : Def ⟨P, w, K, mg, base⟩ 1 "column_beside" 2 f_column_beside := d_column_beside (B := ⟨P, w, K, mg, base⟩) F_column_beside (He.glo_ok X G (show (He.Fa.glo "column_beside").ok K = true from c.fact 19 (f := fa_19) rfl)) 
  have D_matrix_of : Def ⟨P, w, K, mg, base⟩ 6 "matrix_of" 2 m_matrix_of := d_matrix_of (B := ⟨P, w, K, mg, base⟩) F_matrix_of (He.glo_ok X G (show (He.Fa.glo "matrix_of").ok K = true from c.fact 20 (f := fa_20) rfl)) D_require_level D_require_pair D_second_row D_column_beside
  have D_pair_round : Def ⟨P, w, K, mg, base⟩ 6 "pair_round" 2 m_pair_round := d_pair_round (B := ⟨P, w, K, mg, base⟩) F_pair_round (He.glo_ok X G (show (He.Fa.glo "pair_round").ok K = true from c.fact 21 (f := fa_21) rfl)) D_require_level D_require_pair D_least_pair z_tuple
  have D__law_lowest : Def ⟨P, w, K, mg, base⟩ 2 "_law_lowest" 2 f__law_lowest := d__law_lowest (B := ⟨P, w, K, mg, base⟩) F__law_lowest (He.glo_ok X G (show (He.Fa.glo "_law_lowest").ok K = true from c.fact 22 (f := fa_22) rfl)) D__law_gcd
  have D__law_rim_told : Def ⟨P, w, K, mg, base⟩ 2 "_law_rim_told" 3 m__law_rim_told := d__law_rim_told (B := ⟨P, w, K, mg, base⟩) F__law_rim_told (He.glo_ok X G (show (He.Fa.glo "_law_rim_told").ok K = true from c.fact 23 (f := fa_23) rfl)) D__law_gcd z_range
  have D__law_width : Def ⟨P, w, K, mg, base⟩ 2 "_law_width" 2 f__law_width := d__law_width (B := ⟨P, w, K, mg, base⟩) F__law_width (He.glo_ok X G (show (He.Fa.glo "_law_width").ok K = true from c.fact 24 (f := fa_24) rfl)) D__law_gcd
  have D__law_own_round : Def ⟨P, w, K, mg, base⟩ 1 "_law_own_round" 3 m__law_own_round := d__law_own_round (B := ⟨P, w, K, mg, base⟩) F__law_own_round (He.glo_ok X G (show (He.Fa.glo "_law_own_round").ok K = true from c.fact 25 (f := fa_25) rfl)) z_range z_int z_tuple
  have D_is_fraction : Def ⟨P, w, K, mg, base⟩ 3 "is_fraction" 1 f_is_fraction := d_is_fraction (B := ⟨P, w, K, mg, base⟩) F_is_fraction (He.glo_ok X G (show (He.Fa.glo "is_fraction").ok K = true from c.fact 26 (f := fa_26) rfl)) z_all D_is_integer z_len z_isinstance z_tuple c_MAX_PART D_common_of_rims
  have D_require_fraction : Def ⟨P, w, K, mg, base⟩ 4 "require_fraction" 1 f_require_fraction := d_require_fraction (B := ⟨P, w, K, mg, base⟩) F_require_fraction (He.glo_ok X G (show (He.Fa.glo "require_fraction").ok K = true from c.fact 27 (f := fa_27) rfl)) D_is_fraction
  have D_width_in : Def ⟨P, w, K, mg, base⟩ 2 "width_in" 2 f_width_in := d_width_in (B := ⟨P, w, K, mg, base⟩) F_width_in (He.glo_ok X G (show (He.Fa.glo "width_in").ok K = true from c.fact 28 (f := fa_28) rfl)) D_common_of_rims
  have D_width_of : Def ⟨P, w, K, mg, base⟩ 5 "width_of" 2 m_width_of := d_width_of (B := ⟨P, w, K, mg, base⟩) F_width_of (He.glo_ok X G (show (He.Fa.glo "width_of").ok K = true from c.fact 29 (f := fa_29) rfl)) D_require_level D_require_fraction D_width_in
  have D_least_top : Def ⟨P, w, K, mg, base⟩ 2 "least_top" 3 f_least_top := d_least_top (B := ⟨P, w, K, mg, base⟩) F_least_top (He.glo_ok X G (show (He.Fa.glo "least_top").ok K = true from c.fact 30 (f := fa_30) rfl)) D_common_of_rims
  have D_rim_in : Def ⟨P, w, K, mg, base⟩ 3 "rim_in" 2 f_rim_in := d_rim_in (B := ⟨P, w, K, mg, base⟩) F_rim_in (He.glo_ok X G (show (He.Fa.glo "rim_in").ok K = true from c.fact 31 (f := fa_31) rfl)) D_common_of_rims D_least_top
  have D_rim_of : Def ⟨P, w, K, mg, base⟩ 5 "rim_of" 2 f_rim_of := d_rim_of (B := ⟨P, w, K, mg, base⟩) F_rim_of (He.glo_ok X G (show (He.Fa.glo "rim_of").ok K = true from c.fact 32 (f := fa_32) rfl)) D_require_level D_require_fraction D_rim_in
  have D_require_positive : Def ⟨P, w, K, mg, base⟩ 3 "require_positive" 1 f_require_positive := d_require_positive (B := ⟨P, w, K, mg, base⟩) F_require_positive (He.glo_ok X G (show (He.Fa.glo "require_positive").ok K = true from c.fact 33 (f := fa_33) rfl)) D_is_integer
  have D_require_factored : Def ⟨P, w, K, mg, base⟩ 1 "require_factored" 1 f_require_factored := d_require_factored (B := ⟨P, w, K, mg, base⟩) F_require_factored (He.glo_ok X G (show (He.Fa.glo "require_factored").ok K = true from c.fact 34 (f := fa_34) rfl)) c_MAX_FACTORED
  have D_powers_in : Def ⟨P, w, K, mg, base⟩ 1 "powers_in" 1 f_powers_in := d_powers_in (B := ⟨P, w, K, mg, base⟩) F_powers_in (He.glo_ok X G (show (He.Fa.glo "powers_in").ok K = true from c.fact 35 (f := fa_35) rfl)) 
  have D_divisors_in : Def ⟨P, w, K, mg, base⟩ 2 "divisors_in" 1 f_divisors_in := d_divisors_in (B := ⟨P, w, K, mg, base⟩) F_divisors_in (He.glo_ok X G (show (He.Fa.glo "divisors_in").ok K = true from c.fact 36 (f := fa_36) rfl)) D_powers_in z_list z_range z_sorted
  have D_divisors : Def ⟨P, w, K, mg, base⟩ 4 "divisors" 1 f_divisors := d_divisors (B := ⟨P, w, K, mg, base⟩) F_divisors (He.glo_ok X G (show (He.Fa.glo "divisors").ok K = true from c.fact 37 (f := fa_37) rfl)) D_require_positive D_require_factored z_tuple D_divisors_in
  have D_require_count : Def ⟨P, w, K, mg, base⟩ 3 "require_count" 3 f_require_count := d_require_count (B := ⟨P, w, K, mg, base⟩) F_require_count (He.glo_ok X G (show (He.Fa.glo "require_count").ok K = true from c.fact 38 (f := fa_38) rfl)) D_is_integer
  have D_units_in : Def ⟨P, w, K, mg, base⟩ 2 "units_in" 1 f_units_in := d_units_in (B := ⟨P, w, K, mg, base⟩) F_units_in (He.glo_ok X G (show (He.Fa.glo "units_in").ok K = true from c.fact 39 (f := fa_39) rfl)) D_powers_in
  have D_count_units : Def ⟨P, w, K, mg, base⟩ 4 "count_units" 1 f_count_units := d_count_units (B := ⟨P, w, K, mg, base⟩) F_count_units (He.glo_ok X G (show (He.Fa.glo "count_units").ok K = true from c.fact 40 (f := fa_40) rfl)) D_require_count c_MAX_MODULUS D_units_in
  have D_divisor_of : Def ⟨P, w, K, mg, base⟩ 1 "divisor_of" 2 f_divisor_of := d_divisor_of (B := ⟨P, w, K, mg, base⟩) F_divisor_of (He.glo_ok X G (show (He.Fa.glo "divisor_of").ok K = true from c.fact 41 (f := fa_41) rfl)) z_abs
  have D_common_divisor : Def ⟨P, w, K, mg, base⟩ 3 "common_divisor" 1 f_common_divisor := d_common_divisor (B := ⟨P, w, K, mg, base⟩) F_common_divisor (He.glo_ok X G (show (He.Fa.glo "common_divisor").ok K = true from c.fact 42 (f := fa_42) rfl)) z_all D_is_integer z_isinstance z_tuple D_divisor_of
  have D_count_rims : Def ⟨P, w, K, mg, base⟩ 5 "count_rims" 1 m_count_rims := d_count_rims (B := ⟨P, w, K, mg, base⟩) F_count_rims (He.glo_ok X G (show (He.Fa.glo "count_rims").ok K = true from c.fact 43 (f := fa_43) rfl)) D_require_level z_sum D_divisors D_count_units D_common_divisor
  have NP : NoPair (⟨P, w, K, mg, base⟩ : Cb).K := (noPair_of (show faNoPair K = true from c.fact 47 (f := fa_47) rfl))
  have D__law_right : Def ⟨P, w, K, mg, base⟩ 7 "_law_right" 1 m__law_right := d__law_right (B := ⟨P, w, K, mg, base⟩) F__law_right (He.glo_ok X G (show (He.Fa.glo "_law_right").ok K = true from c.fact 44 (f := fa_44) rfl)) D__law_level_drawn D__law_told_pairs z_set z_sorted D__law_mixed D_matrix_of D_pair_round D__law_lowest D__law_rim_told z_len D__law_width D__law_own_round D_width_of D_rim_of z_min NP z_max z_abs D_count_rims
  have D__law_dice : Def ⟨P, w, K, mg, base⟩ 1 "_law_dice" 2 f__law_dice := d__law_dice (B := ⟨P, w, K, mg, base⟩) F__law_dice (He.glo_ok X G (show (He.Fa.glo "_law_dice").ok K = true from c.fact 45 (f := fa_45) rfl)) z_len z_int z_max z_abs
  exact fn_cx0 (def_ok (B := ⟨P, w, K, mg, base⟩) (N := n_law) F_law sc_law (fun cdv A outer s H E hr =>
    (bi_cons (si_for (fun _ => cy_passes) (fun _ => rfl) (ii_range1 (fun _ => rfl) z_range (ai_cons (ei_callB (fun _ => (call_max2 rfl)) ci_max2 (fun _ => rfl) z_max (by decide +kernel) (ai_cons ei_int (ai_cons (ei_callB (fun _ => (call_min2 rfl)) ci_min2 (fun _ => rfl) z_min (by decide +kernel) (ai_cons ei_int (ai_cons (ei_callB (fun _ => call_lenA) ci_len (fun _ => rfl) z_len (by decide +kernel) (ai_cons (ei_var 0) ai_nil)) ai_nil))) ai_nil))) ai_nil)) (gi_name 1 sc_law.nd rfl (fun _ => .inl rfl) (fun _ => .inr rfl)) (bi_one (si_if (ti_not (ti_val (ei_call D__law_right (fun _ => hr.mono (by decide)) (fun _ => cy_takes) (fun _ => rfl) rfl (ai_cons (ei_call D__law_dice (fun _ => hr.mono (by decide)) (fun _ => cy_takes) (fun _ => rfl) rfl (ai_cons (ei_var 0) (ai_cons (ei_var 1) ai_nil)) (len_cons (len_cons (fun _ _ _ _ => len_nil)))) ai_nil) (len_cons (fun _ _ _ _ => len_nil))))) (bi_one (si_ret ei_bl)) bi_nil))) (bi_one (si_ret (ei_and (ei_cmp (fun _ => op_eqD hr.units) oi_eq (nomark _) (ei_call (Def.iso D_pair_round) (fun _ => hr.mono (by decide)) (fun _ => cy_takes) (fun _ => rfl) rfl (ai_cons ei_int (ai_cons (ei_tup (ai_cons ei_int (ai_cons ei_int ai_nil))) ai_nil)) (len_cons (len_cons (fun _ _ _ _ => len_nil)))) (ei_tup (ai_cons (ei_tup (ai_cons ei_int (ai_cons ei_int ai_nil))) (ai_cons (ei_tup (ai_cons ei_int (ai_cons ei_int ai_nil))) (ai_cons (ei_tup (ai_cons ei_int (ai_cons ei_int ai_nil))) ai_nil))))) (ei_and (ei_cmp (fun _ => op_eqD hr.units) oi_eq (nomark _) (ei_callB (fun _ => call_lenA) ci_len (fun _ => rfl) z_len (by decide +kernel) (ai_cons (ei_call (Def.iso D_pair_round) (fun _ => hr.mono (by decide)) (fun _ => cy_takes) (fun _ => rfl) rfl (ai_cons ei_int (ai_cons (ei_tup (ai_cons ei_int (ai_cons ei_int ai_nil))) ai_nil)) (len_cons (len_cons (fun _ _ _ _ => len_nil)))) ai_nil)) ei_int) (ei_one (ei_cmp (fun _ => op_eqD hr.units) oi_eq (nomark _) (ei_call (Def.iso D_pair_round) (fun _ => hr.mono (by decide)) (fun _ => cy_takes) (fun _ => rfl) rfl (ai_cons ei_int (ai_cons (ei_tup (ai_cons ei_int (ai_cons ei_int ai_nil))) ai_nil)) (len_cons (len_cons (fun _ _ _ _ => len_nil)))) (ei_tup (ai_cons (ei_tup (ai_cons ei_int (ai_cons ei_int ai_nil))) ai_nil)))))))))))
end L15
open PySem PySem.W PySem.Calls PyProof.Rows in
set_option maxHeartbeats 0 in
theorem L15.holds_of (left : L15.Left) : PySem.Challenge.rw_levelroads_k15_whole_rounds_and_rims.Holds := by
  w_on; o_law
  refine HandSHeadRun.head_any (r := OpenLaw.row PySem.Challenge.rw_levelroads_k15_whole_rounds_and_rims) (q := view (OpenLaw.row PySem.Challenge.rw_levelroads_k15_whole_rounds_and_rims).prog [66]) (H := L15.hk) (ob := L15.ob) (M := 6000) (loose := L15.loose) (d := HandSHeadRun.topDef (OpenLaw.row PySem.Challenge.rw_levelroads_k15_whole_rounds_and_rims).prog 66) (kwd := []) L15.ob_eq
    (by kernel_rfl) (fun s => by kernel_rfl) L15.run (by kernel_rfl) (by kernel_rfl) (by kernel_rfl) (by rfl) (by first | assumption | decide +kernel) (by decide +kernel) ⟨rfl, rfl, rfl, rfl, rfl, by decide +kernel⟩ ?hw ?hc
  case hw => w_witness2
  case hc =>
    refine L2.walk_ofE (l := PySem.Challenge.rw_levelroads_k15_whole_rounds_and_rims) (n := 63) (k := 8) (x := "_law_script") (CX := L2.CX0) rfl (by decide) (by kernel_rfl) ⟨rfl, by decide, by decide⟩ ?F (fun _ _ _ _ z => z)
    intro w mg fa h Y G hmg0
    obtain ⟨K, KX, c⟩ := Y
    have hmg : mg ("law" : PySem.Str) = some (.ref fa) := by
      have e : (HandSHeadRun.topDef (OpenLaw.row PySem.Challenge.rw_levelroads_k15_whole_rounds_and_rims).prog 66).name = ("law" : PySem.Str) := by kernel_rfl
      rw [← e]
      exact hmg0
    obtain ⟨fd, hb, hF⟩ := L15.facts (P := (PySem.Challenge.rw_levelroads_k15_whole_rounds_and_rims).prog) (w := w) KX G hmg c
    exact ⟨K, fd, (fun vs H Q _ => Pd.spI K mg 1 L15.m_law vs H Q fun _ _ _ => False), KX, hb, fun H a ns hl _ hS => Pd.law_sp hS (left ns hl), hF⟩

theorem PySem.Challenge.cw_levelroads_k15_whole_rounds_and_rims_holds : PySem.Challenge.rw_levelroads_k15_whole_rounds_and_rims.Holds := by
  exact L15.holds_of L15.left

