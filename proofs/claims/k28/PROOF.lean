import PyProof.Rows.All
import HandS.ForMost
import HandS.ForExc
import HandS.IsInst
import HandS.TupAny
import HandS.Wide
import HandS.Walk
import KE.SortData
import HandS.Style
import HandS.Flt
import HandS.ExcInit
import HandS.ExcField
import KE.GoesEnum
import HandS.Deep
import HandS.More
import HandS.RaiseMore
import PyProof.AutoSeq1
import PySem.Challenge.RW_beforeinall_k28_parents_of_houses
set_option Elab.async false
set_option linter.all false
set_option maxRecDepth 100000
set_option maxHeartbeats 4000000
/-! Mi: mirrors of defs over pure values and a store; each combinator is held by the hand layer's judgements. -/
namespace Mi
open PySem PySem.Spec PyProof.Rows L2
/-! ### values, store, results -/
/-- a value: tuples are data; fl: a list that is never written; loc: a place of the store -/
inductive D where
  | non | bl (b : Bool) | int (i : Int) | str (x : Str)
  | tup (xs : List D) | fl (xs : List D) | loc (l : Nat) | exv (a dd : Addr) (c : Str) (fs : List (Str × D))
inductive Cell where
  | lst (xs : List D) | dic (kvs : List (Key × D))
abbrev Store := List Cell
structure Ex where
  cls : Str
  fs : List (Str × D)
inductive R (α : Type) where
  | ok (a : α) (s : Store) | ex (e : Ex) (s : Store) | no
namespace R
def bind {α β : Type} (r : R α) (k : α → Store → R β) : R β := match r with
  | .ok a s => k a s
  | .ex e s => .ex e s
  | .no => .no
def of {α : Type} : Option (α × Store) → R α
  | some (a, s) => .ok a s
  | none => .no
@[simp] theorem bind_ok {α β : Type} (a : α) (s : Store) (k : α → Store → R β) : (R.ok a s).bind k = k a s := rfl
@[simp] theorem bind_ex {α β : Type} (e : Ex) (s : Store) (k : α → Store → R β) : (R.ex e s : R α).bind k = .ex e s := rfl
@[simp] theorem bind_no {α β : Type} (k : α → Store → R β) : (R.no : R α).bind k = .no := rfl
@[simp] theorem of_some {α : Type} (a : α) (s : Store) : R.of (some (a, s)) = .ok a s := rfl
@[simp] theorem of_none {α : Type} : (R.of none : R α) = .no := rfl
end R
/-- the slots of a def's names -/
abbrev Sl := List (Option D)
inductive RS where
  | nx (env : Sl) (s : Store) | rt (d : D) (s : Store) | bk (env : Sl) (s : Store) | ct (env : Sl) (s : Store) | ex (e : Ex) (env : Sl) (s : Store) | no
/-! ### the relation to the hand layer's heap -/
section
variable (K : PySem.W.Frag)
/-- a list that is never written: known to the object, or of the module -/
def FrL (H : Hp) (a : Addr) (vs : List V) : Prop :=
  (∃ o, H a = some (.frz o (.lst vs))) ∨
    ∃ (o : Obj) (its : Array Value) (n : Nat), K.lookup a = some o ∧ o.cls = .type "list" ∧ o.dict = none ∧ o.data = .seq its n ∧ its.size ≤ sizeLine ∧ Vals vs its.toList
theorem FrL.sq {K : PySem.W.Frag} {H : Hp} {a : Addr} {vs : List V} (h : FrL K H a vs) : SqL K H a vs := by
  rcases h with ⟨o, h⟩ | h
  · exact .inl (.inr ⟨o, h⟩)
  · exact .inr h
mutual
inductive Rep (m : List Addr) (H : Hp) : D → V → Prop where
  | non : Rep m H .non .non
  | bl (b : Bool) : Rep m H (.bl b) (.bl b)
  | int (i : Int) : Rep m H (.int i) (.int i)
  | str (x : Str) : Rep m H (.str x) (.str x)
  | tup {xs : List D} {a : Addr} {vs : List V} (h : SqT K H a vs) (r : Reps m H xs vs) : Rep m H (.tup xs) (.ref a)
  | fl {xs : List D} {a : Addr} {vs : List V} (h : FrL K H a vs) (r : Reps m H xs vs) : Rep m H (.fl xs) (.ref a)
  | loc {l : Nat} {a : Addr} (h : m[l]? = some a) : Rep m H (.loc l) (.ref a)
  | exv {c : Str} {fs : List (Str × D)} {a dd : Addr} {vfs : List (Str × V)} (h : H dd = some (.xd vfs)) (n : dd ∉ m) (r : FldR m H fs vfs) : Rep m H (.exv a dd c fs) (.ref a)
inductive Reps (m : List Addr) (H : Hp) : List D → List V → Prop where
  | nil : Reps m H [] []
  | cons {x : D} {v : V} {xs : List D} {vs : List V} (h : Rep m H x v) (r : Reps m H xs vs) : Reps m H (x :: xs) (v :: vs)
inductive FldR (m : List Addr) (H : Hp) : List (Str × D) → List (Str × V) → Prop where
  | nil : FldR m H [] []
  | cons {f : Str} {x : D} {v : V} {xs : List (Str × D)} {vs : List (Str × V)} (h : Rep m H x v) (r : FldR m H xs vs) : FldR m H ((f, x) :: xs) ((f, v) :: vs)
end
inductive RepK (m : List Addr) (H : Hp) : List (Key × D) → List (Key × V) → Prop where
  | nil : RepK m H [] []
  | cons {k : Key} {x : D} {v : V} {xs : List (Key × D)} {vs : List (Key × V)} (h : Rep K m H x v) (r : RepK m H xs vs) : RepK m H ((k, x) :: xs) ((k, v) :: vs)
def CellR (m : List Addr) (H : Hp) (a : Addr) : Cell → Prop
  | .lst xs => ∃ vs, H a = some (.lst vs) ∧ Reps K m H xs vs
  | .dic kvs => ∃ ws, H a = some (.dK ws) ∧ RepK K m H kvs ws
structure Rel (m : List Addr) (H : Hp) (s : Store) : Prop where
  len : m.length = s.length
  nd : m.Nodup
  at_ : ∀ (l : Nat) (a : Addr) (c : Cell), m[l]? = some a → s[l]? = some c → CellR K m H a c
/-- later: what was there is there; tuples and the lists that are never written stand; what is no cell of ours stands -/
structure Le (m : List Addr) (H : Hp) (m' : List Addr) (H' : Hp) : Prop where
  pre : ∃ r, m' = m ++ r
  tup : ∀ a xs, SqT K H a xs → SqT K H' a xs
  frl : ∀ a xs, FrL K H a xs → FrL K H' a xs
  fr : ∀ b o, H b = some o → b ∉ m → H' b = some o
  nw : ∀ b, b ∈ m' → b ∈ m ∨ H b = none
def RelE (m : List Addr) (H : Hp) (env : Sl) (σ : L2.St) : Prop :=
  env.length = σ.length ∧ ∀ (i : Nat) (d : D), env[i]? = some (some d) → ∃ v, σ[i]? = some (some v) ∧ Rep K m H d v
end
section
variable {K : PySem.W.Frag} {m m1 m2 : List Addr} {H H1 H2 : Hp} {s : Store} {a b p : Addr} {c : Cell}
theorem Le.refl : Le K m H m H := ⟨⟨[], by simp⟩, fun _ _ h => h, fun _ _ h => h, fun _ _ h _ => h, fun _ h => .inl h⟩
theorem Le.get (e : Le K m H m1 H1) {l : Nat} (h : m[l]? = some a) : m1[l]? = some a := by
  obtain ⟨r, rfl⟩ := e.pre
  rw [List.getElem?_append_left (by
    rcases Nat.lt_or_ge l m.length with q | q
    · exact q
    · rw [List.getElem?_eq_none q] at h; cases h)]
  exact h
theorem Le.trans (e : Le K m H m1 H1) (f : Le K m1 H1 m2 H2) : Le K m H m2 H2 := by
  refine ⟨?_, fun a xs h => f.tup a xs (e.tup a xs h), fun a xs h => f.frl a xs (e.frl a xs h), fun b o h n => ?_, fun b h => ?_⟩
  · obtain ⟨r, rfl⟩ := e.pre
    obtain ⟨r2, rfl⟩ := f.pre
    exact ⟨r ++ r2, by simp⟩
  · refine f.fr b o (e.fr b o h n) fun z => ?_
    rcases e.nw b z with q | q
    · exact n q
    · rw [h] at q; cases q
  · by_cases z : b ∈ m
    · exact .inl z
    · rcases f.nw b h with q | q
      · exact e.nw b q
      · refine .inr ?_
        cases w : H b with
        | none => rfl
        | some o =>
          rw [e.fr b o w z] at q; cases q
mutual
theorem Rep.mono (e : Le K m H m1 H1) : ∀ {d : D} {v : V}, Rep K m H d v → Rep K m1 H1 d v
  | _, _, .non => .non
  | _, _, .bl b => .bl b
  | _, _, .int i => .int i
  | _, _, .str x => .str x
  | _, _, .tup h r => .tup (e.tup _ _ h) (Reps.mono e r)
  | _, _, .fl h r => .fl (e.frl _ _ h) (Reps.mono e r)
  | _, _, .loc h => .loc (e.get h)
  | _, _, .exv h n r => .exv (e.fr _ _ h n) (fun z => (e.nw _ z).elim n fun q => by rw [h] at q; cases q) (FldR.mono e r)
theorem Reps.mono (e : Le K m H m1 H1) : ∀ {ds : List D} {vs : List V}, Reps K m H ds vs → Reps K m1 H1 ds vs
  | _, _, .nil => .nil
  | _, _, .cons h r => .cons (Rep.mono e h) (Reps.mono e r)
theorem FldR.mono (e : Le K m H m1 H1) : ∀ {ds : List (Str × D)} {vs : List (Str × V)}, FldR K m H ds vs → FldR K m1 H1 ds vs
  | _, _, .nil => .nil
  | _, _, .cons h r => .cons (Rep.mono e h) (FldR.mono e r)
end
theorem RepK.mono (e : Le K m H m1 H1) : ∀ {ds : List (Key × D)} {vs : List (Key × V)}, RepK K m H ds vs → RepK K m1 H1 ds vs
  | _, _, .nil => .nil
  | _, _, .cons h r => .cons (h.mono e) (RepK.mono e r)
theorem RelE.mono (e : Le K m H m1 H1) {env : Sl} {σ : L2.St} (h : RelE K m H env σ) : RelE K m1 H1 env σ :=
  ⟨h.1, fun i d q => let ⟨v, h1, h2⟩ := h.2 i d q; ⟨v, h1, h2.mono e⟩⟩
theorem Reps.length : ∀ {xs : List D} {vs : List V}, Reps K m H xs vs → xs.length = vs.length
  | _, _, .nil => rfl
  | _, _, .cons _ r => by simp [Reps.length r]
theorem Reps.get : ∀ {xs : List D} {vs : List V} {i : Nat} {x : D}, Reps K m H xs vs → xs[i]? = some x → ∃ v, vs[i]? = some v ∧ Rep K m H x v
  | _, _, _, _, .nil, e => by simp at e
  | _, _, 0, _, .cons h _, e => by simp at e; subst e; exact ⟨_, rfl, h⟩
  | _, _, i + 1, x, .cons _ r, e => by
    obtain ⟨v, h1, h2⟩ := Reps.get (i := i) (x := x) r (by simpa using e)
    exact ⟨v, by simpa using h1, h2⟩
theorem Reps.append : ∀ {xs ys : List D} {vs ws : List V}, Reps K m H xs vs → Reps K m H ys ws → Reps K m H (xs ++ ys) (vs ++ ws)
  | _, _, _, _, .nil, q => q
  | _, _, _, _, .cons h r, q => .cons h (Reps.append r q)
theorem Reps.take : ∀ {xs : List D} {vs : List V} (n : Nat), Reps K m H xs vs → Reps K m H (xs.take n) (vs.take n)
  | _, _, 0, _ => .nil
  | _, _, _ + 1, .nil => .nil
  | _, _, n + 1, .cons h r => .cons h (Reps.take n r)
theorem Reps.drop : ∀ {xs : List D} {vs : List V} (n : Nat), Reps K m H xs vs → Reps K m H (xs.drop n) (vs.drop n)
  | _, _, 0, r => r
  | _, _, _ + 1, .nil => .nil
  | _, _, n + 1, .cons _ r => Reps.drop n r
theorem Reps.set {x : D} {v : V} (h : Rep K m H x v) : ∀ {xs : List D} {vs : List V} (i : Nat), Reps K m H xs vs → Reps K m H (xs.set i x) (vs.set i v)
  | _, _, _, .nil => .nil
  | _, _, 0, .cons _ r => .cons h r
  | _, _, i + 1, .cons q r => .cons q (Reps.set h i r)
theorem Reps.dropLast : ∀ {xs : List D} {vs : List V}, Reps K m H xs vs → Reps K m H xs.dropLast vs.dropLast
  | _, _, .nil => .nil
  | _, _, .cons _ .nil => .nil
  | _, _, .cons h (.cons h2 r) => by
    rw [List.dropLast_cons₂, List.dropLast_cons₂]
    exact .cons h (Reps.dropLast (.cons h2 r))
theorem Reps.erase : ∀ {xs : List D} {vs : List V} (i : Nat), Reps K m H xs vs → Reps K m H (xs.eraseIdx i) (vs.eraseIdx i)
  | _, _, _, .nil => .nil
  | _, _, 0, .cons _ r => r
  | _, _, i + 1, .cons q r => .cons q (Reps.erase i r)
theorem Reps.reverse {xs : List D} {vs : List V} (h : Reps K m H xs vs) : Reps K m H xs.reverse vs.reverse := by
  induction xs generalizing vs with
  | nil => cases h; exact .nil
  | cons x xs ih =>
    cases h with
    | cons h r =>
      rw [List.reverse_cons, List.reverse_cons]
      exact (ih r).append (.cons h .nil)
theorem Reps.ints : ∀ {ns : List Int} {vs : List V}, Reps K m H (ns.map D.int) vs → vs = ns.map V.int
  | [], _, .nil => rfl
  | n :: ns, _, .cons h r => by
    cases h
    rw [List.map_cons, Reps.ints r]
theorem reps_ints (ns : List Int) : Reps K m H (ns.map D.int) (ns.map V.int) := by
  induction ns with
  | nil => exact .nil
  | cons n ns ih => exact .cons (.int n) ih
/-! ### changes of the heap -/
theorem Rel.lt (r : Rel K m H s) {l : Nat} (h : m[l]? = some a) : l < s.length := by
  rw [← r.len]
  rcases Nat.lt_or_ge l m.length with q | q
  · exact q
  · rw [List.getElem?_eq_none q] at h; cases h
theorem Rel.there (r : Rel K m H s) (h : b ∈ m) : ∃ o, H b = some o ∧ (∃ vs, o = .lst vs) ∨ ∃ ws, H b = some (.dK ws) := by
  obtain ⟨l, hl⟩ := List.getElem?_of_mem h
  have q := r.lt hl
  obtain ⟨c, hc⟩ : ∃ c, s[l]? = some c := ⟨s[l], by simp [q]⟩
  have x := r.at_ l b c hl hc
  cases c with
  | lst xs => obtain ⟨vs, e, _⟩ := x; exact ⟨_, .inl ⟨e, vs, rfl⟩⟩
  | dic kvs => obtain ⟨ws, e, _⟩ := x; exact ⟨.lst [], .inr ⟨ws, e⟩⟩
theorem Rel.has (r : Rel K m H s) (h : b ∈ m) : ∃ o, H b = some o ∧ (∀ xs, o ≠ .tup xs) ∧ ∀ u x, o ≠ .frz u x := by
  obtain ⟨o, ⟨e, vs, rfl⟩ | ⟨ws, e⟩⟩ := r.there h
  · exact ⟨_, e, fun _ z => (by cases z), fun _ _ z => (by cases z)⟩
  · exact ⟨_, e, fun _ z => (by cases z), fun _ _ z => (by cases z)⟩
theorem Rel.new_notin (r : Rel K m H s) (h : H p = none) : p ∉ m := fun z => by
  obtain ⟨o, e, _⟩ := r.has z
  rw [h] at e; cases e
/-- any object laid at a free place, or written at a place that is neither tuple nor frozen -/
theorem le_upd {o : HO} (hp : ∀ u, H p = Option.some u → p ∈ m) (hm : ∀ u, H p = Option.some u → (∀ xs, u ≠ .tup xs) ∧ ∀ ob x, u ≠ .frz ob x) : Le K m H m (upd H p o) := by
  refine ⟨⟨[], by simp⟩, fun b xs h => ?_, fun b xs h => ?_, fun b u h n => ?_, fun b h => .inl h⟩
  · rcases h with (h | ⟨ob, h⟩) | h
    · exact .inl (.inl (by rw [upd_ne (fun z => by subst z; exact (hm _ h).1 xs rfl)]; exact h))
    · exact .inl (.inr ⟨ob, by rw [upd_ne (fun z => by subst z; exact (hm _ h).2 _ _ rfl)]; exact h⟩)
    · exact .inr h
  · rcases h with ⟨ob, h⟩ | h
    · exact .inl ⟨ob, by rw [upd_ne (fun z => by subst z; exact (hm _ h).2 _ _ rfl)]; exact h⟩
    · exact .inr h
  · rw [upd_ne (fun z => by subst z; exact n (hp _ h))]; exact h
theorem le_new {o : HO} (hp : H p = none) : Le K m H m (upd H p o) :=
  le_upd (fun u h => by rw [hp] at h; cases h) (fun u h => by rw [hp] at h; cases h)
theorem le_put (r : Rel K m H s) (h : p ∈ m) {o : HO} : Le K m H m (upd H p o) :=
  le_upd (fun _ _ => h) (fun u e => by
    obtain ⟨o', e', q⟩ := r.has h
    rw [e] at e'; cases e'
    exact q)
theorem le_more (r : Rel K m H s) (hp : H p = none) {o : HO} : Le K m H (m ++ [p]) (upd H p o) := by
  have e : Le K m H m (upd H p o) := le_new hp
  refine ⟨⟨[p], rfl⟩, e.tup, e.frl, e.fr, fun b h => ?_⟩
  rcases List.mem_append.mp h with q | q
  · exact .inl q
  · rw [List.mem_singleton.mp q]; exact .inr hp
theorem CellR.mono {m' : List Addr} {H' : Hp} (e : Le K m H m' H') (hs : H' a = H a) (h : CellR K m H a c) : CellR K m' H' a c := by
  cases c with
  | lst xs => obtain ⟨vs, h1, h2⟩ := h; exact ⟨vs, hs.trans h1, h2.mono e⟩
  | dic kvs => obtain ⟨ws, h1, h2⟩ := h; exact ⟨ws, hs.trans h1, h2.mono e⟩
/-- an object that is no cell is laid -/
theorem Rel.tmp (r : Rel K m H s) (hp : H p = none) {o : HO} : Rel K m (upd H p o) s :=
  ⟨r.len, r.nd, fun l a c h1 h2 => (r.at_ l a c h1 h2).mono (le_new hp) (upd_ne fun z => by subst z; exact r.new_notin hp (List.mem_of_getElem? h1))⟩
theorem Rel.put (r : Rel K m H s) {l : Nat} (h : m[l]? = Option.some p) {o : HO} {c : Cell} (hc : CellR K m (upd H p o) p c) : Rel K m (upd H p o) (s.set l c) := by
  refine ⟨by rw [List.length_set]; exact r.len, r.nd, fun j b d h1 h2 => ?_⟩
  by_cases hj : j = l
  · subst hj
    rw [h] at h1; cases h1
    rw [List.getElem?_set_self (r.lt h)] at h2; cases h2
    exact hc
  · rw [List.getElem?_set_ne (Ne.symm hj)] at h2
    refine (r.at_ j b d h1 h2).mono (le_put r (List.mem_of_getElem? h)) (upd_ne fun z => hj ?_)
    subst z
    exact nd_ix r.nd h1 h
theorem Rel.new (r : Rel K m H s) (hp : H p = none) {o : HO} {c : Cell} (hc : CellR K (m ++ [p]) (upd H p o) p c) : Rel K (m ++ [p]) (upd H p o) (s ++ [c]) := by
  have hn := r.new_notin hp
  refine ⟨by simp [r.len], ?_, fun j b d h1 h2 => ?_⟩
  · rw [List.nodup_append]
    exact ⟨r.nd, by simp, fun x hx y hy => by rw [List.mem_singleton.mp hy]; exact fun z => hn (z ▸ hx)⟩
  · rcases Nat.lt_or_ge j m.length with q | q
    · rw [List.getElem?_append_left q] at h1
      rw [List.getElem?_append_left (by rw [← r.len]; exact q)] at h2
      exact (r.at_ j b d h1 h2).mono (le_more r hp) (upd_ne fun z => by subst z; exact hn (List.mem_of_getElem? h1))
    · rw [List.getElem?_append_right q] at h1
      rw [List.getElem?_append_right (by rw [← r.len]; exact q), ← r.len] at h2
      cases hk : j - m.length with
      | zero =>
        rw [hk] at h1 h2
        simp at h1 h2
        subst h1; subst h2
        exact hc
      | succ n => rw [hk] at h1; simp at h1
theorem len_get (r : Rel K m H s) : (m ++ [p])[s.length]? = some p := by
  rw [← r.len, List.getElem?_append_right (Nat.le_refl _)]; simp
/-- a new tuple -/
theorem rep_newtup {xs : List D} {vs : List V} (hp : H p = none) (h : Reps K m H xs vs) : Rep K m (upd H p (.tup vs)) (.tup xs) (.ref p) :=
  .tup (.inl (.inl upd_same)) (h.mono (le_new hp))
/-- a new list -/
theorem rel_newlist {xs : List D} {vs : List V} (r : Rel K m H s) (hp : H p = none) (h : Reps K m H xs vs) : Rel K (m ++ [p]) (upd H p (.lst vs)) (s ++ [.lst xs]) :=
  r.new hp ⟨vs, upd_same, h.mono (le_more r hp)⟩
theorem Rel.list (r : Rel K m H s) {l : Nat} {xs : List D} (h : m[l]? = Option.some a) (hs : s[l]? = Option.some (.lst xs)) : ∃ vs, H a = Option.some (.lst vs) ∧ Reps K m H xs vs := r.at_ l a _ h hs
end
end Mi
namespace Mi
open PySem PySem.Spec PyProof.Rows L2
/-! ### readings of mirrors -/
section
variable (K : PySem.W.Frag) (mg : Str → Option Value)
/-- an exception: its class, its own dict -/
def ExR (m : List Addr) (H : Hp) (e : Ex) (c : Value) (dd : Option Addr) : Prop :=
  mg e.cls = some c ∧ ((e.fs = [] ∧ dd = none) ∨ ∃ d vfs, dd = some d ∧ H d = some (.xd vfs) ∧ d ∉ m ∧ FldR K m H e.fs vfs)
/-- what a result is to bring about -/
def G {α β : Type} (ρ : List Addr → Hp → α → β → Prop) (W : WX) (σ : L2.St) (m : List Addr) (H : Hp) (Q : β → Hp → Prop) : R α → Prop
  | .ok a s => ∀ m' H' b, Le K m H m' H' → Rel K m' H' s → ρ m' H' a b → Q b H'
  | .ex e s => ∀ m' H' c dd, Le K m H m' H' → Rel K m' H' s → ExR K mg m' H' e c dd → W c dd σ H'
  | .no => False
def Tm {α β : Type} (ρ : List Addr → Hp → α → β → Prop) (W : WX) (f : Sl → Store → R α) : L2.St → Hp → (β → Hp → Prop) → Prop := fun σ H Q =>
  ∃ m env s, Rel K m H s ∧ RelE K m H env σ ∧ G K mg ρ W σ m H Q (f env s)
abbrev ME (α : Type) := Sl → Store → R α
/-- a test's -/
def ρB : List Addr → Hp → Bool → Bool → Prop := fun _ _ a b => a = b
abbrev Te (W : WX) (f : ME D) : TE := Tm K mg (Rep K) W f
abbrev Tt (W : WX) (f : ME Bool) : TT := Tm K mg ρB W f
abbrev Ta (W : WX) (f : ME (List D)) : TA := Tm K mg (Reps K) W f
end
section
variable {K : PySem.W.Frag} {mg : Str → Option Value} {m m1 : List Addr} {H H1 : Hp} {s : Store} {W : WX} {σ : L2.St}
section
variable {α α' β β' : Type} {ρ : List Addr → Hp → α → β → Prop} {ρ' : List Addr → Hp → α' → β' → Prop} {Q : β → Hp → Prop} {Q' : β' → Hp → Prop}
theorem G.mono (e : Le K m H m1 H1) {r : R α} (h : G K mg ρ W σ m H Q r) : G K mg ρ W σ m1 H1 Q r := by
  cases r with
  | ok a s => exact fun m' H' b l r q => h m' H' b (e.trans l) r q
  | ex x s => exact fun m' H' c d l r q => h m' H' c d (e.trans l) r q
  | no => exact h
theorem G.bind {r : R α} {k : α → Store → R α'} (h : G K mg ρ' W σ m H Q' (r.bind k))
    (q : ∀ m1 H1 a b s1, Le K m H m1 H1 → Rel K m1 H1 s1 → ρ m1 H1 a b → G K mg ρ' W σ m1 H1 Q' (k a s1) → Q b H1) : G K mg ρ W σ m H Q r := by
  cases r with
  | ok a s => exact fun m' H' b l r p => q m' H' a b s l r p (G.mono l h)
  | ex x s => exact h
  | no => exact h
theorem G.imp {r : R α} (h : G K mg ρ W σ m H Q r) {Q1 : β → Hp → Prop} (q : ∀ m' H' a b s, r = .ok a s → Le K m H m' H' → Rel K m' H' s → ρ m' H' a b → Q b H' → Q1 b H') : G K mg ρ W σ m H Q1 r := by
  cases r with
  | ok a s => exact fun m' H' b l r p => q m' H' a b s rfl l r p (h m' H' b l r p)
  | ex x s => exact h
  | no => exact h
/-- run the first part -/
theorem Tm.bind {f : Sl → Store → R α} {k : Sl → α → Store → R α'} (h : Tm K mg ρ' W (fun env s => (f env s).bind (k env)) σ H Q')
    (q : ∀ m1 H1 env a b s1, Rel K m1 H1 s1 → RelE K m1 H1 env σ → ρ m1 H1 a b → G K mg ρ' W σ m1 H1 Q' (k env a s1) → Q b H1) : Tm K mg ρ W f σ H Q := by
  obtain ⟨m, env, s, r, e, g⟩ := h
  exact ⟨m, env, s, r, e, G.bind g fun m1 H1 a b s1 l r1 p g1 => q m1 H1 env a b s1 r1 (e.mono l) p g1⟩
/-- a further part runs -/
theorem Tm.of {f : Sl → Store → R α} {env : Sl} (r : Rel K m H s) (e : RelE K m H env σ) (g : G K mg ρ W σ m H Q (f env s)) : Tm K mg ρ W f σ H Q := ⟨m, env, s, r, e, g⟩
end
/-- the end: a value that is there -/
theorem G.now {d : D} {v : V} {Q : VK} (h : G K mg (Rep K) W σ m H Q (.ok d s)) (r : Rel K m H s) (p : Rep K m H d v) : Q v H := h m H v .refl r p
theorem G.nowB {d : Bool} {Q : Bool → Hp → Prop} (h : G K mg ρB W σ m H Q (.ok d s)) (r : Rel K m H s) : Q d H := h m H d .refl r rfl
end
theorem PE.imp {X : Cx} {e : Expr} {t t' : TE} (h : PE X e t) (i : ∀ σ H Q, t' σ H Q → t σ H Q) : PE X e t' := ⟨fun pins s σ H Q I q => h.run pins s σ H Q I (i σ H Q q)⟩
theorem PT.imp {X : Cx} {e : Expr} {t t' : TT} (h : PT X e t) (i : ∀ σ H Q, t' σ H Q → t σ H Q) : PT X e t' := ⟨fun pins s σ H Q I q => h.run pins s σ H Q I (i σ H Q q)⟩
theorem PW.imp {X : Cx} {e : Expr} {t t' : TT} (h : PW X e t) (i : ∀ σ H Q, t' σ H Q → t σ H Q) : PW X e t' := ⟨fun wh pins s σ H Q I q => h.run wh pins s σ H Q I (i σ H Q q)⟩
theorem PA.imp {X : Cx} {e : List Expr} {t t' : TA} (h : PA X e t) (i : ∀ σ H Q, t' σ H Q → t σ H Q) : PA X e t' := ⟨fun pos pins s σ H Q I q => h.run pos pins s σ H Q I (i σ H Q q)⟩
theorem PS.imp {X : Cx} {e : Stmt} {t t' : TS} (h : PS X e t) (i : ∀ D σ H, t' D σ H → t D σ H) : PS X e t' := ⟨fun pins s σ H D I q => h.run pins s σ H D I (i D σ H q)⟩
theorem PSs.imp {X : Cx} {e : List Stmt} {t t' : TS} (h : PSs X e t) (i : ∀ D σ H, t' D σ H → t D σ H) : PSs X e t' := ⟨fun pins s σ H D I q => h.run pins s σ H D I (i D σ H q)⟩
/-! ### combinators: expressions -/
def eC (d : D) : ME D := fun _ s => .ok d s
def eV (i : Nat) : ME D := fun env s => match env[i]? with
  | some (some d) => .ok d s
  | _ => .no
/-- two values -/
def e2 (g : D → D → Store → Option (D × Store)) (a b : ME D) : ME D := fun env s => (a env s).bind fun x s => (b env s).bind fun y s => R.of (g x y s)
def e1 (g : D → Store → Option (D × Store)) (a : ME D) : ME D := fun env s => (a env s).bind fun x s => R.of (g x s)
def aNil : ME (List D) := fun _ s => .ok [] s
def aCons (a : ME D) (r : ME (List D)) : ME (List D) := fun env s => (a env s).bind fun x s => (r env s).bind fun xs s => .ok (x :: xs) s
def eFn (g : List D → Store → Option (D × Store)) (a : ME (List D)) : ME D := fun env s => (a env s).bind fun xs s => R.of (g xs s)
def eTup (a : ME (List D)) : ME D := fun env s => (a env s).bind fun xs s => if xs.length ≤ sizeLine then .ok (.tup xs) s else .no
def eLst (a : ME (List D)) : ME D := fun env s => (a env s).bind fun xs s => if xs.length ≤ sizeLine then .ok (.loc s.length) (s ++ [.lst xs]) else .no
def eCall (g : List D → Store → R D) (a : ME (List D)) : ME D := fun env s => (a env s).bind g
/-- a value as a test: a bool -/
def tV (a : ME D) : ME Bool := fun env s => (a env s).bind fun x s => match x with
  | .bl b => .ok b s
  | _ => .no
def tAnd (a b : ME Bool) : ME Bool := fun env s => (a env s).bind fun x s => if x then b env s else .ok false s
def tOr (a b : ME Bool) : ME Bool := fun env s => (a env s).bind fun x s => if x then .ok true s else b env s
def tNot (a : ME Bool) : ME Bool := fun env s => (a env s).bind fun x s => .ok (!x) s
def eIf (c : ME Bool) (a b : ME D) : ME D := fun env s => (c env s).bind fun x s => if x then a env s else b env s
/-- and, or, not as values (bools) -/
def eAnd (a b : ME D) : ME D := fun env s => (a env s).bind fun x s => match x with
  | .bl true => b env s
  | .bl false => .ok (.bl false) s
  | _ => .no
def eOr (a b : ME D) : ME D := fun env s => (a env s).bind fun x s => match x with
  | .bl true => .ok (.bl true) s
  | .bl false => b env s
  | _ => .no
def eNot (a : ME D) : ME D := fun env s => (a env s).bind fun x s => match x with
  | .bl c => .ok (.bl !c) s
  | _ => .no
def eChain (g g' : D → D → Store → Option (D × Store)) (a b c : ME D) : ME D := fun env s => (a env s).bind fun x s => (b env s).bind fun y s => (R.of (g x y s)).bind fun z s => match z with
  | .bl true => (c env s).bind fun w s => R.of (g' y w s)
  | .bl false => .ok (.bl false) s
  | _ => .no
section
variable {X : Cx} {W : WX} {pos : Pos} {a b c e : Expr} {es : List Expr} {fa fb fc : ME D} {ga gb : ME Bool} {fs : ME (List D)}
theorem ce_v (i : Nat) {x : Str} (hN : X.N[i]? = some x := by rfl) (hv : Vis X.env.scope x := by first | exact Or.inl rfl | exact Or.inr (Or.inl rfl) | exact Or.inr (Or.inr rfl)) (hd : (x == ("__debug__" : Str)) = false := by decide)
    (hcd : (x == ("__classdict__" : Str)) = false := by decide) : PE X (.Name x pos) (Te X.K X.mg W (eV i)) := by
  refine PE.imp (pe_var (i := i) hN hv hd hcd) fun σ H Q h => ?_
  obtain ⟨m, env, s, r, E, g⟩ := h
  unfold eV at g
  cases q : env[i]? with
  | none => rw [q] at g; exact g.elim
  | some o =>
    cases o with
    | none => rw [q] at g; exact g.elim
    | some d =>
      rw [q] at g
      obtain ⟨v, h1, h2⟩ := E.2 i d q
      exact ⟨v, h1, g.now r h2⟩
theorem ce_c {d : D} {v : V} (h : PE X e (tC v)) (r : ∀ m H, Rep X.K m H d v) : PE X e (Te X.K X.mg W (eC d)) :=
  PE.imp h fun σ H Q ⟨m, env, s, rl, E, g⟩ => g.now rl (r m H)
theorem ce_int {i j} : PE X (.Constant (.int i) j pos) (Te X.K X.mg W (eC (.int i))) := ce_c pe_int fun _ _ => .int _
theorem ce_bl {i j} : PE X (.Constant (.bool i) j pos) (Te X.K X.mg W (eC (.bl i))) := ce_c pe_bl fun _ _ => .bl _
theorem ce_non {j} : PE X (.Constant .none j pos) (Te X.K X.mg W (eC .non)) := ce_c pe_non fun _ _ => .non
theorem ce_str {x j} : PE X (.Constant (.str x) j pos) (Te X.K X.mg W (eC (.str x))) := ce_c pe_str fun _ _ => .str _
theorem ce_glob {x : Str} {d : D} {v : V} {u : Value} (hg : Gl X x) (hm : X.mg x = some u) (r : RelV v u) (q : ∀ m H, Rep X.K m H d v) (hd : (x == ("__debug__" : Str)) = false := by decide) : PE X (.Name x pos) (Te X.K X.mg W (eC d)) := ce_c (pe_glob hg hm r hd) q
/-- an operation on values, with its mirror -/
def OpS (K : PySem.W.Frag) (r : R2) (g : D → D → Store → Option (D × Store)) : Prop :=
  ∀ {mg : Str → Option Value} {W : WX} {σ : L2.St} {m : List Addr} {H : Hp} {s : Store} {x y : V} {dx dy : D} {Q : VK}, Rel K m H s → Rep K m H dx x → Rep K m H dy y → G K mg (Rep K) W σ m H Q (R.of (g dx dy s)) → r x y H Q
theorem e2_run {r : R2} {g : D → D → Store → Option (D × Store)} (hs : OpS X.K r g) : ∀ σ H Q, Te X.K X.mg W (e2 g fa fb) σ H Q → tOp r (Te X.K X.mg W fa) (Te X.K X.mg W fb) σ H Q := fun σ H Q h =>
  Tm.bind (k := fun env x s => (fb env s).bind fun y s => R.of (g x y s)) h fun m1 H1 env x v s1 r1 E1 p1 g1 =>
    ⟨m1, env, s1, r1, E1, G.bind g1 fun m2 H2 y u s2 l2 r2 p2 g2 => hs r2 (p1.mono l2) p2 g2⟩
theorem ce_op {op : Operator} {r : R2} {g : D → D → Store → Option (D × Store)} (ho : OpR X (binaryOp op) r) (hs : OpS X.K r g) (ha : PE X a (Te X.K X.mg W fa)) (hb : PE X b (Te X.K X.mg W fb)) :
    PE X (.BinOp a op b pos) (Te X.K X.mg W (e2 g fa fb)) := PE.imp (pe_op ho ha hb) (e2_run hs)
theorem ce_cmp {op : CmpOp} {r : R2} {g : D → D → Store → Option (D × Store)} (ho : OpR X (compareOp op) r) (hs : OpS X.K r g) (ha : PE X a (Te X.K X.mg W fa)) (hb : PE X b (Te X.K X.mg W fb)) (hm : behindInMarks op b = false) :
    PE X (.Compare a [op] [b] pos) (Te X.K X.mg W (e2 g fa fb)) := PE.imp (pe_cmpR ho ha hb hm) (e2_run hs)
theorem ce_ix {r : R2} {g : D → D → Store → Option (D × Store)} (ho : IxR X r) (hs : OpS X.K r g) (ha : PE X a (Te X.K X.mg W fa)) (hb : PE X b (Te X.K X.mg W fb)) (hp : PlainIx b) :
    PE X (.Subscript a b pos) (Te X.K X.mg W (e2 g fa fb)) := PE.imp (pe_ix ho ha hb hp) (e2_run hs)
/-- a test of a value that is a bool -/
theorem tv_run {t : TE} (hp : ∀ σ H Q, Te X.K X.mg W fa σ H Q → t σ H Q) : ∀ σ H Q, Tt X.K X.mg W (tV fa) σ H Q → t σ H fun x H' => ∃ k, x = .bl k ∧ Q k H' := fun σ H Q h =>
  hp σ H _ (Tm.bind (k := fun _ x s => match x with | .bl b => R.ok b s | _ => R.no) h fun m1 H1 env x v s1 r1 E1 p1 g1 => by
    cases x with
    | bl k => cases p1; exact ⟨k, rfl, g1.nowB r1⟩
    | _ => exact g1.elim)
theorem ct_v (ha : PE X a (Te X.K X.mg W fa)) (he : ∀ whole, isTrue a X.env whole = (do let v ← whole; standAt a.pos; holding [v] (truthy v)) := by intro _; rfl) : PT X a (Tt X.K X.mg W (tV fa)) :=
  PT.imp (pt_val ha he) (tv_run fun _ _ _ h => h)
theorem ct_cmp {op : CmpOp} {r : R2} {g : D → D → Store → Option (D × Store)} (ho : OpR X (compareOp op) r) (hs : OpS X.K r g) (ha : PE X a (Te X.K X.mg W fa)) (hb : PE X b (Te X.K X.mg W fb)) (hm : behindInMarks op b = false) :
    PT X (.Compare a [op] [b] pos) (Tt X.K X.mg W (tV (e2 g fa fb))) := PT.imp (pt_cmpR ho ha hb hm) (tv_run (e2_run hs))
theorem chain_run {r r' : R2} {g g' : D → D → Store → Option (D × Store)} (hs : OpS X.K r g) (hs' : OpS X.K r' g') : ∀ σ H Q, Te X.K X.mg W (eChain g g' fa fb fc) σ H Q → tChain r r' (Te X.K X.mg W fa) (Te X.K X.mg W fb) (Te X.K X.mg W fc) σ H Q := fun σ H Q h =>
  Tm.bind (k := fun env x s => (fb env s).bind fun y s => (R.of (g x y s)).bind fun z s => match z with | .bl true => (fc env s).bind fun w s => R.of (g' y w s) | .bl false => R.ok (D.bl false) s | _ => R.no) h fun m1 H1 env x v s1 r1 E1 p1 g1 =>
    ⟨m1, env, s1, r1, E1, G.bind g1 fun m2 H2 y u s2 l2 r2 p2 g2 => hs r2 (p1.mono l2) p2 (G.bind g2 fun m3 H3 z w s3 l3 r3 p3 g3 => by
      cases z with
      | bl k =>
        cases p3
        refine ⟨k, rfl, ?_⟩
        cases k with
        | true => exact iteT ⟨m3, env, s3, r3, (E1.mono l2).mono l3, G.bind g3 fun m4 H4 z w s4 l4 r4 p4 g4 => hs' r4 ((p2.mono l3).mono l4) p4 g4⟩
        | false => exact iteF (g3.now r3 (.bl false))
      | _ => exact g3.elim)⟩
theorem ce_chain {op op' : CmpOp} {r r' : R2} {g g' : D → D → Store → Option (D × Store)} (ho : OpR X (compareOp op) r) (hs : OpS X.K r g) (ho' : OpR X (compareOp op') r') (hs' : OpS X.K r' g') (ha : PE X a (Te X.K X.mg W fa)) (hb : PE X b (Te X.K X.mg W fb)) (hc : PE X c (Te X.K X.mg W fc))
    (hm : lastMarks [op, op'] [b, c] = false := by with_unfolding_all rfl) : PE X (.Compare a [op, op'] [b, c] pos) (Te X.K X.mg W (eChain g g' fa fb fc)) := PE.imp (pe_chain ho ho' ha hb hc hm) (chain_run hs hs')
theorem ct_chain {op op' : CmpOp} {r r' : R2} {g g' : D → D → Store → Option (D × Store)} (ho : OpR X (compareOp op) r) (hs : OpS X.K r g) (ho' : OpR X (compareOp op') r') (hs' : OpS X.K r' g') (ha : PE X a (Te X.K X.mg W fa)) (hb : PE X b (Te X.K X.mg W fb)) (hc : PE X c (Te X.K X.mg W fc))
    (hm : lastMarks [op, op'] [b, c] = false := by with_unfolding_all rfl) : PT X (.Compare a [op, op'] [b, c] pos) (Tt X.K X.mg W (tV (eChain g g' fa fb fc))) := PT.imp (pt_chain ho ho' ha hb hc hm) (tv_run (chain_run hs hs'))
/-! #### tests -/
theorem cw_and1 (ha : PT X a (Tt X.K X.mg W ga)) : PW X (.BoolOp .And [a] pos) (Tt X.K X.mg W ga) := pw_and1 ha
theorem cw_or1 (ha : PT X a (Tt X.K X.mg W ga)) : PW X (.BoolOp .Or [a] pos) (Tt X.K X.mg W ga) := pw_or1 ha
theorem cw_and {rest : List Expr} (ha : PT X a (Tt X.K X.mg W ga)) (hb : PW X (.BoolOp .And (b :: rest) pos) (Tt X.K X.mg W gb)) : PW X (.BoolOp .And (a :: b :: rest) pos) (Tt X.K X.mg W (tAnd ga gb)) :=
  PW.imp (pw_and ha hb) fun σ H Q h => Tm.bind (k := fun env x s => if x then gb env s else R.ok false s) h fun m1 H1 env x v s1 r1 E1 p1 g1 => by
    cases (show x = v from p1)
    cases x with
    | true => exact iteT ⟨m1, env, s1, r1, E1, g1⟩
    | false => exact iteF (G.nowB g1 r1)
theorem cw_or {rest : List Expr} (ha : PT X a (Tt X.K X.mg W ga)) (hb : PW X (.BoolOp .Or (b :: rest) pos) (Tt X.K X.mg W gb)) : PW X (.BoolOp .Or (a :: b :: rest) pos) (Tt X.K X.mg W (tOr ga gb)) :=
  PW.imp (pw_or ha hb) fun σ H Q h => Tm.bind (k := fun env x s => if x then R.ok true s else gb env s) h fun m1 H1 env x v s1 r1 E1 p1 g1 => by
    cases (show x = v from p1)
    cases x with
    | true => exact iteT (G.nowB g1 r1)
    | false => exact iteF ⟨m1, env, s1, r1, E1, g1⟩
theorem ct_not (ha : PT X a (Tt X.K X.mg W ga)) : PT X (.UnaryOp .Not a pos) (Tt X.K X.mg W (tNot ga)) :=
  PT.imp (pt_not ha) fun σ H Q h => Tm.bind (k := fun env x s => R.ok (!x) s) h fun m1 H1 env x v s1 r1 E1 p1 g1 => by
    cases (show x = v from p1)
    exact G.nowB g1 r1
theorem ce_ifExp (hc : PT X c (Tt X.K X.mg W ga)) (ha : PE X a (Te X.K X.mg W fa)) (hb : PE X b (Te X.K X.mg W fb)) : PE X (.IfExp c a b pos) (Te X.K X.mg W (eIf ga fa fb)) :=
  PE.imp (pe_ifExp hc ha hb) fun σ H Q h => Tm.bind (k := fun env x s => if x then fa env s else fb env s) h fun m1 H1 env x v s1 r1 E1 p1 g1 => by
    cases (show x = v from p1)
    cases x with
    | true => exact iteT ⟨m1, env, s1, r1, E1, g1⟩
    | false => exact iteF ⟨m1, env, s1, r1, E1, g1⟩
theorem ce_one {op} {t : TE} (h : PE X a t) : PE X (.BoolOp op [a] pos) t := pe_one h
theorem ce_and {rest : List Expr} (ha : PE X a (Te X.K X.mg W fa)) (hb : PE X (.BoolOp .And (b :: rest) pos) (Te X.K X.mg W fb)) : PE X (.BoolOp .And (a :: b :: rest) pos) (Te X.K X.mg W (eAnd fa fb)) :=
  PE.imp (pe_and ha hb) fun σ H Q h => Tm.bind (k := fun env x s => match x with | .bl true => fb env s | .bl false => R.ok (D.bl false) s | _ => R.no) h fun m1 H1 env x v s1 r1 E1 p1 g1 => by
    cases x with
    | bl k =>
      cases p1
      refine ⟨k, rfl, ?_⟩
      cases k with
      | true => exact iteT ⟨m1, env, s1, r1, E1, g1⟩
      | false => exact iteF (g1.now r1 (.bl false))
    | _ => exact g1.elim
theorem ce_or {rest : List Expr} (ha : PE X a (Te X.K X.mg W fa)) (hb : PE X (.BoolOp .Or (b :: rest) pos) (Te X.K X.mg W fb)) : PE X (.BoolOp .Or (a :: b :: rest) pos) (Te X.K X.mg W (eOr fa fb)) :=
  PE.imp (pe_or ha hb) fun σ H Q h => Tm.bind (k := fun env x s => match x with | .bl true => R.ok (D.bl true) s | .bl false => fb env s | _ => R.no) h fun m1 H1 env x v s1 r1 E1 p1 g1 => by
    cases x with
    | bl k =>
      cases p1
      refine ⟨k, rfl, ?_⟩
      cases k with
      | true => exact iteT (g1.now r1 (.bl true))
      | false => exact iteF ⟨m1, env, s1, r1, E1, g1⟩
    | _ => exact g1.elim
theorem ce_not (ha : PE X a (Te X.K X.mg W fa)) : PE X (.UnaryOp .Not a pos) (Te X.K X.mg W (eNot fa)) :=
  PE.imp (pe_not ha) fun σ H Q h => Tm.bind (k := fun env x s => match x with | .bl c => R.ok (D.bl !c) s | _ => R.no) h fun m1 H1 env x v s1 r1 E1 p1 g1 => by
    cases x with
    | bl k => cases p1; exact ⟨k, rfl, g1.now r1 (.bl _)⟩
    | _ => exact g1.elim
/-! #### argument lists, displays -/
theorem ca_nil : PA X [] (Ta X.K X.mg W aNil) := PA.imp pa_nil fun σ H Q ⟨m, env, s, r, E, g⟩ => g m H [] .refl r .nil
theorem ca_cons (ha : PE X e (Te X.K X.mg W fa)) (hr : PA X es (Ta X.K X.mg W fs)) (hs : starEach (e :: es) X.env = (false, eval e X.env) :: starEach es X.env := by rfl) : PA X (e :: es) (Ta X.K X.mg W (aCons fa fs)) :=
  PA.imp (pa_cons ha hr hs) fun σ H Q h => Tm.bind (k := fun env x s => (fs env s).bind fun xs s => R.ok (x :: xs) s) h fun m1 H1 env x v s1 r1 E1 p1 g1 =>
    ⟨m1, env, s1, r1, E1, G.bind g1 fun m2 H2 xs vs s2 l2 r2 p2 g2 => g2 m2 H2 _ .refl r2 (.cons (p1.mono l2) p2)⟩
theorem ce_tup {k : Nat} (h : PA X es (Ta X.K X.mg W fs)) : PE X (.Tuple es k pos) (Te X.K X.mg W (eTup fs)) :=
  PE.imp (pe_tup h) fun σ H Q h => Tm.bind (k := fun env xs s => if xs.length ≤ sizeLine then R.ok (D.tup xs) s else R.no) h fun m1 H1 env xs vs s1 r1 E1 p1 g1 => by
    by_cases hz : xs.length ≤ sizeLine
    · simp only [hz, if_true] at g1
      exact ⟨by rw [← p1.length]; exact hz, fun p hp => g1 m1 _ _ (le_new hp) (r1.tmp hp) (rep_newtup hp p1)⟩
    · simp only [hz, if_false] at g1
      exact g1.elim
theorem newlist {xs : List D} {vs : List V} {m : List Addr} {H : Hp} {s : Store} {σ : L2.St} {Q : VK} {mg : Str → Option Value} (r : Rel X.K m H s) (p : Reps X.K m H xs vs) (g : G X.K mg (Rep X.K) W σ m H Q (.ok (.loc s.length) (s ++ [.lst xs]))) :
    ∀ q, H q = none → Q (.ref q) (upd H q (.lst vs)) := fun q hq => g (m ++ [q]) _ _ (le_more r hq) (rel_newlist r hq p) (.loc (len_get r))
theorem ce_lst (h : PA X es (Ta X.K X.mg W fs)) : PE X (.List es pos) (Te X.K X.mg W (eLst fs)) :=
  PE.imp (pe_lst h) fun σ H Q h => Tm.bind (k := fun env xs s => if xs.length ≤ sizeLine then R.ok (D.loc s.length) (s ++ [.lst xs]) else R.no) h fun m1 H1 env xs vs s1 r1 E1 p1 g1 => by
    by_cases hz : xs.length ≤ sizeLine
    · simp only [hz, if_true] at g1
      exact ⟨by rw [← p1.length]; exact hz, newlist r1 p1 g1⟩
    · simp only [hz, if_false] at g1
      exact g1.elim
/-! #### calls of builtins, by values -/
def FnS (K : PySem.W.Frag) (r : List V → Hp → VK → Prop) (g : List D → Store → Option (D × Store)) : Prop :=
  ∀ {mg : Str → Option Value} {W : WX} {σ : L2.St} {m : List Addr} {H : Hp} {s : Store} {xs : List V} {ds : List D} {Q : VK}, Rel K m H s → Reps K m H ds xs → G K mg (Rep K) W σ m H Q (R.of (g ds s)) → r xs H Q
theorem eFn_run {r : List V → Hp → VK → Prop} {g : List D → Store → Option (D × Store)} (hs : FnS X.K r g) : ∀ σ H Q, Te X.K X.mg W (eFn g fs) σ H Q → tCB r (Ta X.K X.mg W fs) σ H Q := fun σ H Q h =>
  Tm.bind (k := fun env xs s => R.of (g xs s)) h fun m1 H1 env x v s1 r1 E1 p1 g1 => hs r1 p1 g1
theorem ce_callB {x id : String} {p : Pos} {r : List V → Hp → VK → Prop} {g : List D → Store → Option (D × Store)} (hc : CallR X (.builtin id) r) (hs : FnS X.K r g) (hg : Gl X x) (hm : X.mg x = none) (hv : bootBuiltins x = some (.builtin id)) (ha : PA X (e :: es) (Ta X.K X.mg W fs))
    (hn : (x : Str) ≠ "__name__" := by decide) (hdb : ((x : Str) == ("__debug__" : Str)) = false := by decide)
    (he : starEach (e :: es) X.env = (false, eval e X.env) :: starEach es X.env := by rfl) (hpl : (backTo pos (starEach es X.env)).any (·.1) = false := by rfl) : PE X (.Call (.Name x p) (e :: es) [] pos) (Te X.K X.mg W (eFn g fs)) :=
  PE.imp (pe_callB hc hg hm hv ha hn hdb he hpl) (eFn_run hs)
theorem ce_callTy {x id : String} {p : Pos} {r : List V → Hp → VK → Prop} {g : List D → Store → Option (D × Store)} (hc : CallR X (.type id) r) (hs : FnS X.K r g) (hg : Gl X x) (hm : X.mg x = none) (hv : bootBuiltins x = some (.type id)) (ha : PA X (e :: es) (Ta X.K X.mg W fs))
    (hn : (x : Str) ≠ "__name__" := by decide) (hdb : ((x : Str) == ("__debug__" : Str)) = false := by decide)
    (he : starEach (e :: es) X.env = (false, eval e X.env) :: starEach es X.env := by rfl) (hpl : (backTo pos (starEach es X.env)).any (·.1) = false := by rfl) : PE X (.Call (.Name x p) (e :: es) [] pos) (Te X.K X.mg W (eFn g fs)) :=
  PE.imp (pe_callTy hc hg hm hv ha hn hdb he hpl) (eFn_run hs)
/-! #### one-place -/
def UnS (K : PySem.W.Frag) (r : V → Hp → VK → Prop) (g : D → Store → Option (D × Store)) : Prop :=
  ∀ {mg : Str → Option Value} {W : WX} {σ : L2.St} {m : List Addr} {H : Hp} {s : Store} {x : V} {d : D} {Q : VK}, Rel K m H s → Rep K m H d x → G K mg (Rep K) W σ m H Q (R.of (g d s)) → r x H Q
theorem ce_un {op : UnaryOp} {r : V → Hp → VK → Prop} {g : D → Store → Option (D × Store)} (ho : UnR X (unaryOp op) r) (hs : UnS X.K r g) (ha : PE X a (Te X.K X.mg W fa)) : PE X (.UnaryOp op a pos) (Te X.K X.mg W (e1 g fa)) :=
  PE.imp (pe_un ho ha) fun σ H Q h => Tm.bind (k := fun env x s => R.of (g x s)) h fun m1 H1 env x v s1 r1 E1 p1 g1 => hs r1 p1 g1
/-! #### a def's promise: its mirror's value -/
def spM (K : PySem.W.Frag) (mg : Str → Option Value) (n : Nat) (g : List D → Store → R D) : Sp := fun vs H Q E => vs.length = n ∧
  ∃ m s ds, Rel K m H s ∧ Reps K m H ds vs ∧ G K mg (Rep K) (fun c d _ H => E c d H) [] m H Q (g ds s)
theorem ce_call {k n : Nat} {f : Addr} {fd : FuncData} {ps : List Str} {x : Str} {p : Pos} {g : List D → Store → R D} (F : FnOk X.prog X.w X.K X.mg X.base (L2.CX X.prog X.w) k f fd ps (spM X.K X.mg n g)) (hr : Room k X.A) (tk : Takes X W) (hg : Gl X x) (hm : X.mg x = some (.ref f)) (hk : PySem.W.keepIn X.K (.ref f) = true) (hb : Binds X.K fd ps [])
    (hn : ∀ xs s env, ∀ s', fs env s = .ok xs s' → xs.length = n) (ha : PA X (e :: es) (Ta X.K X.mg W fs)) (hdb : (x == ("__debug__" : Str)) = false := by decide) (he : starEach (e :: es) X.env = (false, eval e X.env) :: starEach es X.env := by rfl) (hpl : (backTo pos (starEach es X.env)).any (·.1) = false := by rfl) :
    PE X (.Call (.Name x p) (e :: es) [] pos) (Te X.K X.mg W (eCall g fs)) :=
  PE.imp (pe_callS (E := WE W) F hr hg hm hk hb (fun σ => passAt tk σ) ha hdb he hpl) fun σ H Q h => by
    obtain ⟨m, env, s, r, E, g0⟩ := h
    refine ⟨m, env, s, r, E, ?_⟩
    unfold eCall at g0
    cases hf : fs env s with
    | ok xs s1 =>
      rw [hf] at g0
      intro m1 H1 vs l1 r1 p1
      refine ⟨by rw [← p1.length]; exact hn xs s env s1 hf, m1, s1, xs, r1, p1, ?_⟩
      have g1 : G X.K X.mg (Rep X.K) W σ m H Q (g xs s1) := g0
      have g2 := g1.mono l1
      cases hgx : g xs s1 with
      | ok a s2 => rw [hgx] at g2; exact g2
      | ex x2 s2 => rw [hgx] at g2; exact g2
      | no => rw [hgx] at g2; exact g2
    | ex x s1 => rw [hf] at g0; exact g0
    | no => rw [hf] at g0; exact g0.elim
end
end Mi
namespace Mi
open PySem PySem.Spec PyProof.Rows L2
/-! ### operations on values: mirrors and their rules -/
section
variable {K : PySem.W.Frag}
theorem OpS.or {r r' : R2} {g : D → D → Store → Option (D × Store)} (h : ∀ {mg : Str → Option Value} {W : WX} {σ : L2.St} {m : List Addr} {H : Hp} {s : Store} {x y : V} {dx dy : D} {Q : VK}, Rel K m H s → Rep K m H dx x → Rep K m H dy y → G K mg (Rep K) W σ m H Q (R.of (g dx dy s)) → r x y H Q ∨ r' x y H Q) : OpS K (fun x y H Q => r x y H Q ∨ r' x y H Q) g := h
/-- two ints -/
def dI (f : Int → Int → Option D) : D → D → Store → Option (D × Store)
  | .int i, .int j, s => (f i j).map fun d => (d, s)
  | _, _, _ => none
theorem ops_dI {C : Int → Int → Prop} {gv : Int → Int → V} {f : Int → Int → Option D} (h : ∀ i j d, f i j = some d → C i j ∧ ∀ m H, Rep K m H d (gv i j)) : OpS K (rI C gv) (dI f) := by
  intro mg W σ m H s x y dx dy Q r px py g
  cases dx with
  | int i =>
    cases dy with
    | int j =>
      cases px; cases py
      cases e : f i j with
      | none => rw [show R.of (dI f (.int i) (.int j) s) = R.no by simp [dI, e]] at g; exact g.elim
      | some d =>
        rw [show R.of (dI f (.int i) (.int j) s) = .ok d s by simp [dI, e]] at g
        obtain ⟨h1, h2⟩ := h i j d e
        exact ⟨i, j, rfl, rfl, h1, g.now r (h2 m H)⟩
    | _ => exact g.elim
  | _ => exact g.elim
theorem ops_dI0 {gv : Int → Int → V} {f : Int → Int → D} (h : ∀ i j m H, Rep K m H (f i j) (gv i j)) : OpS K (rI0 gv) (dI fun i j => some (f i j)) := by
  intro mg W σ m H s x y dx dy Q r px py g
  obtain ⟨i, j, e1, e2, _, q⟩ := ops_dI (K := K) (C := fun _ _ => True) (gv := gv) (fun i j d e => ⟨trivial, by cases e; exact h i j⟩) r px py g
  exact ⟨i, j, e1, e2, q⟩
def dAdd : D → D → Store → Option (D × Store)
  | .int i, .int j, s => some (.int (i + j), s)
  | .str x, .str y, s => if x.length + y.length ≤ sizeLine then some (.str (x ++ y), s) else none
  | .tup xs, .tup ys, s => if xs.length + ys.length ≤ sizeLine then some (.tup (xs ++ ys), s) else none
  | .loc l, .loc k, s => match s[l]?, s[k]? with
    | some (.lst xs), some (.lst ys) => if xs.length + ys.length ≤ sizeLine then some (.loc s.length, s ++ [.lst (xs ++ ys)]) else none
    | _, _ => none
  | _, _, _ => none
def rAddA (K : PySem.W.Frag) : R2 := fun x y H Q => rI0 (fun i j => .int (i + j)) x y H Q ∨ (∃ i j, x = .str i ∧ y = .str j ∧ i.length + j.length ≤ sizeLine ∧ Q (.str (i ++ j)) H) ∨ rCatA K x y H Q ∨ rCat x y H Q
theorem op_addA {X : Cx} : OpR X (binaryOp .Add) (rAddA X.K) := op_add.or (op_add_str.or (op_catA.or op_cat))
theorem ops_add : OpS K (rAddA K) dAdd := by
  intro mg W σ m H s x y dx dy Q r px py g
  cases dx with
  | int i =>
    cases dy with
    | int j => cases px; cases py; exact .inl ⟨i, j, rfl, rfl, g.now r (.int _)⟩
    | _ => exact g.elim
  | str i =>
    cases dy with
    | str j =>
      cases px; cases py
      by_cases hz : i.length + j.length ≤ sizeLine
      · rw [show dAdd (.str i) (.str j) s = some (.str (i ++ j), s) by simp [dAdd, hz]] at g
        exact .inr (.inl ⟨i, j, rfl, rfl, hz, g.now r (.str _)⟩)
      · rw [show dAdd (.str i) (.str j) s = none by simp [dAdd, hz]] at g; exact g.elim
    | _ => exact g.elim
  | tup xs =>
    cases dy with
    | tup ys =>
      cases px with
      | tup h1 r1 =>
        cases py with
        | tup h2 r2 =>
          by_cases hz : xs.length + ys.length ≤ sizeLine
          · rw [show dAdd (.tup xs) (.tup ys) s = some (.tup (xs ++ ys), s) by simp [dAdd, hz]] at g
            refine .inr (.inr (.inl ⟨_, _, _, _, rfl, rfl, h1, h2, by rw [← r1.length, ← r2.length]; exact hz, fun e => ?_, fun _ e => ?_, fun _ _ p hp => ?_⟩))
            · subst e; cases r1; exact g.now r (.tup h2 r2)
            · subst e; cases r2; rw [List.append_nil] at g; exact g.now r (.tup h1 r1)
            · exact g m _ _ (le_new hp) (r.tmp hp) (rep_newtup hp (r1.append r2))
          · rw [show dAdd (.tup xs) (.tup ys) s = none by simp [dAdd, hz]] at g; exact g.elim
    | _ => exact g.elim
  | loc l =>
    cases dy with
    | loc k =>
      cases px with
      | loc h1 =>
        cases py with
        | loc h2 =>
          cases e1 : s[l]? with
          | none => rw [show dAdd (.loc l) (.loc k) s = none by simp [dAdd, e1]] at g; exact g.elim
          | some c1 =>
            cases c1 with
            | dic _ => rw [show dAdd (.loc l) (.loc k) s = none by simp [dAdd, e1]] at g; exact g.elim
            | lst xs =>
              cases e2 : s[k]? with
              | none => rw [show dAdd (.loc l) (.loc k) s = none by simp [dAdd, e1, e2]] at g; exact g.elim
              | some c2 =>
                cases c2 with
                | dic _ => rw [show dAdd (.loc l) (.loc k) s = none by simp [dAdd, e1, e2]] at g; exact g.elim
                | lst ys =>
                  by_cases hz : xs.length + ys.length ≤ sizeLine
                  · rw [show dAdd (.loc l) (.loc k) s = some (.loc s.length, s ++ [.lst (xs ++ ys)]) by simp [dAdd, e1, e2, hz]] at g
                    obtain ⟨vs, q1, p1⟩ := r.list h1 e1
                    obtain ⟨ws, q2, p2⟩ := r.list h2 e2
                    refine .inr (.inr (.inr ⟨_, _, vs, ws, rfl, rfl, q1, q2, by rw [← p1.length, ← p2.length]; exact hz, fun p hp => ?_⟩))
                    exact g (m ++ [p]) _ _ (le_more r hp) (rel_newlist r hp (p1.append p2)) (.loc (len_get r))
                  · rw [show dAdd (.loc l) (.loc k) s = none by simp [dAdd, e1, e2, hz]] at g; exact g.elim
    | _ => exact g.elim
  | _ => exact g.elim
def dSub := dI fun i j => some (.int (i - j))
theorem ops_sub : OpS K (rI0 fun i j => .int (i - j)) dSub := ops_dI0 fun _ _ _ _ => .int _
noncomputable instance (i j : Int) : Decidable (CMul i j) := Classical.propDecidable _
noncomputable instance (i j : Int) : Decidable (CDiv i j) := Classical.propDecidable _
noncomputable instance (i j : Int) : Decidable (CDivN i j) := Classical.propDecidable _
noncomputable instance (i j : Int) : Decidable (CPow i j) := Classical.propDecidable _
noncomputable def dMul := dI fun i j => if CMul i j then some (.int (i * j)) else none
theorem ops_mul : OpS K (rI CMul fun i j => .int (i * j)) dMul := ops_dI fun i j d h => by
  split at h
  · cases h; exact ⟨by assumption, fun _ _ => .int _⟩
  · cases h
noncomputable def dDiv := dI fun i j => if CDiv i j then some (.int (i / j)) else none
theorem ops_div : OpS K (rI CDiv fun i j => .int (i / j)) dDiv := ops_dI fun i j d h => by
  split at h
  · cases h; exact ⟨by assumption, fun _ _ => .int _⟩
  · cases h
noncomputable def dMod := dI fun i j => if 0 < j then some (.int (i % j)) else none
theorem ops_mod : OpS K (rI (fun _ j => 0 < j) fun i j => .int (i % j)) dMod := ops_dI fun i j d h => by
  split at h
  · cases h; exact ⟨by assumption, fun _ _ => .int _⟩
  · cases h
noncomputable def dPow := dI fun i j => if CPow i j then some (.int (i ^ j.toNat)) else none
theorem ops_pow : OpS K (rI CPow fun i j => .int (i ^ j.toNat)) dPow := ops_dI fun i j d h => by
  split at h
  · cases h; exact ⟨by assumption, fun _ _ => .int _⟩
  · cases h
def dNeg : D → Store → Option (D × Store)
  | .int i, s => some (.int (-i), s)
  | _, _ => none
theorem uns_neg : UnS K (rU fun i => .int (-i)) dNeg := by
  intro mg W σ m H s x d Q r p g
  cases d with
  | int i => cases p; exact ⟨i, rfl, g.now r (.int _)⟩
  | _ => exact g.elim
/-! #### comparisons -/
def dLt : D → D → Store → Option (D × Store)
  | .int i, .int j, s => some (.bl (decide (i < j)), s)
  | .str x, .str y, s => some (.bl (decide (x.cps.toList < y.cps.toList)), s)
  | _, _, _ => none
def dLe : D → D → Store → Option (D × Store)
  | .int i, .int j, s => some (.bl (decide (i ≤ j)), s)
  | .str x, .str y, s => some (.bl (!decide (y.cps.toList < x.cps.toList)), s)
  | _, _, _ => none
def dGt : D → D → Store → Option (D × Store)
  | .int i, .int j, s => some (.bl (decide (j < i)), s)
  | .str x, .str y, s => some (.bl (decide (y.cps.toList < x.cps.toList)), s)
  | _, _, _ => none
def dGe : D → D → Store → Option (D × Store)
  | .int i, .int j, s => some (.bl (decide (j ≤ i)), s)
  | .str x, .str y, s => some (.bl (!decide (x.cps.toList < y.cps.toList)), s)
  | _, _, _ => none
def rCmpA (f : Int → Int → Bool) (k : Str → Str → Bool) : R2 := fun x y H Q => rI0 (fun i j => .bl (f i j)) x y H Q ∨ ∃ i j, x = .str i ∧ y = .str j ∧ Q (.bl (k i j)) H
theorem ops_cmp {f : Int → Int → Bool} {k : Str → Str → Bool} {g : D → D → Store → Option (D × Store)} (h1 : ∀ i j s, g (.int i) (.int j) s = some (.bl (f i j), s)) (h2 : ∀ i j s, g (.str i) (.str j) s = some (.bl (k i j), s))
    (h3 : ∀ x y s, (∀ i j, x = .int i → y = .int j → False) → (∀ i j, x = .str i → y = .str j → False) → g x y s = none) : OpS K (rCmpA f k) g := by
  intro mg W σ m H s x y dx dy Q r px py q
  by_cases ha : ∃ i j, dx = .int i ∧ dy = .int j
  · obtain ⟨i, j, rfl, rfl⟩ := ha
    cases px; cases py
    rw [h1] at q
    exact .inl ⟨i, j, rfl, rfl, q.now r (.bl _)⟩
  · by_cases hb : ∃ i j, dx = .str i ∧ dy = .str j
    · obtain ⟨i, j, rfl, rfl⟩ := hb
      cases px; cases py
      rw [h2] at q
      exact .inr ⟨i, j, rfl, rfl, q.now r (.bl _)⟩
    · rw [h3 dx dy s (fun i j e1 e2 => ha ⟨i, j, e1, e2⟩) (fun i j e1 e2 => hb ⟨i, j, e1, e2⟩)] at q
      exact q.elim
theorem ops_lt : OpS K (rCmpA (fun i j => decide (i < j)) fun x y => decide (x.cps.toList < y.cps.toList)) dLt :=
  ops_cmp (fun _ _ _ => rfl) (fun _ _ _ => rfl) fun x y s h1 h2 => by cases x <;> cases y <;> first | rfl | exact (h1 _ _ rfl rfl).elim | exact (h2 _ _ rfl rfl).elim
theorem ops_le : OpS K (rCmpA (fun i j => decide (i ≤ j)) fun x y => !decide (y.cps.toList < x.cps.toList)) dLe :=
  ops_cmp (fun _ _ _ => rfl) (fun _ _ _ => rfl) fun x y s h1 h2 => by cases x <;> cases y <;> first | rfl | exact (h1 _ _ rfl rfl).elim | exact (h2 _ _ rfl rfl).elim
theorem ops_gt : OpS K (rCmpA (fun i j => decide (j < i)) fun x y => decide (y.cps.toList < x.cps.toList)) dGt :=
  ops_cmp (fun _ _ _ => rfl) (fun _ _ _ => rfl) fun x y s h1 h2 => by cases x <;> cases y <;> first | rfl | exact (h1 _ _ rfl rfl).elim | exact (h2 _ _ rfl rfl).elim
theorem ops_ge : OpS K (rCmpA (fun i j => decide (j ≤ i)) fun x y => !decide (x.cps.toList < y.cps.toList)) dGe :=
  ops_cmp (fun _ _ _ => rfl) (fun _ _ _ => rfl) fun x y s h1 h2 => by cases x <;> cases y <;> first | rfl | exact (h1 _ _ rfl rfl).elim | exact (h2 _ _ rfl rfl).elim
theorem opA_lt {X : Cx} : OpR X (compareOp .Lt) (rCmpA (fun i j => decide (i < j)) fun x y => decide (x.cps.toList < y.cps.toList)) := op_lt.or op_lt_str
theorem opA_le {X : Cx} : OpR X (compareOp .LtE) (rCmpA (fun i j => decide (i ≤ j)) fun x y => !decide (y.cps.toList < x.cps.toList)) := op_le.or op_le_str
theorem opA_gt {X : Cx} : OpR X (compareOp .Gt) (rCmpA (fun i j => decide (j < i)) fun x y => decide (y.cps.toList < x.cps.toList)) := op_gt.or op_gt_str
theorem opA_ge {X : Cx} : OpR X (compareOp .GtE) (rCmpA (fun i j => decide (j ≤ i)) fun x y => !decide (x.cps.toList < y.cps.toList)) := op_ge.or op_ge_str
/-! #### == and != -/
mutual
/-- data without places -/
def py0 : D → Option PyData
  | .non => some .none
  | .bl b => some (.bool b)
  | .int i => some (.int i)
  | .str x => some (.str x)
  | .tup xs => (pys0 xs).map .tuple
  | .fl xs => (pys0 xs).map .list
  | .loc _ => none
  | .exv _ _ _ _ => none
def pys0 : List D → Option (List PyData)
  | [] => some []
  | x :: xs => (py0 x).bind fun a => (pys0 xs).map fun r => a :: r
end
/-- data, a list of the store at its head -/
def py1 (s : Store) : D → Option PyData
  | .loc l => match s[l]? with
    | some (.lst xs) => (pys0 xs).map .list
    | _ => none
  | d => py0 d
mutual
theorem py0_dp {m : List Addr} {H : Hp} : ∀ {d : D} {v : V} {p : PyData}, Rep K m H d v → py0 d = some p → Dp K H v p
  | .non, _, _, .non, e => by cases e; exact .non
  | .bl b, _, _, .bl _, e => by cases e; exact .bl b
  | .int b, _, _, .int _, e => by cases e; exact .int b
  | .str b, _, _, .str _, e => by cases e; exact .str b
  | .tup xs, _, _, .tup h r, e => by
    unfold py0 at e
    cases q : pys0 xs with
    | none => rw [q] at e; cases e
    | some ps => rw [q] at e; cases e; exact .tup h (pys0_dp r q)
  | .fl xs, _, _, .fl h r, e => by
    unfold py0 at e
    cases q : pys0 xs with
    | none => rw [q] at e; cases e
    | some ps => rw [q] at e; cases e; exact .lst h.sq (pys0_dp r q)
  | .loc _, _, _, _, e => by cases e
  | .exv _ _ _ _, _, _, _, e => by cases e
theorem pys0_dp {m : List Addr} {H : Hp} : ∀ {ds : List D} {vs : List V} {ps : List PyData}, Reps K m H ds vs → pys0 ds = some ps → DpAll K H vs ps
  | [], _, _, .nil, e => by cases e; exact .nil
  | x :: xs, _, _, .cons h r, e => by
    unfold pys0 at e
    cases q : py0 x with
    | none => rw [q] at e; cases e
    | some a =>
      cases q2 : pys0 xs with
      | none => rw [q, q2] at e; cases e
      | some b => rw [q, q2] at e; cases e; exact .cons (py0_dp h q) (pys0_dp r q2)
end
theorem py1_dp {m : List Addr} {H : Hp} {s : Store} (r : Rel K m H s) {d : D} {v : V} {p : PyData} (h : Rep K m H d v) (e : py1 s d = some p) : Dp K H v p := by
  cases d with
  | loc l =>
    cases h with
    | loc h =>
      unfold py1 at e
      cases q : s[l]? with
      | none => simp [q] at e
      | some c =>
        cases c with
        | dic _ => simp [q] at e
        | lst xs =>
          simp only [q] at e
          obtain ⟨vs, q1, p1⟩ := r.list h q
          cases q2 : pys0 xs with
          | none => rw [q2] at e; cases e
          | some ps => rw [q2] at e; cases e; exact .lst (.inl (.inl q1)) (pys0_dp p1 q2)
  | _ => exact py0_dp h e
/-- scalars that == tells apart without more -/
def dScal : D → D → Option Bool
  | .non, .non => some true
  | .non, .int _ => some false | .int _, .non => some false | .non, .bl _ => some false | .bl _, .non => some false | .non, .str _ => some false | .str _, .non => some false
  | .int i, .int j => some (decide (i = j)) | .bl i, .bl j => some (decide (i = j)) | .str i, .str j => some (decide (i = j))
  | .int _, .str _ => some false | .str _, .int _ => some false | .bl _, .str _ => some false | .str _, .bl _ => some false
  | _, _ => none
def dEqB (x y : D) (s : Store) : Option Bool := match dScal x y with
  | some b => some b
  | none => (py1 s x).bind fun a => (py1 s y).bind fun b => if SeqAt.shaped a && SeqAt.shaped b then some (PyData.eqv a b) else none
def dEq (x y : D) (s : Store) : Option (D × Store) := (dEqB x y s).map fun b => (.bl b, s)
def dNe (x y : D) (s : Store) : Option (D × Store) := (dEqB x y s).map fun b => (.bl !b, s)
def rEqA (K : PySem.W.Frag) : R2 := fun x y H Q => rEq x y H Q ∨ rEqD K x y H Q
def rNeA (K : PySem.W.Frag) : R2 := fun x y H Q => rNe x y H Q ∨ rNeD K x y H Q
theorem opA_eq {X : Cx} (hu : X.A.units + 64 < cLine) : OpR X (compareOp .Eq) (rEqA X.K) := op_eq.or (op_eqD hu)
theorem opA_ne {X : Cx} (hu : X.A.units + 64 < cLine) : OpR X (compareOp .NotEq) (rNeA X.K) := op_ne.or (op_neD hu)
theorem scal_of {m : List Addr} {H : Hp} {dx dy : D} {x y : V} {b : Bool} (px : Rep K m H dx x) (py : Rep K m H dy y) (e : dScal dx dy = some b) : scal x y = true ∧ decide (x = y) = b := by
  cases px <;> cases py <;> first | (cases e; done) | (cases e; exact ⟨rfl, by simp⟩)
theorem eqB_cases {m : List Addr} {H : Hp} {s : Store} (r : Rel K m H s) {dx dy : D} {x y : V} {b : Bool} (px : Rep K m H dx x) (py : Rep K m H dy y) (e : dEqB dx dy s = some b) :
    (scal x y = true ∧ decide (x = y) = b) ∨ ∃ d e', Dp K H x d ∧ Dp K H y e' ∧ SeqAt.shaped d = true ∧ SeqAt.shaped e' = true ∧ PyData.eqv d e' = b := by
  unfold dEqB at e
  cases q : dScal dx dy with
  | some c => rw [q] at e; cases e; exact .inl (scal_of px py q)
  | none =>
    rw [q] at e
    cases q1 : py1 s dx with
    | none => rw [q1] at e; cases e
    | some a =>
      cases q2 : py1 s dy with
      | none => rw [q1, q2] at e; cases e
      | some c =>
        rw [q1, q2] at e
        simp only [Option.bind_some] at e
        split at e
        · rename_i hs
          rw [Bool.and_eq_true] at hs
          cases e
          exact .inr ⟨a, c, py1_dp r px q1, py1_dp r py q2, hs.1, hs.2, rfl⟩
        · cases e
theorem ops_eq : OpS K (rEqA K) dEq := by
  intro mg W σ m H s x y dx dy Q r px py g
  unfold dEq at g
  cases e : dEqB dx dy s with
  | none => rw [e] at g; exact g.elim
  | some b =>
    rw [e] at g
    have q := g.now r (.bl b)
    rcases eqB_cases r px py e with ⟨h1, h2⟩ | ⟨d, e', h1, h2, h3, h4, h5⟩
    · exact .inl ⟨h1, by rw [h2]; exact q⟩
    · exact .inr ⟨d, e', h1, h2, h3, h4, by rw [h5]; exact q⟩
theorem ops_ne : OpS K (rNeA K) dNe := by
  intro mg W σ m H s x y dx dy Q r px py g
  unfold dNe at g
  cases e : dEqB dx dy s with
  | none => rw [e] at g; exact g.elim
  | some b =>
    rw [e] at g
    have q := g.now r (.bl (!b))
    rcases eqB_cases r px py e with ⟨h1, h2⟩ | ⟨d, e', h1, h2, h3, h4, h5⟩
    · exact .inl ⟨h1, by rw [h2]; exact q⟩
    · exact .inr ⟨d, e', h1, h2, h3, h4, by rw [h5]; exact q⟩
/-! #### is, is not: None, True, False -/
theorem is_bool_gen {M : Model} {A : Around} {E : Value → Shared → Prop} {s : Shared} {Q : Value → Shared → Prop} {v : Value} {b : Bool} (hn : ∀ i, v ≠ .builtin i) (h : Q (.bool (v == .bool b)) s) : wpAny M A (compareOp .Is v (.bool b)) Q E s := by
  cases v <;> first | exact wpAny_pure h | exact (hn _ rfl).elim
theorem isnot_bool_gen {M : Model} {A : Around} {E : Value → Shared → Prop} {s : Shared} {Q : Value → Shared → Prop} {v : Value} {b : Bool} (hn : ∀ i, v ≠ .builtin i) (h : Q (.bool (!(v == .bool b))) s) : wpAny M A (compareOp .IsNot v (.bool b)) Q E s := by
  cases v <;> first | exact wpAny_pure h | exact (hn _ rfl).elim
theorem relv_nb {x : V} {v : Value} (r : RelV x v) : ∀ i, v ≠ .builtin i := fun i e => by
  subst e
  cases x with
  | non => cases r
  | bl c => cases r
  | int i => obtain ⟨t, e⟩ := r; cases e
  | str i => obtain ⟨t, e⟩ := r; cases e
  | byt i => obtain ⟨t, e⟩ := r; cases e
  | flt i => obtain ⟨t, e⟩ := r; cases e
  | ref i => cases r
  | ty i => cases r
theorem relv_bool {x : V} {v : Value} {b : Bool} (r : RelV x v) : (v == .bool b) = decide (x = .bl b) := by
  cases x with
  | non => cases r; simp
  | bl c => cases r; cases c <;> cases b <;> rfl
  | int i => obtain ⟨t, rfl⟩ := r; simp
  | str i => obtain ⟨t, rfl⟩ := r; simp
  | byt i => obtain ⟨t, rfl⟩ := r; simp
  | flt i => obtain ⟨t, rfl⟩ := r; simp
  | ref i => cases r; simp
  | ty i => cases r; simp
theorem op_isB {X : Cx} : OpR X (compareOp .Is) (fun x y H Q => ∃ b, y = .bl b ∧ Q (.bl (decide (x = .bl b))) H) := by
  intro pins s σ H x y v u Q I rx ry h
  obtain ⟨b, rfl, q⟩ := h
  cases ry
  exact is_bool_gen (relv_nb rx) (fin_bl I q (relv_bool rx).symm)
theorem op_notB {X : Cx} : OpR X (compareOp .IsNot) (fun x y H Q => ∃ b, y = .bl b ∧ Q (.bl (!decide (x = .bl b))) H) := by
  intro pins s σ H x y v u Q I rx ry h
  obtain ⟨b, rfl, q⟩ := h
  cases ry
  exact isnot_bool_gen (relv_nb rx) (fin_bl I q (by rw [relv_bool rx]))
def dIsB : D → D → Option Bool
  | .non, .non => some true
  | _, .non => some false
  | .bl c, .bl b => some (decide (c = b))
  | _, .bl _ => some false
  | _, _ => none
def dIs (x y : D) (s : Store) : Option (D × Store) := (dIsB x y).map fun b => (.bl b, s)
def dIsNot (x y : D) (s : Store) : Option (D × Store) := (dIsB x y).map fun b => (.bl !b, s)
def rIsA : R2 := fun x y H Q => (y = .non ∧ Q (.bl (decide (x = .non))) H) ∨ ∃ b, y = .bl b ∧ Q (.bl (decide (x = .bl b))) H
def rNotA : R2 := fun x y H Q => (y = .non ∧ Q (.bl (!decide (x = .non))) H) ∨ ∃ b, y = .bl b ∧ Q (.bl (!decide (x = .bl b))) H
theorem opA_is {X : Cx} : OpR X (compareOp .Is) rIsA := op_isN.or op_isB
theorem opA_isnot {X : Cx} : OpR X (compareOp .IsNot) rNotA := op_notN.or op_notB
theorem isB_cases {m : List Addr} {H : Hp} {dx dy : D} {x y : V} {b : Bool} (px : Rep K m H dx x) (py : Rep K m H dy y) (e : dIsB dx dy = some b) : (y = .non ∧ decide (x = .non) = b) ∨ ∃ c, y = .bl c ∧ decide (x = .bl c) = b := by
  cases py with
  | non => refine .inl ⟨rfl, ?_⟩; cases px <;> (cases e; simp)
  | bl c => refine .inr ⟨c, rfl, ?_⟩; cases px <;> (cases e; simp)
  | _ => cases px <;> cases e
theorem ops_is : OpS K rIsA dIs := by
  intro mg W σ m H s x y dx dy Q r px py g
  unfold dIs at g
  cases e : dIsB dx dy with
  | none => rw [e] at g; exact g.elim
  | some b =>
    rw [e] at g
    have q := g.now r (.bl b)
    rcases isB_cases px py e with ⟨rfl, h⟩ | ⟨c, rfl, h⟩
    · exact .inl ⟨rfl, by rw [h]; exact q⟩
    · exact .inr ⟨c, rfl, by rw [h]; exact q⟩
theorem ops_isnot : OpS K rNotA dIsNot := by
  intro mg W σ m H s x y dx dy Q r px py g
  unfold dIsNot at g
  cases e : dIsB dx dy with
  | none => rw [e] at g; exact g.elim
  | some b =>
    rw [e] at g
    have q := g.now r (.bl (!b))
    rcases isB_cases px py e with ⟨rfl, h⟩ | ⟨c, rfl, h⟩
    · exact .inl ⟨rfl, by rw [h]; exact q⟩
    · exact .inr ⟨c, rfl, by rw [h]; exact q⟩
end
end Mi
namespace Mi
open PySem PySem.Spec PyProof.Rows L2
section
variable {K : PySem.W.Frag} {m : List Addr} {H : Hp} {s : Store}
theorem Rep.sqT {xs : List D} {v : V} (h : Rep K m H (.tup xs) v) : ∃ a vs, v = .ref a ∧ SqT K H a vs ∧ Reps K m H xs vs := by
  cases h with
  | tup h r => exact ⟨_, _, rfl, h, r⟩
/-- the items of a list: of the store, or never written -/
def lstOf (s : Store) : D → Option (List D)
  | .loc l => match s[l]? with
    | some (.lst xs) => some xs
    | _ => none
  | .fl xs => some xs
  | _ => none
theorem lstOf_sq (r : Rel K m H s) {d : D} {v : V} {xs : List D} (p : Rep K m H d v) (e : lstOf s d = some xs) : ∃ a vs, v = .ref a ∧ SqL K H a vs ∧ Reps K m H xs vs := by
  cases d with
  | loc l =>
    cases p with
    | loc h =>
      unfold lstOf at e
      cases q : s[l]? with
      | none => simp [q] at e
      | some c =>
        cases c with
        | dic _ => simp [q] at e
        | lst ys =>
          simp only [q] at e
          cases e
          obtain ⟨vs, h1, h2⟩ := r.list h q
          exact ⟨_, vs, rfl, .inl (.inl h1), h2⟩
  | fl ys =>
    cases e
    cases p with
    | fl h q => exact ⟨_, _, rfl, h.sq, q⟩
  | _ => cases e
/-- list or tuple -/
def seqOf (s : Store) : D → Option (List D)
  | .tup xs => some xs
  | d => lstOf s d
theorem seqOf_sq (r : Rel K m H s) {d : D} {v : V} {xs : List D} (p : Rep K m H d v) (e : seqOf s d = some xs) : ∃ a vs, v = .ref a ∧ (SqL K H a vs ∨ SqT K H a vs) ∧ Reps K m H xs vs := by
  cases d with
  | tup ys =>
    cases e
    obtain ⟨a, vs, h1, h2, h3⟩ := p.sqT
    exact ⟨a, vs, h1, .inr h2, h3⟩
  | loc l => obtain ⟨a, vs, h1, h2, h3⟩ := lstOf_sq (d := .loc l) r p e; exact ⟨a, vs, h1, .inl h2, h3⟩
  | fl l => obtain ⟨a, vs, h1, h2, h3⟩ := lstOf_sq (d := .fl l) r p e; exact ⟨a, vs, h1, .inl h2, h3⟩
  | _ => cases e
/-! #### a[i] -/
def dIx (x i : D) (s : Store) : Option (D × Store) := match i with
  | .int i => match x with
    | .str z => if z.length ≤ sizeLine then (atI z.cps.toList i).map fun c => (.str ⟨#[c]⟩, s) else none
    | x => (seqOf s x).bind fun xs => (atI xs i).map fun d => (d, s)
  | _ => none
theorem Reps.atI {xs : List D} {vs : List V} {i : Int} {d : D} (r : Reps K m H xs vs) (e : L2.atI xs i = some d) : ∃ v, L2.atI vs i = some v ∧ Rep K m H d v := by
  unfold L2.atI at e ⊢
  rw [← r.length]
  cases q : ixN xs.length i with
  | none => rw [q] at e; cases e
  | some j =>
    rw [q] at e
    exact r.get e
theorem ops_ix : OpS K (rIx K) dIx := by
  intro mg W σ m H s x y dx dy Q r px py g
  cases dy with
  | int i =>
    cases py
    have seq : ∀ xs, seqOf s dx = some xs → (∀ d, L2.atI xs i = some d → G K mg (Rep K) W σ m H Q (.ok d s)) → (L2.atI xs i).isSome → rIx K x (.int i) H Q := by
      intro xs e q hs
      obtain ⟨d, hd⟩ := Option.isSome_iff_exists.mp hs
      obtain ⟨a, vs, rfl, hq, rr⟩ := seqOf_sq r px e
      obtain ⟨v, hv, rv⟩ := rr.atI hd
      have q2 := (q d hd).now r rv
      rcases hq with hq | hq
      · exact .inl ⟨a, vs, i, v, rfl, rfl, hq, hv, q2⟩
      · exact .inr (.inl ⟨a, vs, i, v, rfl, rfl, hq, hv, q2⟩)
    have gen : (∀ z, dx ≠ .str z) → rIx K x (.int i) H Q := by
      intro hn
      have e : dIx dx (.int i) s = (seqOf s dx).bind fun xs => (L2.atI xs i).map fun d => (d, s) := by
        cases dx <;> first | rfl | exact (hn _ rfl).elim
      rw [e] at g
      cases q : seqOf s dx with
      | none => rw [q] at g; exact g.elim
      | some xs =>
        rw [q] at g
        cases q2 : L2.atI xs i with
        | none => simp [q2] at g; exact g.elim
        | some d =>
          simp [q2] at g
          exact seq xs q (fun d' h => by rw [q2] at h; cases h; exact g) (by simp [q2])
    cases dx with
    | str z =>
      cases px
      by_cases hz : z.length ≤ sizeLine
      · cases q2 : L2.atI z.cps.toList i with
        | none => simp [dIx, hz, q2] at g; exact g.elim
        | some c =>
          simp [dIx, hz, q2] at g
          exact .inr (.inr ⟨z, i, c, rfl, rfl, hz, q2, g.now r (.str _)⟩)
      · simp [dIx, hz] at g; exact g.elim
    | _ => exact gen (fun z e => by cases e)
  | _ => exact g.elim
/-! #### slices -/
def cutD (xs : List D) (lo hi : Option Int) : List D := (xs.drop (HT.sIx xs.length 0 lo)).take (HT.sIx xs.length xs.length hi - HT.sIx xs.length 0 lo)
theorem Reps.cut {xs : List D} {vs : List V} (r : Reps K m H xs vs) (lo hi : Option Int) : Reps K m H (cutD xs lo hi) (cutV vs lo hi) := by
  unfold cutD cutV
  rw [← r.length]
  exact (r.drop _).take _
def dSl (x : D) (lo hi : Option Int) (s : Store) : Option (D × Store) := match x with
  | .tup xs => some (.tup (cutD xs lo hi), s)
  | x => (lstOf s x).map fun xs => (.loc s.length, s ++ [.lst (cutD xs lo hi)])
def SlS (K : PySem.W.Frag) (r : V → Option Int → Option Int → Hp → VK → Prop) (g : D → Option Int → Option Int → Store → Option (D × Store)) : Prop :=
  ∀ {mg : Str → Option Value} {W : WX} {σ : L2.St} {m : List Addr} {H : Hp} {s : Store} {x : V} {d : D} {lo hi : Option Int} {Q : VK}, Rel K m H s → Rep K m H d x → G K mg (Rep K) W σ m H Q (R.of (g d lo hi s)) → r x lo hi H Q
def rSlS : V → Option Int → Option Int → Hp → VK → Prop := fun x lo hi H Q => ∃ z : Str, x = .str z ∧ z.length ≤ sizeLine ∧ Q (.str (cutS z lo hi)) H
def rSlLT (K : PySem.W.Frag) : V → Option Int → Option Int → Hp → VK → Prop := fun x lo hi H Q => rSlL K x lo hi H Q ∨ rSlA K x lo hi H Q
theorem sl_LT {X : Cx} : SlR X (rSlLT X.K) := sl_list.or sl_tupA
theorem sls_LT : SlS K (rSlLT K) dSl := by
  intro mg W σ m H s x d lo hi Q r p g
  have lst : ∀ xs, lstOf s d = some xs → G K mg (Rep K) W σ m H Q (.ok (.loc s.length) (s ++ [.lst (cutD xs lo hi)])) → rSlLT K x lo hi H Q := by
    intro xs e q
    obtain ⟨a, vs, rfl, hq, rr⟩ := lstOf_sq r p e
    exact .inl ⟨a, vs, rfl, hq, fun q' hq' => q (m ++ [q']) _ _ (le_more r hq') (rel_newlist r hq' (rr.cut lo hi)) (.loc (len_get r))⟩
  have gen : (∀ ys, d ≠ .tup ys) → rSlLT K x lo hi H Q := by
    intro hn
    have e : dSl d lo hi s = (lstOf s d).map fun xs => (.loc s.length, s ++ [.lst (cutD xs lo hi)]) := by
      cases d <;> first | rfl | exact (hn _ rfl).elim
    rw [e] at g
    cases q : lstOf s d with
    | none => rw [q] at g; exact g.elim
    | some xs => rw [q] at g; exact lst xs q g
  cases d with
  | tup xs =>
    obtain ⟨a, vs, rfl, hq, rr⟩ := p.sqT
    have g' : G K mg (Rep K) W σ m H Q (.ok (.tup (cutD xs lo hi)) s) := g
    refine .inr ⟨a, vs, rfl, hq, fun w => ?_, fun _ q hn => g' m _ _ (le_new hn) (r.tmp hn) (rep_newtup hn (rr.cut lo hi))⟩
    have e : cutD xs lo hi = xs := by
      unfold cutD
      rw [rr.length, w.1, w.2, ← rr.length]
      simp
    rw [e] at g'
    exact g'.now r (.tup hq rr)
  | _ => exact gen (fun z e => by cases e)
def oNone : ME (Option Int) := fun _ s => .ok none s
def oSome (a : ME D) : ME (Option Int) := fun env s => (a env s).bind fun x s => match x with
  | .int i => .ok (some i) s
  | _ => .no
def ρO : List Addr → Hp → Option Int → Option Int → Prop := fun _ _ a b => a = b
abbrev To (K : PySem.W.Frag) (mg : Str → Option Value) (W : WX) (f : ME (Option Int)) : TO := Tm K mg ρO W f
def eSl (g : D → Option Int → Option Int → Store → Option (D × Store)) (a : ME D) (lo hi : ME (Option Int)) : ME D := fun env s => (a env s).bind fun x s => (lo env s).bind fun l s => (hi env s).bind fun u s => R.of (g x l u s)
end
section
variable {X : Cx} {W : WX} {pos p2 : Pos} {a b c e : Expr} {es : List Expr} {fa fb fc : ME D} {ga gb : ME Bool} {fs : ME (List D)} {ol oh : ME (Option Int)} {lo hi : Option Expr}
theorem co_none : PO X none (To X.K X.mg W oNone) := ⟨fun pins s σ H Q I ⟨m, env, st, r, E, g⟩ => po_none.run pins s σ H Q I (g m H none .refl r rfl)⟩
theorem co_some (h : PE X e (Te X.K X.mg W fa)) : PO X (some e) (To X.K X.mg W (oSome fa)) := ⟨fun pins s σ H Q I q =>
  (po_some h).run pins s σ H Q I (Tm.bind (k := fun _ x s => match x with | .int i => R.ok (some i) s | _ => R.no) q fun m1 H1 env x v s1 r1 E1 p1 g1 => by
    cases x with
    | int i => cases p1; exact ⟨i, rfl, g1 m1 H1 (some i) .refl r1 rfl⟩
    | _ => exact g1.elim)⟩
theorem ce_sl {r : V → Option Int → Option Int → Hp → VK → Prop} {g : D → Option Int → Option Int → Store → Option (D × Store)} (hr : SlR X r) (hs : SlS X.K r g) (ha : PE X a (Te X.K X.mg W fa)) (hl : PO X lo (To X.K X.mg W ol)) (hu : PO X hi (To X.K X.mg W oh)) :
    PE X (.Subscript a (.Slice lo hi none p2) pos) (Te X.K X.mg W (eSl g fa ol oh)) :=
  PE.imp (pe_slice hr ha hl hu) fun σ H Q h => Tm.bind (k := fun env x s => (ol env s).bind fun l s => (oh env s).bind fun u s => R.of (g x l u s)) h fun m1 H1 env x v s1 r1 E1 p1 g1 =>
    ⟨m1, env, s1, r1, E1, G.bind g1 fun m2 H2 l l' s2 l2 r2 p2 g2 => ⟨m2, env, s2, r2, E1.mono l2, G.bind g2 fun m3 H3 u u' s3 l3 r3 p3 g3 => by
      cases (show l = l' from p2); cases (show u = u' from p3)
      exact hs r3 ((p1.mono l2).mono l3) g3⟩⟩
end
/-! #### calls of builtins -/
section
variable {K : PySem.W.Frag}
def dLen : List D → Store → Option (D × Store)
  | [.str z], s => if z.length ≤ sizeLine then some (.int z.length, s) else none
  | [x], s => (seqOf s x).map fun xs => (.int xs.length, s)
  | _, _ => none
theorem fns_len : FnS K (fun xs H Q => ∃ x n, xs = [x] ∧ LenV K x H n ∧ Q (.int n) H) dLen := by
  intro mg W σ m H s xs ds Q r p g
  cases p with
  | nil => exact g.elim
  | @cons d v ds2 vs2 h p =>
    cases p with
    | cons h2 p2 => cases d <;> exact g.elim
    | nil =>
      have seq : ∀ xs, seqOf s d = some xs → G K mg (Rep K) W σ m H Q (.ok (.int xs.length) s) → ∃ x n, [v] = [x] ∧ LenV K x H n ∧ Q (.int n) H := by
        intro xs e q
        obtain ⟨a, vs, rfl, hq, rr⟩ := seqOf_sq r h e
        refine ⟨.ref a, xs.length, rfl, ?_, q.now r (.int _)⟩
        rcases hq with hq | hq
        · exact .inl ⟨vs, hq, rr.length⟩
        · exact .inr ⟨vs, hq, rr.length⟩
      have gen : (∀ z, d ≠ .str z) → ∃ x n, [v] = [x] ∧ LenV K x H n ∧ Q (.int n) H := by
        intro hn
        have e : dLen [d] s = (seqOf s d).map fun xs => (.int xs.length, s) := by cases d <;> first | rfl | exact (hn _ rfl).elim
        rw [e] at g
        cases q : seqOf s d with
        | none => rw [q] at g; exact g.elim
        | some xs => rw [q] at g; exact seq xs q g
      cases d with
      | str z =>
        cases h
        by_cases hz : z.length ≤ sizeLine
        · simp [dLen, hz] at g
          exact ⟨.str z, z.length, rfl, ⟨hz, rfl⟩, g.now r (.int _)⟩
        · simp [dLen, hz] at g; exact g.elim
      | _ => exact gen (fun z e => by cases e)
def dInt : List D → Store → Option (D × Store)
  | [.int i], s => some (.int i, s)
  | [.bl k], s => some (.int (if k then 1 else 0), s)
  | _, _ => none
theorem reps1 {m : List Addr} {H : Hp} {d : D} {xs : List V} (p : Reps K m H [d] xs) : ∃ v, xs = [v] ∧ Rep K m H d v := by
  cases p with
  | cons h p => cases p; exact ⟨_, rfl, h⟩
theorem reps2 {m : List Addr} {H : Hp} {d e : D} {xs : List V} (p : Reps K m H [d, e] xs) : ∃ v w, xs = [v, w] ∧ Rep K m H d v ∧ Rep K m H e w := by
  cases p with
  | cons h p =>
    obtain ⟨w, rfl, q⟩ := reps1 p
    exact ⟨_, w, rfl, h, q⟩
theorem fns_int : FnS K (fun xs H Q => (∃ i, xs = [.int i] ∧ Q (.int i) H) ∨ ∃ k, xs = [.bl k] ∧ Q (.int (if k then 1 else 0)) H) dInt := by
  intro mg W σ m H s xs ds Q r p g
  unfold dInt at g
  split at g
  · obtain ⟨v, rfl, h⟩ := reps1 p
    cases h
    exact .inl ⟨_, rfl, g.now r (.int _)⟩
  · obtain ⟨v, rfl, h⟩ := reps1 p
    cases h
    exact .inr ⟨_, rfl, g.now r (.int _)⟩
  · exact g.elim
def dAbs : List D → Store → Option (D × Store)
  | [.int i], s => some (.int (if i < 0 then -i else i), s)
  | _, _ => none
theorem fns_abs : FnS K (fun xs H Q => ∃ i, xs = [.int i] ∧ Q (.int (if i < 0 then -i else i)) H) dAbs := by
  intro mg W σ m H s xs ds Q r p g
  unfold dAbs at g
  split at g
  · obtain ⟨v, rfl, h⟩ := reps1 p
    cases h
    exact ⟨_, rfl, g.now r (.int _)⟩
  · exact g.elim
def dMax2 : List D → Store → Option (D × Store)
  | [.int i, .int j], s => some (.int (if j > i then j else i), s)
  | _, _ => none
theorem fns_max2 : FnS K (fun xs H Q => ∃ i j, xs = [.int i, .int j] ∧ Q (.int (if j > i then j else i)) H) dMax2 := by
  intro mg W σ m H s xs ds Q r p g
  unfold dMax2 at g
  split at g
  · obtain ⟨v, w, rfl, h, h2⟩ := reps2 p
    cases h; cases h2
    exact ⟨_, _, rfl, g.now r (.int _)⟩
  · exact g.elim
def dMin2 : List D → Store → Option (D × Store)
  | [.int i, .int j], s => some (.int (if j < i then j else i), s)
  | _, _ => none
theorem fns_min2 : FnS K (fun xs H Q => ∃ i j, xs = [.int i, .int j] ∧ Q (.int (if j < i then j else i)) H) dMin2 := by
  intro mg W σ m H s xs ds Q r p g
  unfold dMin2 at g
  split at g
  · obtain ⟨v, w, rfl, h, h2⟩ := reps2 p
    cases h; cases h2
    exact ⟨_, _, rfl, g.now r (.int _)⟩
  · exact g.elim
/-- all ints -/
def intsOf : List D → Option (List Int)
  | [] => some []
  | .int i :: r => (intsOf r).map fun x => i :: x
  | _ :: _ => none
theorem intsOf_map (ns : List Int) : intsOf (ns.map D.int) = some ns := by
  induction ns with
  | nil => rfl
  | cons n ns ih => simp [intsOf, ih]
theorem of_intsOf : ∀ {ds : List D} {ns : List Int}, intsOf ds = some ns → ds = ns.map D.int
  | [], _, e => by cases e; rfl
  | d :: ds, ns, e => by
    cases d with
    | int i =>
      unfold intsOf at e
      cases q : intsOf ds with
      | none => rw [q] at e; cases e
      | some x => rw [q] at e; cases e; rw [List.map_cons, of_intsOf q]
    | _ => cases e
def dSum : List D → Store → Option (D × Store)
  | [x], s => (lstOf s x).bind fun xs => (intsOf xs).map fun ns => (.int ns.sum, s)
  | _, _ => none
theorem fns_sum : FnS K (rSum K) dSum := by
  intro mg W σ m H s xs ds Q r p g
  unfold dSum at g
  split at g
  · obtain ⟨v, rfl, h⟩ := reps1 p
    rename_i x
    cases q : lstOf s x with
    | none => rw [q] at g; exact g.elim
    | some ys =>
      rw [q] at g
      cases q2 : intsOf ys with
      | none => simp [q2] at g; exact g.elim
      | some ns =>
        simp [q2] at g
        obtain ⟨a, vs, rfl, hq, rr⟩ := lstOf_sq r h q
        rw [of_intsOf q2] at rr
        have e := rr.ints
        subst e
        exact ⟨a, ns, rfl, hq, g.now r (.int _)⟩
  · exact g.elim
def dTuple : List D → Store → Option (D × Store)
  | [x], s => (seqOf s x).map fun xs => (.tup xs, s)
  | _, _ => none
theorem fns_tuple : FnS K (fun xs H Q => ∃ p ys, xs = [.ref p] ∧ ((SqL K H p ys ∧ ∀ l, H l = none → Q (.ref l) (upd H l (.tup ys))) ∨ (SqT K H p ys ∧ Q (.ref p) H))) dTuple := by
  intro mg W σ m H s xs ds Q r p g
  unfold dTuple at g
  split at g
  · obtain ⟨v, rfl, h⟩ := reps1 p
    rename_i x
    cases q : seqOf s x with
    | none => rw [q] at g; exact g.elim
    | some ys =>
      rw [q] at g
      have g' : G K mg (Rep K) W σ m H Q (.ok (.tup ys) s) := g
      obtain ⟨a, vs, rfl, hq, rr⟩ := seqOf_sq r h q
      refine ⟨a, vs, rfl, ?_⟩
      rcases hq with hq | hq
      · exact .inl ⟨hq, fun l hl => g' m _ _ (le_new hl) (r.tmp hl) (rep_newtup hl rr)⟩
      · exact .inr ⟨hq, g'.now r (.tup hq rr)⟩
  · exact g.elim
def dList : List D → Store → Option (D × Store)
  | [x], s => (seqOf s x).map fun xs => (.loc s.length, s ++ [.lst xs])
  | _, _ => none
theorem fns_list : FnS K (fun xs H Q => ∃ p ys, xs = [.ref p] ∧ (SqL K H p ys ∨ SqT K H p ys) ∧ ∀ l, H l = none → Q (.ref l) (upd H l (.lst ys))) dList := by
  intro mg W σ m H s xs ds Q r p g
  unfold dList at g
  split at g
  · obtain ⟨v, rfl, h⟩ := reps1 p
    rename_i x
    cases q : seqOf s x with
    | none => rw [q] at g; exact g.elim
    | some ys =>
      rw [q] at g
      have g' : G K mg (Rep K) W σ m H Q (.ok (.loc s.length) (s ++ [.lst ys])) := g
      obtain ⟨a, vs, rfl, hq, rr⟩ := seqOf_sq r h q
      exact ⟨a, vs, rfl, hq, fun l hl => g' (m ++ [l]) _ _ (le_more r hl) (rel_newlist r hl rr) (.loc (len_get r))⟩
  · exact g.elim
/-! #### isinstance(x, T), T a built-in type -/
def tyN (s : Store) : D → Option String
  | .non => some "NoneType"
  | .bl _ => some "bool"
  | .int _ => some "int"
  | .str _ => some "str"
  | .tup _ => some "tuple"
  | .fl _ => some "list"
  | .loc l => match s[l]? with
    | some (.lst _) => some "list"
    | some (.dic _) => some "dict"
    | none => none
  | .exv _ _ _ _ => none
theorem tyN_tyx {m : List Addr} {H : Hp} {s : Store} (r : Rel K m H s) {d : D} {v : V} {t : String} (p : Rep K m H d v) (e : tyN s d = some t) : TyX K H v (.type t) := by
  cases p with
  | non => cases e; exact .base .non
  | bl b => cases e; exact .base (.bl b)
  | int b => cases e; exact .base (.int b)
  | str b => cases e; exact .base (.str b)
  | tup h q =>
    cases e
    rcases h with (h | ⟨o, h⟩) | ⟨o, _, _, h1, h2, _⟩
    · exact .base (.tup h)
    · exact .fTuple h
    · exact .kTuple h1 h2
  | fl h q =>
    cases e
    rcases h with ⟨o, h⟩ | ⟨o, _, _, h1, h2, _⟩
    · exact .base (.frz h)
    · exact .kList h1 h2
  | @loc l a h =>
    unfold tyN at e
    cases q : s[l]? with
    | none => simp [q] at e
    | some c =>
      cases c with
      | lst xs => simp [q] at e; subst e; obtain ⟨vs, h1, _⟩ := r.list h q; exact .base (.lst h1)
      | dic xs => simp [q] at e; subst e; obtain ⟨vs, h1, _⟩ := r.at_ l a _ h q; exact .base (.dK h1)
  | exv h n r => cases e
def dIsi (T : String) (x : D) (s : Store) : Option (D × Store) := (tyN s x).bind fun t => (kitB t T).map fun b => (.bl b, s)
end
section
variable {X : Cx} {W : WX} {pos p p2 : Pos} {a b c e : Expr} {es : List Expr} {fa fb fc : ME D} {ga gb : ME Bool} {fs : ME (List D)}
theorem ce_isi {T : String} (hg : Gl X "isinstance") (hm : X.mg "isinstance" = none) (hgT : Gl X (T : Str)) (hmT : X.mg (T : Str) = none) (hvT : bootBuiltins (T : Str) = some (.type T)) (ha : PE X a (Te X.K X.mg W fa))
    (hnT : (T : Str) ≠ "__name__" := by decide) (hdT : ((T : Str) == ("__debug__" : Str)) = false := by decide)
    (hv : bootBuiltins "isinstance" = some (.builtin "isinstance") := by decide +kernel) (he : starEach [a, .Name T p2] X.env = (false, eval a X.env) :: starEach [.Name T p2] X.env := by rfl)
    (he2 : starEach [.Name T p2] X.env = (false, eval (.Name T p2) X.env) :: starEach [] X.env := by rfl)
    (hpl : (backTo pos (starEach [.Name T p2] X.env)).any (·.1) = false := by rfl) : PE X (.Call (.Name "isinstance" p) [a, .Name T p2] [] pos) (Te X.K X.mg W (e1 (dIsi T) fa)) :=
  PE.imp (pe_callB call_isi hg hm hv (pa_cons ha (pa_cons (pe_bltn (v := .ty T) hgT hmT hvT rfl hnT hdT) pa_nil he2) he) (by decide) (by decide) he hpl) fun σ H Q h =>
    Tm.bind (k := fun _ x s => R.of (dIsi T x s)) h fun m1 H1 env x v s1 r1 E1 p1 g1 => by
      unfold dIsi at g1
      cases q : tyN s1 x with
      | none => rw [q] at g1; exact g1.elim
      | some t =>
        rw [q] at g1
        cases q2 : kitB t T with
        | none => simp [q2] at g1; exact g1.elim
        | some k =>
          simp [q2] at g1
          exact ⟨v, .ty T, .type t, .type T, k, rfl, .ty T, tyN_tyx r1 p1 q, kit_ty q2, g1.now r1 (.bl _)⟩
/-! #### methods of builtin types -/
def tyOk (T : String) (s : Store) : D → Bool
  | .str _ => T == "str"
  | .int _ => T == "int"
  | .loc l => match s[l]? with
    | some (.lst _) => T == "list"
    | some (.dic _) => T == "dict"
    | none => false
  | .fl _ => T == "list"
  | _ => false
theorem tyOk_tyV {T : String} {m : List Addr} {H : Hp} {s : Store} {K : PySem.W.Frag} (r : Rel K m H s) {d : D} {v : V} (p : Rep K m H d v) (e : tyOk T s d = true) : tyV K T v H := by
  cases p with
  | str b => exact beq_iff_eq.mp e
  | int b => exact beq_iff_eq.mp e
  | fl h q => exact .inl ⟨beq_iff_eq.mp e, _, h.sq⟩
  | @loc l a h =>
    unfold tyOk at e
    cases q : s[l]? with
    | none => simp [q] at e
    | some c =>
      cases c with
      | lst xs => simp [q] at e; obtain ⟨vs, h1, _⟩ := r.list h q; exact .inl ⟨e, vs, .inl (.inl h1)⟩
      | dic xs => simp [q] at e; obtain ⟨vs, h1, _⟩ := r.at_ l a _ h q; exact .inr (.inr (.inl ⟨e, .inl ⟨vs, h1⟩⟩))
  | _ => cases e
def eMt (T : String) (g : D → List D → Store → Option (D × Store)) (a : ME D) (fs : ME (List D)) : ME D := fun env s => (a env s).bind fun x s => if tyOk T s x = true then (fs env s).bind fun xs s => R.of (g x xs s) else .no
def eMt0 (T : String) (g : D → List D → Store → Option (D × Store)) (a : ME D) : ME D := fun env s => (a env s).bind fun x s => if tyOk T s x = true then R.of (g x [] s) else .no
def MtS (K : PySem.W.Frag) (r : V → List V → Hp → VK → Prop) (g : D → List D → Store → Option (D × Store)) : Prop :=
  ∀ {mg : Str → Option Value} {W : WX} {σ : L2.St} {m : List Addr} {H : Hp} {s : Store} {x : V} {d : D} {xs : List V} {ds : List D} {Q : VK}, Rel K m H s → Rep K m H d x → Reps K m H ds xs → G K mg (Rep K) W σ m H Q (R.of (g d ds s)) → r x xs H Q
variable {o : Expr} {T id : String} {name : Str} {apos cpos : Pos} {r : V → List V → Hp → VK → Prop} {g : D → List D → Store → Option (D × Store)} {fo : ME D}
theorem ce_bm0 (pa : PlainAttrs T) (slot : Slot T name id) (hty : typeOf (.builtin id) = pure (.type "method_descriptor")) (hm : MtR X id r) (hs : MtS X.K r g) (ho : PE X o (Te X.K X.mg W fo))
    (hbase : attributeBase o name X.env (eval o X.env) = eval o X.env := by rfl) (hline : (apos.endLine == cpos.line) = true := by rfl) : PE X (.Call (.Attribute o name apos) [] [] cpos) (Te X.K X.mg W (eMt0 T g fo)) :=
  PE.imp (pe_bm0 pa slot hty hm ho hbase hline) fun σ H Q h => Tm.bind (k := fun env x s => if tyOk T s x = true then R.of (g x [] s) else R.no) h fun m1 H1 env x v s1 r1 E1 p1 g1 => by
    by_cases q : tyOk T s1 x = true
    · simp only [q, if_true] at g1
      exact ⟨tyOk_tyV r1 p1 q, hs r1 p1 .nil g1⟩
    · simp only [q, if_false] at g1
      exact g1.elim
theorem ce_bm (pa : PlainAttrs T) (slot : Slot T name id) (hty : typeOf (.builtin id) = pure (.type "method_descriptor")) (hm : MtR X id r) (hs : MtS X.K r g) (ho : PE X o (Te X.K X.mg W fo)) (ha : PA X (e :: es) (Ta X.K X.mg W fs))
    (hbase : attributeBase o name X.env (eval o X.env) = eval o X.env := by rfl)
    (hfew : ((backTo cpos (starEach (e :: es) X.env)).all (fun x => !x.1) && (backToKw cpos (keywordEach [] X.env)).all (fun x => x.1.isSome)
      && decide ((e :: es).length + ([] : List Keyword).length + (if ([] : List Keyword).isEmpty then 0 else 1) < 30)) = true := by rfl)
    (hline : (apos.endLine == cpos.line) = true := by rfl) (hst : starEach (e :: es) X.env = (false, eval e X.env) :: starEach es X.env := by rfl) (hplain : (backTo cpos (starEach es X.env)).any (·.1) = false := by rfl) :
    PE X (.Call (.Attribute o name apos) (e :: es) [] cpos) (Te X.K X.mg W (eMt T g fo fs)) :=
  PE.imp (pe_bm pa slot hty hm ho ha hbase hfew hline hst hplain) fun σ H Q h => Tm.bind (k := fun env x s => if tyOk T s x = true then (fs env s).bind fun xs s => R.of (g x xs s) else R.no) h fun m1 H1 env x v s1 r1 E1 p1 g1 => by
    by_cases q : tyOk T s1 x = true
    · simp only [q, if_true] at g1
      exact ⟨tyOk_tyV r1 p1 q, ⟨m1, env, s1, r1, E1, G.bind g1 fun m2 H2 xs vs s2 l2 r2 p2 g2 => hs r2 (p1.mono l2) p2 g2⟩⟩
    · simp only [q, if_false] at g1
      exact g1.elim
end
section
variable {K : PySem.W.Frag}
theorem le_setlist {m : List Addr} {H : Hp} {s : Store} (r : Rel K m H s) {l : Nat} {a : Addr} (h : m[l]? = some a) {vs : List V} {xs : List D} (p : Reps K m H xs vs) : Le K m H m (upd H a (.lst vs)) ∧ Rel K m (upd H a (.lst vs)) (s.set l (.lst xs)) :=
  have le := le_put (o := .lst vs) r (List.mem_of_getElem? h)
  ⟨le, r.put h ⟨vs, upd_same, p.mono le⟩⟩
def dAppend (x : D) (ys : List D) (s : Store) : Option (D × Store) := match x, ys with
  | .loc l, [y] => match s[l]? with
    | some (.lst xs) => if xs.length < sizeLine then some (.non, s.set l (.lst (xs ++ [y]))) else none
    | _ => none
  | _, _ => none
theorem mts_append : MtS K rAppend dAppend := by
  intro mg W σ m H s x d xs ds Q r p ps g
  unfold dAppend at g
  split at g
  · rename_i l y
    obtain ⟨w, rfl, h⟩ := reps1 ps
    cases p with
    | loc hl =>
      split at g
      · rename_i ys q
        split at g
        · rename_i hz
          obtain ⟨vs, h1, h2⟩ := r.list hl q
          obtain ⟨le, r2⟩ := le_setlist r hl (h2.append (.cons h .nil))
          exact ⟨_, vs, w, rfl, rfl, h1, by rw [← h2.length]; exact hz, g m _ _ le r2 .non⟩
        · exact g.elim
      · exact g.elim
  · exact g.elim
def dPop (x : D) (ys : List D) (s : Store) : Option (D × Store) := match x, ys with
  | .loc l, [] => match s[l]? with
    | some (.lst xs) => (xs[xs.length - 1]?).map fun y => (y, s.set l (.lst xs.dropLast))
    | _ => none
  | _, _ => none
theorem mts_pop : MtS K rPop dPop := by
  intro mg W σ m H s x d xs ds Q r p ps g
  unfold dPop at g
  split at g
  · rename_i l
    cases ps
    cases p with
    | loc hl =>
      split at g
      · rename_i ys q
        cases q2 : ys[ys.length - 1]? with
        | none => rw [q2] at g; exact g.elim
        | some y =>
          rw [q2] at g
          obtain ⟨vs, h1, h2⟩ := r.list hl q
          obtain ⟨v, hv, rv⟩ := h2.get q2
          obtain ⟨le, r2⟩ := le_setlist r hl h2.dropLast
          exact ⟨_, vs, v, rfl, rfl, h1, by rw [← h2.length]; exact hv, g m _ _ le r2 (rv.mono le)⟩
      · exact g.elim
  · exact g.elim
end
end Mi
namespace Mi
open PySem PySem.Spec PyProof.Rows L2
/-! ### targets -/
def gN (i : Nat) : D → Sl → Option Sl := fun d env => some (env.set i (some d))
def gsN : List D → Sl → Option Sl := fun xs env => match xs with
  | [] => some env
  | _ => none
def gsC (g : D → Sl → Option Sl) (r : List D → Sl → Option Sl) : List D → Sl → Option Sl := fun xs env => match xs with
  | x :: xs => (g x env).bind (r xs)
  | [] => none
def gT (n : Nat) (r : List D → Sl → Option Sl) : D → Sl → Option Sl := fun d env => match d with
  | .tup xs => if xs.length = n then r xs env else none
  | _ => none
def GTm (K : PySem.W.Frag) (vs : List Nat) (g : D → Sl → Option Sl) : TG := fun v σ H Q =>
  ∃ m env s d env', Rel K m H s ∧ RelE K m H env σ ∧ Rep K m H d v ∧ g d env = some env' ∧ ∀ σ', RelE K m H env' σ' → (∀ i, i ∉ vs → σ'[i]? = σ[i]?) → σ'.length = σ.length → Q σ' H
def GTs (K : PySem.W.Frag) (vs : List Nat) (g : List D → Sl → Option Sl) : TGs := fun xs σ H Q =>
  ∃ m env s ds env', Rel K m H s ∧ RelE K m H env σ ∧ Reps K m H ds xs ∧ g ds env = some env' ∧ ∀ σ', RelE K m H env' σ' → (∀ i, i ∉ vs → σ'[i]? = σ[i]?) → σ'.length = σ.length → Q σ' H
theorem relE_set {K : PySem.W.Frag} {m : List Addr} {H : Hp} {env : Sl} {σ : L2.St} (E : RelE K m H env σ) {d : D} {v : V} (p : Rep K m H d v) (i : Nat) : RelE K m H (env.set i (some d)) (σ.set i (some v)) := by
  refine ⟨by simp [E.1], fun j d' h => ?_⟩
  by_cases hj : i = j
  · subst hj
    by_cases hi : i < env.length
    · rw [List.getElem?_set_self hi] at h
      cases h
      exact ⟨v, by rw [List.getElem?_set_self (by rw [← E.1]; exact hi)], p⟩
    · rw [List.getElem?_eq_none (by simpa using hi)] at h; cases h
  · rw [List.getElem?_set_ne hj] at h
    rw [List.getElem?_set_ne hj]
    exact E.2 j d' h
section
variable {X : Cx} {pos : Pos}
theorem PG.imp {e : Expr} {t t' : TG} (h : PG X e t) (i : ∀ v σ H Q, t' v σ H Q → t v σ H Q) : PG X e t' := ⟨fun pins s σ H v u Q I r q => h.run pins s σ H v u Q I r (i v σ H Q q)⟩
theorem PGs.imp {e : List Expr} {t t' : TGs} (h : PGs X e t) (i : ∀ v σ H Q, t' v σ H Q → t v σ H Q) : PGs X e t' := ⟨fun pins s σ H v u Q I r q => h.run pins s σ H v u Q I r (i v σ H Q q)⟩
theorem cg_name {i : Nat} {x : Str} (hN : X.N.Nodup) (hi : X.N[i]? = some x) (hx : Loc X.env.scope x) (hf : X.fn x = true ∨ X.env.scope.names.lookup x = some .local := by first | exact .inl rfl | exact .inr rfl | assumption) : PG X (.Name x pos) (GTm X.K [i] (gN i)) :=
  PG.imp (pg_name hN hi hx hf) fun v σ H Q ⟨m, env, s, d, env', r, E, p, e, q⟩ => by
    cases e
    exact q _ (relE_set E p i) (fun j hj => List.getElem?_set_ne (by simpa [eq_comm] using hj)) (by simp)
theorem cgs_nil {vs : List Nat} : PGs X [] (GTs X.K vs gsN) := PGs.imp pgs_nil fun v σ H Q ⟨m, env, s, ds, env', r, E, p, e, q⟩ => by
  cases ds with
  | nil => cases e; cases p; exact ⟨rfl, q σ E (fun _ _ => rfl) rfl⟩
  | cons _ _ => cases e
theorem cgs_cons {e : Expr} {es : List Expr} {g : D → Sl → Option Sl} {r : List D → Sl → Option Sl} {vs ws us : List Nat} (h1 : PG X e (GTm X.K vs g)) (h2 : PGs X es (GTs X.K ws r)) (hv : ∀ i, i ∈ vs ∨ i ∈ ws → i ∈ us := by simp)
    (hs : (assignEach (e :: es) X.env).map (·.2) = assign e X.env :: (assignEach es X.env).map (·.2) := by rfl) : PGs X (e :: es) (GTs X.K us (gsC g r)) :=
  PGs.imp (pgs_cons h1 h2 hs) fun v σ H Q ⟨m, env, s, ds, env', rl, E, p, e, q⟩ => by
    cases ds with
    | nil => cases e
    | cons d ds =>
      cases p with
      | cons pd p =>
        have e : (g d env).bind (r ds) = some env' := e
        cases q1 : g d env with
        | none => rw [q1] at e; cases e
        | some env1 =>
          rw [q1] at e
          refine ⟨_, _, rfl, m, env, s, d, env1, rl, E, pd, q1, fun σ1 E1 k1 n1 => ⟨m, env1, s, ds, env', rl, E1, p, e, fun σ2 E2 k2 n2 => q σ2 E2 (fun i hi => ?_) (n2.trans n1)⟩⟩
          rw [k2 i (fun z => hi (hv i (.inr z))), k1 i (fun z => hi (hv i (.inl z)))]
theorem cg_tup {es : List Expr} {k n : Nat} {r : List D → Sl → Option Sl} {vs : List Nat} (hc : X.calm = true) (h : PGs X es (GTs X.K vs r)) (hn : (assignEach es X.env).length = n := by rfl) (hst : (assignEach es X.env).findIdx? (·.1) = none := by rfl) :
    PG X (.Tuple es k pos) (GTm X.K vs (gT n r)) := PG.imp (pg_tup (n := n) hc h hn hst) fun v σ H Q ⟨m, env, s, d, env', rl, E, p, e, q⟩ => by
  cases d with
  | tup xs =>
    obtain ⟨a, ws, rfl, hq, rr⟩ := p.sqT
    have e : (if xs.length = n then r xs env else none) = some env' := e
    split at e
    · rename_i hl
      exact ⟨a, ws, rfl, hq, by rw [← rr.length]; exact hl, m, env, s, xs, env', rl, E, rr, e, q⟩
    · cases e
  | _ => cases e
end
/-! ### statements -/
abbrev MS := Sl → Store → RS
section
variable (K : PySem.W.Frag) (mg : Str → Option Value)
def GS (W : WX) (Dn : Ends) (m : List Addr) (H : Hp) : RS → Prop
  | .nx env s => ∀ m' σ' H', Le K m H m' H' → Rel K m' H' s → RelE K m' H' env σ' → Dn.nx σ' H'
  | .rt d s => ∀ m' H' v, Le K m H m' H' → Rel K m' H' s → Rep K m' H' d v → Dn.rt v H'
  | .bk env s => ∀ m' σ' H', Le K m H m' H' → Rel K m' H' s → RelE K m' H' env σ' → Dn.bk σ' H'
  | .ct env s => ∀ m' σ' H', Le K m H m' H' → Rel K m' H' s → RelE K m' H' env σ' → Dn.ct σ' H'
  | .ex e env s => ∀ m' σ' H' c dd, Le K m H m' H' → Rel K m' H' s → RelE K m' H' env σ' → ExR K mg m' H' e c dd → W c dd σ' H'
  | .no => False
def Ts (W : WX) (f : MS) : TS := fun Dn σ H => ∃ m env s, Rel K m H s ∧ RelE K m H env σ ∧ GS K mg W Dn m H (f env s)
end
def RS.bind (r : RS) (k : Sl → Store → RS) : RS := match r with
  | .nx env s => k env s
  | r => r
/-- behind an expression -/
def R.then {α : Type} (r : R α) (env : Sl) (k : α → Store → RS) : RS := match r with
  | .ok a s => k a s
  | .ex e s => .ex e env s
  | .no => .no
@[simp] theorem RS.bind_nx (env : Sl) (s : Store) (k : Sl → Store → RS) : (RS.nx env s).bind k = k env s := rfl
@[simp] theorem RS.bind_rt (d : D) (s : Store) (k : Sl → Store → RS) : (RS.rt d s).bind k = .rt d s := rfl
@[simp] theorem RS.bind_bk (env : Sl) (s : Store) (k : Sl → Store → RS) : (RS.bk env s).bind k = .bk env s := rfl
@[simp] theorem RS.bind_ct (env : Sl) (s : Store) (k : Sl → Store → RS) : (RS.ct env s).bind k = .ct env s := rfl
@[simp] theorem RS.bind_ex (e : Ex) (env : Sl) (s : Store) (k : Sl → Store → RS) : (RS.ex e env s).bind k = .ex e env s := rfl
@[simp] theorem RS.bind_no (k : Sl → Store → RS) : (RS.no).bind k = .no := rfl
@[simp] theorem R.then_ok {α : Type} (a : α) (s : Store) (env : Sl) (k : α → Store → RS) : (R.ok a s).then env k = k a s := rfl
@[simp] theorem R.then_ex {α : Type} (e : Ex) (s : Store) (env : Sl) (k : α → Store → RS) : (R.ex e s : R α).then env k = .ex e env s := rfl
@[simp] theorem R.then_no {α : Type} (env : Sl) (k : α → Store → RS) : (R.no : R α).then env k = .no := rfl
def sNil : MS := fun env s => .nx env s
def sSeq (f g : MS) : MS := fun env s => (f env s).bind g
def sSet (i : Nat) (e : ME D) : MS := fun env s => (e env s).then env fun d s => .nx (env.set i (some d)) s
def sAsg (g : D → Sl → Option Sl) (e : ME D) : MS := fun env s => (e env s).then env fun d s => match g d env with
  | some env' => .nx env' s
  | none => .no
def sIf (c : ME Bool) (f g : MS) : MS := fun env s => (c env s).then env fun b s => if b then f env s else g env s
def sRet (e : ME D) : MS := fun env s => (e env s).then env fun d s => .rt d s
def sRetN : MS := fun _ s => .rt .non s
def sExpr (e : ME D) : MS := fun env s => (e env s).then env fun _ s => .nx env s
def sBrk : MS := fun env s => .bk env s
def sCnt : MS := fun env s => .ct env s
/-- o[i] = e: e, o, i in this sequence -/
def sPut (g : D → D → D → Store → Option Store) (o i e : ME D) : MS := fun env s => (e env s).then env fun d s => (o env s).then env fun x s => (i env s).then env fun y s => match g x y d s with
  | some s' => .nx env s'
  | none => .no
/-- name op= e -/
def sAug (i : Nat) (g : D → D → Store → Option (D × Store)) (e : ME D) : MS := fun env s => match env[i]? with
  | some (some x) => (e env s).then env fun y s => match g x y s with
    | some (z, s') => .nx (env.set i (some z)) s'
    | none => .no
  | _ => .no
structure Itm where
  xs : List D
  guard : Store → Prop
open Classical in
noncomputable def forL (guard : Store → Prop) (g : D → Sl → Option Sl) (b : MS) : List D → Sl → Store → RS
  | [], env, s => if guard s then .nx env s else .no
  | x :: xs, env, s => if guard s then (match g x env with
    | none => .no
    | some env1 => match b env1 s with
      | .nx env2 s2 => forL guard g b xs env2 s2
      | .ct env2 s2 => forL guard g b xs env2 s2
      | .bk env2 s2 => .nx env2 s2
      | .rt d s2 => .rt d s2
      | .ex e env2 s2 => .ex e env2 s2
      | .no => .no) else .no
noncomputable def sFor (it : ME Itm) (g : D → Sl → Option Sl) (b : MS) : MS := fun env s => (it env s).then env fun i s => forL i.guard g b i.xs env s
def whileN (c : ME Bool) (b : MS) : Nat → Sl → Store → RS
  | 0, _, _ => .no
  | n + 1, env, s => (c env s).then env fun k s => if k then (match b env s with
      | .nx env2 s2 => whileN c b n env2 s2
      | .ct env2 s2 => whileN c b n env2 s2
      | .bk env2 s2 => .nx env2 s2
      | .rt d s2 => .rt d s2
      | .ex e env2 s2 => .ex e env2 s2
      | .no => .no) else .nx env s
open Classical in
/-- a while: some number of turns is enough -/
noncomputable def sWhile (c : ME Bool) (b : MS) : MS := fun env s => if h : ∃ n, whileN c b n env s ≠ .no then whileN c b (Classical.choose h) env s else .no
section
variable {K : PySem.W.Frag} {mg : Str → Option Value} {m m1 : List Addr} {H H1 : Hp} {s : Store} {W : WX} {σ : L2.St} {Dn : Ends}
theorem GS.mono (e : Le K m H m1 H1) {r : RS} (h : GS K mg W Dn m H r) : GS K mg W Dn m1 H1 r := by
  cases r with
  | nx env s => exact fun m' σ' H' l => h m' σ' H' (e.trans l)
  | rt d s => exact fun m' σ' H' l => h m' σ' H' (e.trans l)
  | bk env s => exact fun m' σ' H' l => h m' σ' H' (e.trans l)
  | ct env s => exact fun m' σ' H' l => h m' σ' H' (e.trans l)
  | ex x env s => exact fun m' σ' H' c d l => h m' σ' H' c d (e.trans l)
  | no => exact h
/-- an expression first -/
theorem GS.ofE {α β : Type} {ρ : List Addr → Hp → α → β → Prop} {r : R α} {env : Sl} {k : α → Store → RS} {Q : β → Hp → Prop} (E : RelE K m H env σ) (h : GS K mg W Dn m H (r.then env k))
    (q : ∀ m1 H1 a b s1, Le K m H m1 H1 → Rel K m1 H1 s1 → ρ m1 H1 a b → GS K mg W Dn m1 H1 (k a s1) → Q b H1) : G K mg ρ W σ m H Q r := by
  cases r with
  | ok a s => exact fun m' H' b l r p => q m' H' a b s l r p (GS.mono l h)
  | ex x s => exact fun m' H' c d l r p => h m' σ H' c d l r (E.mono l) p
  | no => exact h
theorem Ts.ofE {α β : Type} {ρ : List Addr → Hp → α → β → Prop} {f : Sl → Store → R α} {k : Sl → α → Store → RS} {Q : β → Hp → Prop} (h : Ts K mg W (fun env s => (f env s).then env (k env)) Dn σ H)
    (q : ∀ m1 H1 env a b s1, Rel K m1 H1 s1 → RelE K m1 H1 env σ → ρ m1 H1 a b → GS K mg W Dn m1 H1 (k env a s1) → Q b H1) : Tm K mg ρ W f σ H Q := by
  obtain ⟨m, env, s, r, E, g⟩ := h
  exact ⟨m, env, s, r, E, GS.ofE E g fun m1 H1 a b s1 l r1 p g1 => q m1 H1 env a b s1 r1 (E.mono l) p g1⟩
end
section
variable {X : Cx} {W : WX} {pos : Pos} {e o i c tg iter : Expr} {st : Stmt} {rest body els : List Stmt} {fe fo fi : ME D} {gc : ME Bool} {f g : MS}
theorem css_nil : PSs X [] (Ts X.K X.mg W sNil) := PSs.imp pss_nil fun Dn σ H ⟨m, env, s, r, E, q⟩ => q m σ H .refl r E
theorem css_cons (h1 : PS X st (Ts X.K X.mg W f)) (h2 : PSs X rest (Ts X.K X.mg W g)) : PSs X (st :: rest) (Ts X.K X.mg W (sSeq f g)) :=
  PSs.imp (pss_cons h1 h2) fun Dn σ H ⟨m, env, s, r, E, q⟩ => by
    refine ⟨m, env, s, r, E, ?_⟩
    unfold sSeq at q
    cases hf : f env s with
    | nx env1 s1 => rw [hf] at q; exact fun m' σ' H' l r' E' => ⟨m', env1, s1, r', E', GS.mono l q⟩
    | rt d s1 => rw [hf] at q; exact q
    | bk env1 s1 => rw [hf] at q; exact q
    | ct env1 s1 => rw [hf] at q; exact q
    | ex x env1 s1 => rw [hf] at q; exact q
    | no => rw [hf] at q; exact q
theorem css_one (h1 : PS X st (Ts X.K X.mg W f)) : PSs X [st] (Ts X.K X.mg W f) := pss_one h1
theorem cs_pass : PS X (.Pass pos) (Ts X.K X.mg W sNil) := PS.imp ps_pass fun Dn σ H ⟨m, env, s, r, E, q⟩ => q m σ H .refl r E
theorem cs_doc {x j pos'} : PS X (.Expr (.Constant (.str x) j pos) pos') (Ts X.K X.mg W sNil) := PS.imp ps_doc fun Dn σ H ⟨m, env, s, r, E, q⟩ => q m σ H .refl r E
theorem cs_break : PS X (.Break pos) (Ts X.K X.mg W sBrk) := PS.imp ps_break fun Dn σ H ⟨m, env, s, r, E, q⟩ => q m σ H .refl r E
theorem cs_cont : PS X (.Continue pos) (Ts X.K X.mg W sCnt) := PS.imp ps_continue fun Dn σ H ⟨m, env, s, r, E, q⟩ => q m σ H .refl r E
theorem cs_set {j : Nat} {x : Str} {pos' : Pos} (hN : X.N.Nodup) (hi : X.N[j]? = some x) (hx : Loc X.env.scope x) (he : PE X e (Te X.K X.mg W fe)) (hs : swapsWith e (some (.Name x pos')) pos.line X.env = pure false := by rfl) (hf : X.fn x = true ∨ X.env.scope.names.lookup x = some .local := by first | exact .inl rfl | exact .inr rfl | assumption) :
    PS X (.Assign [.Name x pos'] e pos) (Ts X.K X.mg W (sSet j fe)) := PS.imp (ps_set (i := j) hN hi hx he hs hf) fun Dn σ H h =>
  Ts.ofE (k := fun env d s => .nx (env.set j (some d)) s) h fun m1 H1 env d v s1 r1 E1 p1 g1 => g1 m1 _ H1 .refl r1 (relE_set E1 p1 j)
theorem cs_asg {vs : List Nat} {g : D → Sl → Option Sl} (he : PE X e (Te X.K X.mg W fe)) (hg : PG X tg (GTm X.K vs g)) (hs : swapsWithSole [tg] e pos.line X.env = pure false := by rfl) (hw : swappedStores [tg] e X.env = pure none := by rfl)
    (h1 : (assignEach [tg] X.env).map (·.2) = [assign tg X.env] := by rfl) : PS X (.Assign [tg] e pos) (Ts X.K X.mg W (sAsg g fe)) := PS.imp (ps_asg he hg hs hw h1) fun Dn σ H h =>
  Ts.ofE (k := fun env d s => match g d env with | some env' => RS.nx env' s | none => RS.no) h fun m1 H1 env d v s1 r1 E1 p1 g1 => by
    cases q : g d env with
    | none => simp only [q] at g1; exact g1.elim
    | some env' =>
      simp only [q] at g1
      exact ⟨m1, env, s1, d, env', r1, E1, p1, q, fun σ' E' _ _ => g1 m1 σ' H1 .refl r1 E'⟩
theorem cs_expr (he : PE X e (Te X.K X.mg W fe)) (hs : swapsWith e none pos.line X.env = pure false := by rfl) : PS X (.Expr e pos) (Ts X.K X.mg W (sExpr fe)) := PS.imp (ps_expr he hs) fun Dn σ H h =>
  Ts.ofE (k := fun env _ s => RS.nx env s) h fun m1 H1 env d v s1 r1 E1 p1 g1 => g1 m1 σ H1 .refl r1 E1
theorem cs_ret (he : PE X e (Te X.K X.mg W fe)) : PS X (.Return (some e) pos) (Ts X.K X.mg W (sRet fe)) := PS.imp (ps_ret he) fun Dn σ H h =>
  Ts.ofE (k := fun _ d s => RS.rt d s) h fun m1 H1 env d v s1 r1 E1 p1 g1 => g1 m1 H1 v .refl r1 p1
theorem cs_retN : PS X (.Return none pos) (Ts X.K X.mg W sRetN) := PS.imp ps_retN fun Dn σ H ⟨m, env, s, r, E, q⟩ => q m H _ .refl r .non
theorem cs_if (hc : PT X c (Tt X.K X.mg W gc)) (ha : PSs X body (Ts X.K X.mg W f)) (hb : PSs X els (Ts X.K X.mg W g)) : PS X (.If c body els pos) (Ts X.K X.mg W (sIf gc f g)) := PS.imp (ps_if hc ha hb) fun Dn σ H h =>
  Ts.ofE (k := fun env (b : Bool) s => if b then f env s else g env s) h fun m1 H1 env d v s1 r1 E1 p1 g1 => by
    cases (show d = v from p1)
    cases d with
    | true => exact iteT ⟨m1, env, s1, r1, E1, g1⟩
    | false => exact iteF ⟨m1, env, s1, r1, E1, g1⟩
def PutS (K : PySem.W.Frag) (t : TSet) (g : D → D → D → Store → Option Store) : Prop :=
  ∀ {m : List Addr} {H : Hp} {s s' : Store} {x y z : V} {dx dy dz : D} {Q : Hp → Prop}, Rel K m H s → Rep K m H dx x → Rep K m H dy y → Rep K m H dz z → g dx dy dz s = some s' → (∀ H', Le K m H m H' → Rel K m H' s' → Q H') → t x y z H Q
theorem cs_put {t : TSet} {g : D → D → D → Store → Option Store} (he : PE X e (Te X.K X.mg W fe)) (ho : PE X o (Te X.K X.mg W fo)) (hi : PE X i (Te X.K X.mg W fi)) (hs : PSet X t) (hp : PutS X.K t g)
    (ha : ∀ v, assign (.Subscript o i pos) X.env v = (do
      let ov ← holding [v] (eval o X.env)
      let iv ← holding [v, ov] (eval i X.env)
      standAt pos
      holding [v, ov, iv] (setItem ov iv v)
      release [v, ov, iv] []) := by intro _; rfl) {pos' : Pos} (hs1 : swapsWithSole [.Subscript o i pos] e pos'.line X.env = pure false := by rfl) (hw : swappedStores [.Subscript o i pos] e X.env = pure none := by rfl)
    (h1 : (assignEach [.Subscript o i pos] X.env).map (·.2) = [assign (.Subscript o i pos) X.env] := by rfl) : PS X (.Assign [.Subscript o i pos] e pos') (Ts X.K X.mg W (sPut g fo fi fe)) :=
  PS.imp (ps_asg he (pg_sub ho hi hs ha) hs1 hw h1) fun Dn σ H h =>
    Ts.ofE (k := fun env d s => (fo env s).then env fun x s => (fi env s).then env fun y s => match g x y d s with | some s' => RS.nx env s' | none => RS.no) h fun m1 H1 env d v s1 r1 E1 p1 g1 =>
      ⟨m1, env, s1, r1, E1, GS.ofE E1 g1 fun m2 H2 x vx s2 l2 r2 p2 g2 => ⟨m2, env, s2, r2, E1.mono l2, GS.ofE (E1.mono l2) g2 fun m3 H3 y vy s3 l3 r3 p3 g3 => by
        cases q : g x y d s3 with
        | none => simp only [q] at g3; exact g3.elim
        | some s' =>
          simp only [q] at g3
          exact hp r3 (p2.mono l3) p3 ((p1.mono l2).mono l3) q fun H' l' r' => g3 m3 σ H' l' r' (((E1.mono l2).mono l3).mono l')⟩⟩
def IpS (K : PySem.W.Frag) (t : TIp) (g : D → D → Store → Option (D × Store)) : Prop := OpS K t g
theorem cs_aug {j : Nat} {x : Str} {op : Operator} {ti : TIp} {g : D → D → Store → Option (D × Store)} {pos' : Pos} (hN : X.N.Nodup) (hi : X.N[j]? = some x) (hx : Loc X.env.scope x) (he : PE X e (Te X.K X.mg W fe)) (ho : PIp X op ti) (hp : OpS X.K ti g) (hf : X.fn x = true ∨ X.env.scope.names.lookup x = some .local := by first | exact .inl rfl | exact .inr rfl | assumption) :
    PS X (.AugAssign (.Name x pos') op e pos) (Ts X.K X.mg W (sAug j g fe)) := PS.imp (ps_aug (i := j) hN hi hx he ho hf) fun Dn σ H ⟨m, env, s, r, E, q⟩ => by
  unfold sAug at q
  cases q1 : env[j]? with
  | none => simp only [q1] at q; exact q.elim
  | some o1 =>
    cases o1 with
    | none => simp only [q1] at q; exact q.elim
    | some d =>
      simp only [q1] at q
      obtain ⟨v, h1, h2⟩ := E.2 j d q1
      refine ⟨v, h1, m, env, s, r, E, GS.ofE E q fun m1 H1 y vy s1 l1 r1 p1 g1 => ?_⟩
      refine hp (mg := X.mg) (W := W) (σ := σ) r1 (h2.mono l1) p1 ?_
      cases q2 : g d y s1 with
      | none => simp only [q2] at g1; exact g1.elim
      | some zs =>
        obtain ⟨z, s'⟩ := zs
        simp only [q2] at g1
        exact fun m' H' b l r p => g1 m' _ H' l r (relE_set ((E.mono l1).mono l) p j)
/-! #### loops -/
def ItR (K : PySem.W.Frag) (m : List Addr) (H : Hp) (it : Itm) (J : It) : Prop := ∀ m2 H2 s2, Le K m H m2 H2 → Rel K m2 H2 s2 → it.guard s2 →
  (∀ i d, it.xs[i]? = some d → J.go i H2 ∧ ∀ v H3, J.yld i H2 v H3 → Le K m2 H2 m2 H3 ∧ Rel K m2 H3 s2 ∧ Rep K m2 H3 d v) ∧ J.stop it.xs.length H2
abbrev Ti (K : PySem.W.Frag) (mg : Str → Option Value) (W : WX) (f : ME Itm) : TI := Tm K mg (ItR K) W f
theorem cs_for {fi : ME Itm} {vs : List Nat} {gt : D → Sl → Option Sl} (hp : PassesOwn (model X.prog X.w) X.A X.env X.xe) (hc : X.calm = true) (hi : PI X tg iter (Ti X.K X.mg W fi)) (hg : PG X tg (GTm X.K vs gt)) (hb : PSs X body (Ts X.K X.mg W f))
    (hs : ∀ x, foldedSetIterable iter X.env x = pure x := by intro _; rfl) : PS X (.For tg iter body [] pos) (Ts X.K X.mg W (sFor fi gt f)) :=
  PS.imp (ps_for hp hc hi hg hb hs) fun Dn σ H h => Ts.ofE (k := fun env (i : Itm) s => forL i.guard gt f i.xs env s) h fun m1 H1 env it J s1 r1 E1 p1 g1 => by
    refine ⟨fun i k σ H => k = it.xs.length - i ∧ i ≤ it.xs.length ∧ ∃ m2 env2 s2, Le X.K m1 H1 m2 H ∧ Rel X.K m2 H s2 ∧ RelE X.K m2 H env2 σ ∧ GS X.K X.mg W Dn m2 H (forL it.guard gt f (it.xs.drop i) env2 s2),
      ⟨it.xs.length, by simp, Nat.zero_le _, m1, env, s1, .refl, r1, E1, g1⟩, ?_⟩
    rintro i k σ2 H2 ⟨rfl, hi, m2, env2, s2, l2, r2, E2, g2⟩
    by_cases hlt : i < it.xs.length
    · have hx : it.xs[i]? = some it.xs[i] := by simp [hlt]
      have hd : it.xs.drop i = it.xs[i] :: it.xs.drop (i + 1) := List.drop_eq_getElem_cons hlt
      rw [hd] at g2
      unfold forL at g2
      by_cases hgd : it.guard s2
      · simp only [hgd, if_true] at g2
        obtain ⟨hall, _⟩ := p1 m2 H2 s2 l2 r2 hgd
        obtain ⟨hgo, hy⟩ := hall i _ hx
        refine .inr ⟨hgo, fun σ' H' => ∃ m3 env3 s3, Le X.K m1 H1 m3 H' ∧ Rel X.K m3 H' s3 ∧ RelE X.K m3 H' env3 σ' ∧ GS X.K X.mg W Dn m3 H' (forL it.guard gt f (it.xs.drop (i + 1)) env3 s3),
          fun σ' H' ⟨m3, env3, s3, l3, r3, E3, g3⟩ => ⟨it.xs.length - (i + 1), by omega, rfl, hlt, m3, env3, s3, l3, r3, E3, g3⟩, fun v H3 y => ?_⟩
        obtain ⟨l3, r3, p3⟩ := hy v H3 y
        cases q : gt it.xs[i] env2 with
        | none => simp only [q] at g2; exact g2.elim
        | some env3 =>
          simp only [q] at g2
          refine ⟨m2, env2, s2, it.xs[i], env3, r3, E2.mono l3, p3, q, fun σ4 E4 _ _ => ⟨m2, env3, s2, r3, E4, ?_⟩⟩
          have g3 := GS.mono l3 g2
          have l4 := l2.trans l3
          cases hb2 : f env3 s2 with
          | nx env5 s5 => rw [hb2] at g3; exact fun m' σ' H' l r E => ⟨m', env5, s5, l4.trans l, r, E, GS.mono l g3⟩
          | ct env5 s5 => rw [hb2] at g3; exact fun m' σ' H' l r E => ⟨m', env5, s5, l4.trans l, r, E, GS.mono l g3⟩
          | bk env5 s5 => rw [hb2] at g3; exact g3
          | rt d s5 => rw [hb2] at g3; exact g3
          | ex x env5 s5 => rw [hb2] at g3; exact g3
          | no => rw [hb2] at g3; exact g3
      · simp only [hgd, if_false] at g2
        exact g2.elim
    · have e : i = it.xs.length := by omega
      subst e
      rw [List.drop_length] at g2
      unfold forL at g2
      by_cases hgd : it.guard s2
      · simp only [hgd, if_true] at g2
        exact .inl ⟨(p1 m2 H2 s2 l2 r2 hgd).2, g2 m2 σ2 H2 .refl r2 E2⟩
      · simp only [hgd, if_false] at g2
        exact g2.elim
theorem cs_while (hp : PassesOwn (model X.prog X.w) X.A X.env X.xe) (hc : PT X c (Tt X.K X.mg W gc)) (hb : PSs X body (Ts X.K X.mg W f)) : PS X (.While c body [] pos) (Ts X.K X.mg W (sWhile gc f)) :=
  PS.imp (ps_while hp hc hb) fun Dn σ H ⟨m, env, s, r, E, g⟩ => by
    unfold sWhile at g
    split at g
    · rename_i hx
      refine ⟨fun n σ H => ∃ m2 env2 s2, Rel X.K m2 H s2 ∧ RelE X.K m2 H env2 σ ∧ GS X.K X.mg W Dn m2 H (whileN gc f n env2 s2), ⟨_, m, env, s, r, E, g⟩, ?_⟩
      rintro n σ1 H1 ⟨m1, env1, s1, r1, E1, g1⟩
      cases n with
      | zero => exact g1.elim
      | succ n =>
        unfold whileN at g1
        refine ⟨m1, env1, s1, r1, E1, GS.ofE E1 g1 fun m2 H2 k kb s2 l2 r2 p2 g2 => ?_⟩
        cases (show k = kb from p2)
        cases k with
        | false => exact iteF (g2 m2 σ1 H2 .refl r2 (E1.mono l2))
        | true =>
          refine iteT ⟨fun σ' H' => ∃ m3 env3 s3, Rel X.K m3 H' s3 ∧ RelE X.K m3 H' env3 σ' ∧ GS X.K X.mg W Dn m3 H' (whileN gc f n env3 s3), fun σ' H' q => ⟨n, Nat.lt_succ_self n, q⟩, m2, env1, s2, r2, E1.mono l2, ?_⟩
          simp only [if_true] at g2
          cases hb2 : f env1 s2 with
          | nx env5 s5 => rw [hb2] at g2; exact fun m' σ' H' l r E => ⟨m', env5, s5, r, E, GS.mono l g2⟩
          | ct env5 s5 => rw [hb2] at g2; exact fun m' σ' H' l r E => ⟨m', env5, s5, r, E, GS.mono l g2⟩
          | bk env5 s5 => rw [hb2] at g2; exact g2
          | rt d s5 => rw [hb2] at g2; exact g2
          | ex x env5 s5 => rw [hb2] at g2; exact g2
          | no => rw [hb2] at g2; exact g2
    · exact g.elim
end
/-! #### what a loop walks -/
def always : Store → Prop := fun _ => True
/-- a list, a tuple, a text -/
def iSeq (a : ME D) : ME Itm := fun env s => (a env s).bind fun x s => match x with
  | .tup xs => .ok (Itm.mk (xs) (always)) s
  | .fl xs => .ok (Itm.mk (xs) (always)) s
  | .str z => .ok (Itm.mk (z.cps.toList.map fun c => .str ⟨#[c]⟩) (always)) s
  | .loc l => match s[l]? with
    | some (.lst xs) => .ok (Itm.mk (xs) (fun s2 => s2[l]? = some (.lst xs))) s
    | _ => .no
  | _ => .no
/-- a bound of a range -/
def InR (j : Int) : Prop := -(2 ^ 62) ≤ j ∧ j < 2 ^ 62
noncomputable instance (j : Int) : Decidable (InR j) := Classical.propDecidable _
noncomputable def iRange1 (a : ME (List D)) : ME Itm := fun env s => (a env s).bind fun x s => match x with
  | [.int j] => if InR j then .ok (Itm.mk ((List.range j.toNat).map fun i => .int ((0 : Int) + (i : Nat))) (always)) s else .no
  | _ => .no
noncomputable def iRange2 (a : ME (List D)) : ME Itm := fun env s => (a env s).bind fun x s => match x with
  | [.int i, .int j] => if InR i ∧ InR j then .ok (Itm.mk ((List.range (j - i).toNat).map fun k => .int (i + (k : Nat))) (always)) s else .no
  | _ => .no
section
variable {K : PySem.W.Frag} {m : List Addr} {H : Hp}
theorem itr_list {l : Nat} {xs : List D} {a : Addr} (h : m[l]? = some a) : ItR K m H ⟨xs, fun s2 => s2[l]? = some (.lst xs)⟩ (Itl K a) := fun m2 H2 s2 l2 r2 g => by
  have g' : s2[l]? = some (.lst xs) := g
  obtain ⟨vs, h1, h2⟩ := r2.list (l2.get h) g'
  have hq : SqL K H2 a vs := .inl (.inl h1)
  refine ⟨fun i d e => ?_, ⟨vs, hq, by rw [← h2.length]; exact Nat.le_refl _⟩⟩
  obtain ⟨v, hv, rv⟩ := h2.get e
  refine ⟨⟨vs, v, hq, hv⟩, fun w H3 y => ?_⟩
  obtain ⟨rfl, y⟩ := y
  have e2 := y vs hq
  rw [hv] at e2; cases e2
  exact ⟨.refl, r2, rv⟩
theorem itr_fl {xs : List D} {vs : List V} {a : Addr} (h : FrL K H a vs) (p : Reps K m H xs vs) : ItR K m H ⟨xs, always⟩ (Itl K a) := fun m2 H2 s2 l2 r2 g => by
  have hq : SqL K H2 a vs := (l2.frl a vs h).sq
  have h2 := p.mono l2
  refine ⟨fun i d e => ?_, ⟨vs, hq, by rw [← h2.length]; exact Nat.le_refl _⟩⟩
  obtain ⟨v, hv, rv⟩ := h2.get e
  refine ⟨⟨vs, v, hq, hv⟩, fun w H3 y => ?_⟩
  obtain ⟨rfl, y⟩ := y
  have e2 := y vs hq
  rw [hv] at e2; cases e2
  exact ⟨.refl, r2, rv⟩
theorem itr_tup {xs : List D} {vs : List V} {a : Addr} (h : SqT K H a vs) (p : Reps K m H xs vs) : ItR K m H ⟨xs, always⟩ (Itt K a) := fun m2 H2 s2 l2 r2 g => by
  have hq : SqT K H2 a vs := l2.tup a vs h
  have h2 := p.mono l2
  refine ⟨fun i d e => ?_, ⟨vs, hq, by rw [← h2.length]; exact Nat.le_refl _⟩⟩
  obtain ⟨v, hv, rv⟩ := h2.get e
  refine ⟨⟨vs, v, hq, hv⟩, fun w H3 y => ?_⟩
  obtain ⟨rfl, y⟩ := y
  have e2 := y vs hq
  rw [hv] at e2; cases e2
  exact ⟨.refl, r2, rv⟩
theorem itr_str {z : Str} : ItR K m H ⟨z.cps.toList.map fun c => .str ⟨#[c]⟩, always⟩ (Its z) := fun m2 H2 s2 l2 r2 g => by
  have w := walk_str (z := z)
  refine ⟨fun i d e => ?_, by
    have q := w.stops H2 trivial
    show (Its z).stop (List.map _ z.cps.toList).length H2
    rw [List.length_map, Array.length_toList]
    exact q⟩
  rw [List.getElem?_map, Array.getElem?_toList] at e
  cases hc : z.cps[i]? with
  | none => rw [hc] at e; cases e
  | some c =>
    rw [hc] at e; cases e
    have hi : i < z.cps.size := (Array.getElem?_eq_some_iff.mp hc).1
    refine ⟨w.goes i H2 hi trivial, fun v H3 y => ?_⟩
    obtain ⟨rfl, c', h1, rfl⟩ := w.yields i H2 v H3 hi trivial y
    rw [hc] at h1; cases h1
    exact ⟨.refl, r2, .str _⟩
theorem itr_range {lo : Int} {n : Nat} : ItR K m H ⟨(List.range n).map fun (i : Nat) => .int (lo + (i : Int)), always⟩ (Itr lo n) := fun m2 H2 s2 l2 r2 g => by
  refine ⟨fun i d e => ?_, by show n ≤ (List.map _ (List.range n)).length; simp⟩
  rw [List.getElem?_map] at e
  by_cases hi : i < n
  · rw [List.getElem?_range hi] at e
    cases e
    refine ⟨hi, fun v H3 y => ?_⟩
    obtain ⟨rfl, rfl⟩ := y
    exact ⟨.refl, r2, .int _⟩
  · rw [List.getElem?_eq_none (by simpa using hi)] at e; cases e
end
section
variable {X : Cx} {W : WX} {tg e a b : Expr} {p pos : Pos} {fe : ME D} {fs : ME (List D)}
theorem PI.imp {e : Expr} {t t' : TI} (h : PI X tg e t) (i : ∀ σ H Q, t' σ H Q → t σ H Q) : PI X tg e t' := ⟨fun pins s σ H Q I q => h.run pins s σ H Q I (i σ H Q q)⟩
def iAny (K : PySem.W.Frag) (tl : TE) : TI := fun σ H R => tl σ H fun x H1 => (∃ a, x = .ref a ∧ ((∃ xs, SqL K H1 a xs) ∧ R (Itl K a) H1 ∨ (∃ xs, SqT K H1 a xs) ∧ R (Itt K a) H1)) ∨ ∃ z, x = .str z ∧ R (Its z) H1
theorem pi_any {tl : TE} (hl : PE X e tl) : PI X tg e (iAny X.K tl) := by
  refine ⟨fun pins s σ H R I h => ?_⟩
  refine thn (hl.run pins s σ H _ I h) fun v s1 ⟨x, H1, I1, r1, q1⟩ => ?_
  rcases q1 with ⟨a, rfl, ⟨⟨xs, hq⟩, q⟩ | ⟨⟨xs, hq⟩, q⟩⟩ | ⟨z, rfl, q⟩
  · cases r1
    obtain ⟨its, rv, p, hz⟩ := I1.list hq
    refine wpAny_pyIter_list p.isList ?_
    refine ⟨s1.heap.objs.size, [s1.heap.objs.size], _, _, H1, rfl, I1.kept (t' := s1.toks) fun b o e => Heap.get?_push_of_some _ e, turn_list a _, ⟨_, Heap.get?_push_size _ rfl, rfl, rfl⟩, fun b hb => ?_, q⟩
    have e : b = s1.heap.objs.size := by simpa using hb
    subst e
    exact I1.fpOk (Nat.le_refl _) (I1.hok.fresh (Nat.le_refl _))
  · cases r1
    obtain ⟨its, rv, p, hz⟩ := I1.tuple hq
    refine wpAny_pyIter_tuple (show s1.heap.IsTuple a its.toArray from p) ?_
    refine ⟨s1.heap.objs.size, [s1.heap.objs.size], _, _, H1, rfl, I1.kept (t' := s1.toks) fun b o e => Heap.get?_push_of_some _ e, turn_tuple a _, ⟨_, Heap.get?_push_size _ rfl, rfl, rfl⟩, fun b hb => ?_, q⟩
    have e : b = s1.heap.objs.size := by simpa using hb
    subst e
    exact I1.fpOk (Nat.le_refl _) (I1.hok.fresh (Nat.le_refl _))
  · obtain ⟨t, rfl⟩ := r1
    cases ha : z.cps.all (· < 128)
    · exact wpAny_pyIter_wide ha (pi_one (tk := s1.toks) I1 _ (turn_str _ z t "str_iterator" (.inr rfl)) ⟨_, Heap.get?_push_size _ rfl, rfl, rfl⟩ q)
    · exact wpAny_pyIter_ascii ha (pi_one (tk := s1.toks) I1 _ (turn_str _ z t "str_ascii_iterator" (.inl rfl)) ⟨_, Heap.get?_push_size _ rfl, rfl, rfl⟩ q)
theorem ci_seq (he : PE X e (Te X.K X.mg W fe)) : PI X tg e (Ti X.K X.mg W (iSeq fe)) := PI.imp (pi_any he) fun σ H Rw h =>
  Tm.bind (k := fun _ x s => match x with
  | .tup xs => R.ok (Itm.mk (xs) (always)) s
  | .fl xs => R.ok (Itm.mk (xs) (always)) s
  | .str z => R.ok (Itm.mk (z.cps.toList.map fun c => .str ⟨#[c]⟩) (always)) s
  | .loc l => match s[l]? with
    | some (.lst xs) => R.ok (Itm.mk (xs) (fun s2 => s2[l]? = some (.lst xs))) s
    | _ => R.no
  | _ => R.no) h fun m1 H1 env x v s1 r1 E1 p1 g1 => by
    cases x with
    | tup xs =>
      obtain ⟨a, vs, rfl, hq, rr⟩ := p1.sqT
      exact .inl ⟨a, rfl, .inr ⟨⟨vs, hq⟩, g1 m1 H1 _ .refl r1 (itr_tup hq rr)⟩⟩
    | fl xs =>
      cases p1 with
      | fl hq rr => exact .inl ⟨_, rfl, .inl ⟨⟨_, hq.sq⟩, g1 m1 H1 _ .refl r1 (itr_fl hq rr)⟩⟩
    | str z => cases p1; exact .inr ⟨z, rfl, g1 m1 H1 _ .refl r1 itr_str⟩
    | loc l =>
      cases p1 with
      | loc hl =>
        cases q : s1[l]? with
        | none => simp only [q] at g1; exact g1.elim
        | some c =>
          cases c with
          | dic _ => simp only [q] at g1; exact g1.elim
          | lst xs =>
            simp only [q] at g1
            obtain ⟨vs, h1, h2⟩ := r1.list hl q
            exact .inl ⟨_, rfl, .inl ⟨⟨vs, .inl (.inl h1)⟩, g1 m1 H1 _ .refl r1 (itr_list hl)⟩⟩
    | _ => exact g1.elim
theorem ci_range1 (hg : Gl X "range") (hm : X.mg "range" = none) (ha : PA X [a] (Ta X.K X.mg W fs)) (hs : starEach [a] X.env = [(false, eval a X.env)] := by rfl) : PI X tg (.Call (.Name "range" p) [a] [] pos) (Ti X.K X.mg W (iRange1 fs)) :=
  PI.imp (pi_range1 hg hm ha hs) fun σ H Rw h => Tm.bind (k := fun _ x s => match x with
  | [.int j] => if InR j then R.ok (Itm.mk ((List.range j.toNat).map fun i => .int ((0 : Int) + (i : Nat))) (always)) s else R.no
  | _ => R.no) h fun m1 H1 env x v s1 r1 E1 p1 g1 => by
    match x, p1, g1 with
    | [.int j], p1, g1 =>
      obtain ⟨v, rfl, h⟩ := reps1 p1
      cases h
      by_cases hj : InR j
      · simp only [hj, if_true] at g1
        exact ⟨j, rfl, hj.1, hj.2, g1 m1 H1 _ .refl r1 itr_range⟩
      · simp only [hj, if_false] at g1
        exact g1.elim
    | [], _, g1 => exact g1.elim
    | [.non], _, g1 => exact g1.elim
    | [.bl _], _, g1 => exact g1.elim
    | [.str _], _, g1 => exact g1.elim
    | [.tup _], _, g1 => exact g1.elim
    | [.fl _], _, g1 => exact g1.elim
    | [.loc _], _, g1 => exact g1.elim
    | [.exv _ _ _ _], _, g1 => exact g1.elim
    | .non :: _ :: _, _, g1 => exact g1.elim
    | .bl _ :: _ :: _, _, g1 => exact g1.elim
    | .int _ :: _ :: _, _, g1 => exact g1.elim
    | .str _ :: _ :: _, _, g1 => exact g1.elim
    | .tup _ :: _ :: _, _, g1 => exact g1.elim
    | .fl _ :: _ :: _, _, g1 => exact g1.elim
    | .loc _ :: _ :: _, _, g1 => exact g1.elim
    | .exv _ _ _ _ :: _ :: _, _, g1 => exact g1.elim
theorem ci_range2 (hg : Gl X "range") (hm : X.mg "range" = none) (ha : PA X [a, b] (Ta X.K X.mg W fs)) (hs : starEach [a, b] X.env = [(false, eval a X.env), (false, eval b X.env)] := by rfl) (hs2 : starEach [b] X.env = [(false, eval b X.env)] := by rfl) :
    PI X tg (.Call (.Name "range" p) [a, b] [] pos) (Ti X.K X.mg W (iRange2 fs)) :=
  PI.imp (pi_range2 hg hm ha hs hs2) fun σ H Rw h => Tm.bind (k := fun _ x s => match x with
  | [.int i, .int j] => if InR i ∧ InR j then R.ok (Itm.mk ((List.range (j - i).toNat).map fun k => .int (i + (k : Nat))) (always)) s else R.no
  | _ => R.no) h fun m1 H1 env x v s1 r1 E1 p1 g1 => by
    split at g1
    · rename_i i j
      obtain ⟨v, w, rfl, h, h2⟩ := reps2 p1
      cases h; cases h2
      by_cases hj : InR i ∧ InR j
      · simp only [hj, and_self, if_true] at g1
        exact ⟨i, j, rfl, ⟨hj.1.1, hj.1.2, hj.2.1, hj.2.2⟩, g1 m1 H1 _ .refl r1 itr_range⟩
      · simp only [hj, if_false] at g1
        exact g1.elim
    · exact g1.elim
end
/-- o[i] = e of a list -/
def pList (x y z : D) (s : Store) : Option Store := match x, y with
  | .loc l, .int i => match s[l]? with
    | some (.lst xs) => (ixN xs.length i).map fun j => s.set l (.lst (xs.set j z))
    | _ => none
  | _, _ => none
theorem puts_list {K : PySem.W.Frag} : PutS K rSetL pList := by
  intro m H s s' x y z dx dy dz Q r px py pz e q
  unfold pList at e
  split at e
  · rename_i l i
    cases px with
    | loc hl =>
      cases py
      split at e
      · rename_i xs q1
        cases q2 : ixN xs.length i with
        | none => rw [q2] at e; cases e
        | some j =>
          rw [q2] at e
          cases e
          obtain ⟨vs, h1, h2⟩ := r.list hl q1
          obtain ⟨le, r2⟩ := le_setlist r hl (h2.set pz j)
          exact ⟨_, vs, i, j, rfl, rfl, h1, by rw [← h2.length]; exact q2, q _ le r2⟩
      · cases e
  · cases e
end Mi
namespace Mi
open PySem PySem.Spec PyProof.Rows L2
/-! ### list comprehensions -/
/-- a list that is being made is no cell yet: what a value's standing needs -/
structure Lw (K : PySem.W.Frag) (m : List Addr) (H : Hp) (m' : List Addr) (H' : Hp) : Prop where
  pre : ∃ r, m' = m ++ r
  tup : ∀ a xs, SqT K H a xs → SqT K H' a xs
  frl : ∀ a xs, FrL K H a xs → FrL K H' a xs
  xd : ∀ b vfs, H b = some (.xd vfs) → b ∉ m → H' b = some (.xd vfs) ∧ b ∉ m'
section
variable {K : PySem.W.Frag} {mg : Str → Option Value} {m m1 m2 : List Addr} {H H1 H2 : Hp} {s : Store} {p : Addr}
theorem Le.w (e : Le K m H m1 H1) : Lw K m H m1 H1 := ⟨e.pre, e.tup, e.frl, fun b vfs h n => ⟨e.fr _ _ h n, fun z => (e.nw _ z).elim n fun q => by rw [h] at q; cases q⟩⟩
theorem Lw.get (e : Lw K m H m1 H1) {l : Nat} {a : Addr} (h : m[l]? = some a) : m1[l]? = some a := by
  obtain ⟨r, rfl⟩ := e.pre
  rw [List.getElem?_append_left (by
    rcases Nat.lt_or_ge l m.length with q | q
    · exact q
    · rw [List.getElem?_eq_none q] at h; cases h)]
  exact h
mutual
theorem Rep.monoW (e : Lw K m H m1 H1) : ∀ {d : D} {v : V}, Rep K m H d v → Rep K m1 H1 d v
  | _, _, .non => .non
  | _, _, .bl b => .bl b
  | _, _, .int i => .int i
  | _, _, .str x => .str x
  | _, _, .tup h r => .tup (e.tup _ _ h) (Reps.monoW e r)
  | _, _, .fl h r => .fl (e.frl _ _ h) (Reps.monoW e r)
  | _, _, .loc h => .loc (e.get h)
  | _, _, .exv h n r => .exv (e.xd _ _ h n).1 (e.xd _ _ h n).2 (FldR.monoW e r)
theorem Reps.monoW (e : Lw K m H m1 H1) : ∀ {ds : List D} {vs : List V}, Reps K m H ds vs → Reps K m1 H1 ds vs
  | _, _, .nil => .nil
  | _, _, .cons h r => .cons (Rep.monoW e h) (Reps.monoW e r)
theorem FldR.monoW (e : Lw K m H m1 H1) : ∀ {ds : List (Str × D)} {vs : List (Str × V)}, FldR K m H ds vs → FldR K m1 H1 ds vs
  | _, _, .nil => .nil
  | _, _, .cons h r => .cons (Rep.monoW e h) (FldR.monoW e r)
end
theorem RepK.monoW (e : Lw K m H m1 H1) : ∀ {ds : List (Key × D)} {vs : List (Key × V)}, RepK K m H ds vs → RepK K m1 H1 ds vs
  | _, _, .nil => .nil
  | _, _, .cons h r => .cons (h.monoW e) (RepK.monoW e r)
theorem RelE.monoW (e : Lw K m H m1 H1) {env : Sl} {σ : L2.St} (h : RelE K m H env σ) : RelE K m1 H1 env σ :=
  ⟨h.1, fun i d q => let ⟨v, h1, h2⟩ := h.2 i d q; ⟨v, h1, h2.monoW e⟩⟩
theorem CellR.monoW {c : Cell} {a : Addr} (e : Lw K m H m1 H1) (hs : H1 a = H a) (h : CellR K m H a c) : CellR K m1 H1 a c := by
  cases c with
  | lst xs => obtain ⟨vs, h1, h2⟩ := h; exact ⟨vs, hs.trans h1, h2.monoW e⟩
  | dic kvs => obtain ⟨ws, h1, h2⟩ := h; exact ⟨ws, hs.trans h1, h2.monoW e⟩
/-- a list of ours that is no cell is written -/
theorem lw_side {vs ws : List V} (h : H p = some (.lst vs)) : Lw K m H m (upd H p (HO.lst ws)) :=
  ⟨⟨[], by simp⟩, fun b xs q => by
    rcases q with (q | ⟨ob, q⟩) | q
    · exact .inl (.inl (by rw [upd_ne (fun z => by subst z; rw [h] at q; cases q)]; exact q))
    · exact .inl (.inr ⟨ob, by rw [upd_ne (fun z => by subst z; rw [h] at q; cases q)]; exact q⟩)
    · exact .inr q, fun b xs q => by
    rcases q with ⟨ob, q⟩ | q
    · exact .inl ⟨ob, by rw [upd_ne (fun z => by subst z; rw [h] at q; cases q)]; exact q⟩
    · exact .inr q, fun b vfs q n => ⟨by rw [upd_ne (fun z => by subst z; rw [h] at q; cases q)]; exact q, n⟩⟩
theorem Rel.side (r : Rel K m H s) {vs ws : List V} (h : H p = some (.lst vs)) (n : p ∉ m) : Rel K m (upd H p (HO.lst ws)) s :=
  ⟨r.len, r.nd, fun l a c h1 h2 => (r.at_ l a c h1 h2).monoW (lw_side h) (upd_ne fun z => by subst z; exact n (List.mem_of_getElem? h1))⟩
theorem Le.side (e : Le K m H m1 H1) {vs ws : List V} (h0 : H p = none) (h : H1 p = some (.lst vs)) : Le K m H m1 (upd H1 p (HO.lst ws)) :=
  ⟨e.pre, fun a xs q => (lw_side (m := m1) h).tup a xs (e.tup a xs q), fun a xs q => (lw_side (m := m1) h).frl a xs (e.frl a xs q), fun b o q n => by
    rw [upd_ne (fun z => by subst z; rw [h0] at q; cases q)]; exact e.fr b o q n, e.nw⟩
theorem lw_adopt {vs : List V} (h : H p = some (.lst vs)) : Lw K m H (m ++ [p]) H := ⟨⟨[p], rfl⟩, fun _ _ q => q, fun _ _ q => q, fun b vfs q n => ⟨q, fun z => by
    rcases List.mem_append.mp z with z | z
    · exact n z
    · rw [List.mem_singleton.mp z, h] at q; cases q⟩⟩
theorem Rel.adopt (r : Rel K m H s) {xs : List D} {vs : List V} (n : p ∉ m) (h : H p = some (.lst vs)) (q : Reps K m H xs vs) : Rel K (m ++ [p]) H (s ++ [Cell.lst xs]) := by
  refine ⟨by simp [r.len], ?_, fun j b d h1 h2 => ?_⟩
  · rw [List.nodup_append]
    exact ⟨r.nd, by simp, fun x hx y hy => by rw [List.mem_singleton.mp hy]; exact fun z => n (z ▸ hx)⟩
  · rcases Nat.lt_or_ge j m.length with w | w
    · rw [List.getElem?_append_left w] at h1
      rw [List.getElem?_append_left (by rw [← r.len]; exact w)] at h2
      exact (r.at_ j b d h1 h2).monoW (lw_adopt h) rfl
    · rw [List.getElem?_append_right w] at h1
      rw [List.getElem?_append_right (by rw [← r.len]; exact w), ← r.len] at h2
      cases hk : j - m.length with
      | zero =>
        rw [hk] at h1 h2
        simp at h1 h2
        subst h1; subst h2
        exact ⟨vs, h, q.monoW (lw_adopt h)⟩
      | succ n => rw [hk] at h1; simp at h1
theorem Le.adopt (e : Le K m H m1 H1) (h0 : H p = none) : Le K m H (m1 ++ [p]) H1 := by
  refine ⟨?_, e.tup, e.frl, e.fr, fun b h => ?_⟩
  · obtain ⟨r, rfl⟩ := e.pre
    exact ⟨r ++ [p], by simp⟩
  · rcases List.mem_append.mp h with q | q
    · exact e.nw b q
    · rw [List.mem_singleton.mp q]; exact .inr h0
end
def wipeE (env : Sl) : List Nat → Sl
  | [] => env
  | v :: vs => (wipeE env vs).set v none
theorem wipeE_length (env : Sl) : ∀ vs : List Nat, (wipeE env vs).length = env.length
  | [] => rfl
  | v :: vs => by unfold wipeE; rw [List.length_set, wipeE_length env vs]
theorem wipeE_some {env : Sl} {i : Nat} {x : D} : ∀ {vs : List Nat}, (wipeE env vs)[i]? = some (some x) → env[i]? = some (some x) ∧ i ∉ vs
  | [], h => ⟨h, by simp⟩
  | v :: vs, h => by
    unfold wipeE at h
    by_cases hi : v = i
    · subst hi
      by_cases hv : v < (wipeE env vs).length
      · rw [List.getElem?_set_self hv] at h; cases h
      · rw [List.getElem?_eq_none (by simpa using hv)] at h; cases h
    · rw [List.getElem?_set_ne hi] at h
      obtain ⟨h1, h2⟩ := wipeE_some h
      exact ⟨h1, by simp only [List.mem_cons, not_or]; exact ⟨fun e => hi e.symm, h2⟩⟩
theorem relE_wipe {K : PySem.W.Frag} {m : List Addr} {H : Hp} {env : Sl} {σ : L2.St} (E : RelE K m H env σ) (vs : List Nat) : RelE K m H (wipeE env vs) (wipe σ vs) := by
  refine ⟨by rw [wipeE_length, wipe_length]; exact E.1, fun i d h => ?_⟩
  obtain ⟨h1, h2⟩ := wipeE_some h
  obtain ⟨v, h3, h4⟩ := E.2 i d h1
  exact ⟨v, by rw [wipe_out h2]; exact h3, h4⟩
theorem wipe_in {σ : L2.St} {i : Nat} : ∀ {vs : List Nat}, i ∈ vs → i < σ.length → (wipe σ vs)[i]? = some none
  | v :: vs, h, hl => by
    unfold wipe
    by_cases hv : v = i
    · subst hv
      rw [List.getElem?_set_self (by rw [wipe_length]; exact hl)]
    · rw [List.getElem?_set_ne hv]
      exact wipe_in (by rcases List.mem_cons.mp h with e | e; exact absurd e.symm hv; exact e) hl
theorem wipe_congr {σ σ' : L2.St} {vs : List Nat} (hl : σ'.length = σ.length) (h : ∀ i, i ∉ vs → σ'[i]? = σ[i]?) : wipe σ' vs = wipe σ vs := by
  apply List.ext_getElem?
  intro i
  by_cases hi : i ∈ vs
  · by_cases hn : i < σ.length
    · rw [wipe_in hi (by rw [hl]; exact hn), wipe_in hi hn]
    · rw [List.getElem?_eq_none (by rw [wipe_length, hl]; omega), List.getElem?_eq_none (by rw [wipe_length]; omega)]
  · rw [wipe_out hi, wipe_out hi, h i hi]
theorem wipe_wipe (σ : L2.St) (vs : List Nat) : wipe (wipe σ vs) vs = wipe σ vs := wipe_congr (wipe_length σ vs) fun i hi => wipe_out hi
/-- nothing is raised within a comprehension -/
def noX {α : Type} : R α → R α
  | .ok a s => .ok a s
  | _ => .no
open Classical in
noncomputable def lcL (guard : Store → Prop) (g : D → Sl → Option Sl) (t : ME Bool) (e : ME D) (env : Sl) : List D → List D → Store → R (List D)
  | [], acc, s => if guard s then .ok acc s else .no
  | x :: xs, acc, s => if guard s then (match g x env with
    | none => .no
    | some env1 => match t env1 s with
      | .ok b s1 => if b then (match e env1 s1 with
        | .ok y s2 => if acc.length < sizeLine then lcL guard g t e env xs (acc ++ [y]) s2 else .no
        | _ => .no) else lcL guard g t e env xs acc s1
      | _ => .no) else .no
noncomputable def eLc (it : ME Itm) (vs : List Nat) (g : D → Sl → Option Sl) (t : ME Bool) (e : ME D) : ME D := fun env s => (it env s).bind fun i s => (lcL i.guard g t e (wipeE env vs) i.xs [] s).bind fun acc s => .ok (.loc s.length) (s ++ [.lst acc])
def tT : ME Bool := fun _ s => .ok true s
abbrev WF : WX := fun _ _ _ _ => False
section
variable {X : Cx} {W : WX}
theorem lc_run {fi : ME Itm} {vs : List Nat} {gt : D → Sl → Option Sl} {ft : ME Bool} {fe : ME D} : ∀ σ H Q, Te X.K X.mg W (eLc fi vs gt ft fe) σ H Q →
    tLc (Ti X.K X.mg W fi) (GTm X.K vs gt) (Tt X.K X.mg WF ft) (Te X.K X.mg WF fe) vs σ H Q := fun σ H Q h =>
  Tm.bind (k := fun env (i : Itm) s => (lcL i.guard gt ft fe (wipeE env vs) i.xs [] s).bind fun acc s => R.ok (D.loc s.length) (s ++ [Cell.lst acc])) h fun m1 H1 env it J s1 r1 E1 p1 g1 => by
    intro P hP
    refine ⟨fun i k H => k = it.xs.length - i ∧ i ≤ it.xs.length ∧ ∃ m2 s2 acc accV, Le X.K m1 H1 m2 H ∧ Rel X.K m2 H s2 ∧ H P = some (.lst accV) ∧ P ∉ m2 ∧ Reps X.K m2 H acc accV ∧
        G X.K X.mg (Rep X.K) W σ m1 H1 Q ((lcL it.guard gt ft fe (wipeE env vs) (it.xs.drop i) acc s2).bind fun acc s => R.ok (D.loc s.length) (s ++ [Cell.lst acc])),
      ⟨it.xs.length, by simp, Nat.zero_le _, m1, s1, [], [], le_new hP, r1.tmp hP, upd_same, r1.new_notin hP, .nil, g1⟩, ?_⟩
    rintro i k H2 ⟨rfl, hi, m2, s2, acc, accV, l2, r2, hD, nD, pA, g2⟩
    by_cases hlt : i < it.xs.length
    · have hx : it.xs[i]? = some it.xs[i] := by simp [hlt]
      have hd : it.xs.drop i = it.xs[i] :: it.xs.drop (i + 1) := List.drop_eq_getElem_cons hlt
      rw [hd] at g2
      unfold lcL at g2
      by_cases hgd : it.guard s2
      · simp only [hgd, if_true] at g2
        obtain ⟨hall, _⟩ := p1 m2 H2 s2 l2 r2 hgd
        obtain ⟨hgo, hy⟩ := hall i _ hx
        refine .inr ⟨hgo, fun H' => ∃ m2 s2 acc accV, Le X.K m1 H1 m2 H' ∧ Rel X.K m2 H' s2 ∧ H' P = some (.lst accV) ∧ P ∉ m2 ∧ Reps X.K m2 H' acc accV ∧
          G X.K X.mg (Rep X.K) W σ m1 H1 Q ((lcL it.guard gt ft fe (wipeE env vs) (it.xs.drop (i + 1)) acc s2).bind fun acc s => R.ok (D.loc s.length) (s ++ [Cell.lst acc])),
          fun H' q => ⟨it.xs.length - (i + 1), by omega, rfl, hlt, q⟩, fun v H3 y => ?_⟩
        obtain ⟨l3, r3, p3⟩ := hy v H3 y
        cases q : gt it.xs[i] (wipeE env vs) with
        | none => simp only [q] at g2; exact g2.elim
        | some env3 =>
          simp only [q] at g2
          have l13 := l2.trans l3
          have hD3 := l3.fr P _ hD nD
          refine ⟨m2, wipeE env vs, s2, it.xs[i], env3, r3, relE_wipe (E1.mono l13) vs, p3, q, fun σ4 E4 k4 n4 => ⟨by rw [wipe_congr n4 k4, wipe_wipe], m2, env3, s2, r3, E4, ?_⟩⟩
          cases ht : ft env3 s2 with
          | no => rw [ht] at g2; exact g2.elim
          | ex x s4 => rw [ht] at g2; exact g2.elim
          | ok b s4 =>
            simp only [ht] at g2
            intro m5 H5 b' l5 r5 eb
            cases (show b = b' from eb)
            have hD5 := l5.fr P _ hD3 nD
            have nD5 : P ∉ m5 := fun z => by
              rcases l5.nw P z with w | w
              · exact nD w
              · rw [hD3] at w; cases w
            have l15 := l13.trans l5
            cases b with
            | false =>
              refine iteF ⟨m5, s4, acc, accV, l15, r5, hD5, nD5, (pA.mono l3).mono l5, ?_⟩
              simpa using g2
            | true =>
              simp only [if_true] at g2
              refine iteT ⟨m5, env3, s4, r5, E4.mono l5, ?_⟩
              cases he : fe env3 s4 with
              | no => rw [he] at g2; exact g2.elim
              | ex x s6 => rw [he] at g2; exact g2.elim
              | ok y s6 =>
                simp only [he] at g2
                by_cases hz : acc.length < sizeLine
                · simp only [hz, if_true] at g2
                  intro m7 H7 yv l7 r7 p7
                  have hD7 := l7.fr P _ hD5 nD5
                  have nD7 : P ∉ m7 := fun z => by
                    rcases l7.nw P z with w | w
                    · exact nD5 w
                    · rw [hD5] at w; cases w
                  have pA7 := ((pA.mono l3).mono l5).mono l7
                  exact ⟨accV, hD7, by rw [← pA.length]; exact hz, m7, s6, acc ++ [y], accV ++ [yv], (l15.trans l7).side hP hD7, r7.side hD7 nD7, upd_same, nD7,
                    (pA7.monoW (lw_side hD7)).append (.cons (p7.monoW (lw_side hD7)) .nil), g2⟩
                · simp only [hz, if_false] at g2
                  exact g2.elim
      · simp only [hgd, if_false] at g2
        exact g2.elim
    · have e : i = it.xs.length := by omega
      subst e
      rw [List.drop_length] at g2
      unfold lcL at g2
      by_cases hgd : it.guard s2
      · simp only [hgd, if_true] at g2
        refine .inl ⟨(p1 m2 H2 s2 l2 r2 hgd).2, ?_⟩
        exact g2 (m2 ++ [P]) H2 (.ref P) (l2.adopt hP) (r2.adopt nD hD pA) (.loc (len_get r2))
      · simp only [hgd, if_false] at g2
        exact g2.elim
variable {elt tg iter c : Expr} {ifs : List Expr} {scope : Scope} {own : List (Str × Nat)} {pos : Pos} {fi : ME Itm} {gt : D → Sl → Option Sl} {ft : ME Bool} {fe : ME D}
theorem cts_nil : PTs X [] (Tt X.K X.mg W tT) := ⟨fun pins s σ H Q I ⟨m, env, st, r, E, g⟩ => pts_nil.run pins s σ H Q I (g.nowB r)⟩
theorem cts_one (h : PT X c (Tt X.K X.mg W ft)) : PTs X [c] (Tt X.K X.mg W ft) := pts_one h
theorem ce_lc (hc : X.calm = true) (hN : X.N.Nodup) (hi : PI X tg iter (Ti X.K X.mg W fi)) (ok : BlkOk X.N X.env.scope scope own)
    (hg : ∀ (s : Shared) (H : Hp) (C : Addr) (cl : List (Str × Addr)) (fp : List Addr), PG (X.blk s H scope (compEnvC scope cl C X.env) fp) tg (GTm X.K (own.map (·.2)) gt)) (ht : ∀ (s : Shared) (H : Hp) (C : Addr) (cl : List (Str × Addr)) (fp : List Addr), PTs (X.blk s H scope (compEnvC scope cl C X.env) fp) ifs (Tt X.K X.mg WF ft))
    (he : ∀ (s : Shared) (H : Hp) (C : Addr) (cl : List (Str × Addr)) (fp : List Addr), PE (X.blk s H scope (compEnvC scope cl C X.env) fp) elt (Te X.K X.mg WF fe)) (hs : ∀ x, foldedSetIterable iter X.env x = pure x := by intro _; rfl) :
    PE X (.ListComp elt [⟨tg, iter, ifs, 0⟩] scope pos) (Te X.K X.mg W (eLc fi (own.map (·.2)) gt ft fe)) := PE.imp (pe_lc hc hN hi ok hg ht he hs) lc_run
theorem cs_setLc {i : Nat} {y : Str} {py spos : Pos} (hc : X.calm = true) (hN : X.N.Nodup) (hy : X.N[i]? = some y) (hyl : X.env.scope.names.lookup y = some .local)
    (hsw : swapsWith (.ListComp elt [⟨tg, iter, ifs, 0⟩] scope pos) (some (.Name y py)) spos.line X.env = pure true) (hi : PI X tg iter (Ti X.K X.mg W fi)) (ok : BlkOk X.N X.env.scope scope own)
    (hg : ∀ (s : Shared) (H : Hp) (C : Addr) (cl : List (Str × Addr)) (fp : List Addr), PG (X.blk s H scope (compEnvC scope cl C X.env) fp) tg (GTm X.K (own.map (·.2)) gt)) (ht : ∀ (s : Shared) (H : Hp) (C : Addr) (cl : List (Str × Addr)) (fp : List Addr), PTs (X.blk s H scope (compEnvC scope cl C X.env) fp) ifs (Tt X.K X.mg WF ft))
    (he : ∀ (s : Shared) (H : Hp) (C : Addr) (cl : List (Str × Addr)) (fp : List Addr), PE (X.blk s H scope (compEnvC scope cl C X.env) fp) elt (Te X.K X.mg WF fe)) (hs : ∀ x, foldedSetIterable iter X.env x = pure x := by intro _; rfl) :
    PS X (.Assign [.Name y py] (.ListComp elt [⟨tg, iter, ifs, 0⟩] scope pos) spos) (Ts X.K X.mg W (sSet i (eLc fi (own.map (·.2)) gt ft fe))) := PS.imp (ps_setLc (i := i) hc hN hy hyl hsw hi ok hg ht he hs) fun Dn σ H h =>
  lc_run σ H _ (Ts.ofE (k := fun env d s => RS.nx (env.set i (some d)) s) h fun m1 H1 env d v s1 r1 E1 p1 g1 => g1 m1 _ H1 .refl r1 (relE_set E1 p1 i))
end
/-! ### a def -/
/-- the mirror of a def: N names, n of them parameters -/
def fnM (N n : Nat) (b : MS) : List D → Store → R D := fun ds s => match b (ds.map some ++ List.replicate (N - n) none) s with
  | .rt d s => .ok d s
  | .nx _ s => .ok .non s
  | .ex e _ s => .ex e s
  | _ => .no
theorem relE_start {K : PySem.W.Frag} {m : List Addr} {H : Hp} {N : List Str} {ds : List D} {vs : List V} (p : Reps K m H ds vs) : RelE K m H (ds.map some ++ List.replicate (N.length - ds.length) none) (L2.start N vs) := by
  have hl := p.length
  refine ⟨by simp [L2.start, hl], fun i d h => ?_⟩
  by_cases hi : i < ds.length
  · rw [List.getElem?_append_left (by simpa using hi), List.getElem?_map] at h
    cases q : ds[i]? with
    | none => rw [q] at h; cases h
    | some d' =>
      rw [q] at h; cases h
      obtain ⟨v, h1, h2⟩ := p.get q
      refine ⟨v, ?_, h2⟩
      unfold L2.start
      rw [List.getElem?_append_left (by simpa using (hl ▸ hi)), List.getElem?_map, h1]
      rfl
  · rw [List.getElem?_append_right (by simpa using Nat.le_of_not_lt hi), List.getElem?_replicate] at h
    split at h <;> cases h
theorem okM {P : Program} {w : World} {K : PySem.W.Frag} {mg : Str → Option Value} {base : Heap} {x qual : Str} {st : Stmt} {f : Addr} {fd : FuncData} {N ps : List Str} {k n : Nat} {b : MS} (F : Fun K x qual st f fd) (S : FnScope N ps (defScope st)) (hn : ps.length = n)
    (hb : ∀ (cdv : Value) (A : Around) (outer : List Env) (s : Shared) (H : Hp) (E : XK), Room k (A.deeper (envOfC qual (defScope st) s.heap.objs.size f cdv)) → Takes (cxOf (L2.CX P w) P w K mg base N qual (defScope st) f cdv A outer s H E) (fun c d _ H => E c d H) →
      PSs (cxOf (L2.CX P w) P w K mg base N qual (defScope st) f cdv A outer s H E) (defBody st) (Ts K mg (fun c d _ H => E c d H) b)) :
    FnOk P w K mg base (L2.CX P w) (k + 1) f fd ps (spM K mg n (fnM N.length n b)) := by
  refine F.okX S (fun vs H Q E h => by rw [hn]; exact h.1) fun cdv A outer s H vs Q E hr h => ⟨_, hb cdv A outer s H E hr (takes_of rfl rfl rfl rfl), ?_⟩
  obtain ⟨hl, m, s, ds, r, p, g⟩ := h
  refine ⟨m, _, s, r, relE_start (N := N) p, ?_⟩
  have hd : ds.length = n := by rw [p.length, hl]
  unfold fnM at g
  rw [hd]
  cases q : b (ds.map some ++ List.replicate (N.length - n) none) s with
  | nx env s1 => rw [q] at g; exact fun m' σ' H' l r' _ => g m' H' .non l r' .non
  | rt d s1 => rw [q] at g; exact g
  | ex e env s1 => rw [q] at g; exact fun m' σ' H' c dd l r' _ x => g m' H' c dd l r' x
  | bk env s1 => rw [q] at g; exact g.elim
  | ct env s1 => rw [q] at g; exact g.elim
  | no => rw [q] at g; exact g.elim
end Mi
namespace Mi
open PySem PySem.Spec PyProof.Rows L2
/-! ### the law's end -/
theorem an_nil : ∀ (xs : List D) (s : Store) (env : Sl) (s' : Store), aNil env s = .ok xs s' → xs.length = 0 := fun xs s env s' h => by cases h; rfl
theorem an_cons {a : ME D} {r : ME (List D)} {n : Nat} (h : ∀ (xs : List D) (s : Store) (env : Sl) (s' : Store), r env s = .ok xs s' → xs.length = n) :
    ∀ (xs : List D) (s : Store) (env : Sl) (s' : Store), aCons a r env s = .ok xs s' → xs.length = n + 1 := fun xs s env s' e => by
  unfold aCons at e
  cases q : a env s with
  | no => rw [q] at e; cases e
  | ex x s1 => rw [q] at e; cases e
  | ok x s1 =>
    rw [q] at e
    simp only [R.bind_ok] at e
    cases q2 : r env s1 with
    | no => rw [q2] at e; cases e
    | ex x s2 => rw [q2] at e; cases e
    | ok ys s2 =>
      rw [q2] at e
      simp only [R.bind_ok] at e
      have z := h ys s1 env s2 q2
      cases e
      rw [List.length_cons, z]
def dAddI : D → D → Store → Option (D × Store) := dI fun i j => some (.int (i + j))
theorem ips_add {K : PySem.W.Frag} : OpS K (ipI fun i j => i + j) dAddI := fun {mg W σ m H s x y dx dy Q} r px py g => ops_dI0 (K := K) (gv := fun i j => .int (i + j)) (fun _ _ _ _ => .int _) r px py g
theorem ips_sub {K : PySem.W.Frag} : OpS K (ipI fun i j => i - j) dSub := fun {mg W σ m H s x y dx dy Q} r px py g => ops_sub (K := K) r px py g
theorem cx_none {P : Program} {w : World} {l : List Env} {H : Hp} {s : Shared} {e : Value} {s' : Shared} (h : L2.CX P w l H s (fun _ _ _ => False) e s') : False := by
  obtain ⟨_, _, _, _, _, _, _, _, _, _, _, _, z⟩ := h
  exact z
def spLaw (K : PySem.W.Frag) : Sp := fun vs H Q _ => ∃ (a : Addr) (ns : List Int), vs = [.ref a] ∧ SqL K H a (ns.map V.int) ∧ ns.length ≤ 63 ∧ Only H ∧ ∀ H', Q (.bl true) H'
theorem law_imp {K : PySem.W.Frag} {mg : Str → Option Value} {g : List D → Store → R D} (h : ∀ ns : List Int, ns.length ≤ 63 → ∃ s, g [.fl (ns.map D.int)] [] = .ok (.bl true) s) :
    ∀ vs H Q E, spLaw K vs H Q E → spM K mg 1 g vs H Q E := fun vs H Q E ⟨a, ns, e, hS, hl, hO, q⟩ => by
  subst e
  refine ⟨rfl, [], [], [.fl (ns.map D.int)], ⟨rfl, List.nodup_nil, fun l a c h => by simp at h⟩, .cons (.fl (vs := ns.map V.int) ?_ (reps_ints ns)) .nil, ?_⟩
  · rcases hS with (hS | hS) | hS
    · rcases hO a with z | ⟨o, xs, z⟩
      · rw [hS] at z; cases z
      · rw [hS] at z; cases z
    · exact .inl hS
    · exact .inr hS
  · obtain ⟨s, e⟩ := h ns hl
    rw [e]
    intro m' H' v _ _ p
    cases p
    exact q H'
end Mi
namespace Mi
open PySem PySem.Spec PyProof.Rows L2
/-! ### running a mirror by simp -/
@[simp] theorem line_num : sizeLine = 16777216 := sizeLine_eq
/-- what range(n) gives -/
def rng (n : Nat) : List D := (List.range n).map fun i => .int ((0 : Int) + (i : Nat))
section
variable (env : Sl) (s : Store)
@[simp] theorem eC_eq (d : D) : eC d env s = .ok d s := rfl
@[simp] theorem eV_0 (d : D) (r : Sl) : eV 0 (some d :: r) s = .ok d s := rfl
@[simp] theorem eV_s (i : Nat) (o : Option D) (r : Sl) : eV (i + 1) (o :: r) s = eV i r s := rfl
@[simp] theorem e2_eq (g) (a b : ME D) : e2 g a b env s = (a env s).bind fun x s => (b env s).bind fun y s => R.of (g x y s) := rfl
@[simp] theorem e1_eq (g) (a : ME D) : e1 g a env s = (a env s).bind fun x s => R.of (g x s) := rfl
@[simp] theorem aNil_eq : aNil env s = .ok [] s := rfl
@[simp] theorem aCons_eq (a : ME D) (r : ME (List D)) : aCons a r env s = (a env s).bind fun x s => (r env s).bind fun xs s => .ok (x :: xs) s := rfl
@[simp] theorem eFn_eq (g) (a : ME (List D)) : eFn g a env s = (a env s).bind fun xs s => R.of (g xs s) := rfl
theorem le_line {n : Nat} (h : n ≤ 1000000) : n ≤ sizeLine := by rw [sizeLine_eq]; omega
theorem lt_line {n : Nat} (h : n ≤ 1000000) : n < sizeLine := by rw [sizeLine_eq]; omega
@[simp] theorem eTup_eq (a : ME (List D)) : eTup a env s = (a env s).bind fun xs s => if xs.length ≤ sizeLine then .ok (.tup xs) s else .no := rfl
@[simp] theorem eLst_eq (a : ME (List D)) : eLst a env s = (a env s).bind fun xs s => if xs.length ≤ sizeLine then .ok (.loc s.length) (s ++ [.lst xs]) else .no := rfl
/-- written displays -/
def arity : ME (List D) → Nat → Prop := fun a n => ∀ env s xs s', a env s = .ok xs s' → xs.length = n
theorem tup_short (xs : List D) (h : xs.length ≤ 1000000) : (if xs.length ≤ sizeLine then (R.ok (D.tup xs) s : R D) else .no) = .ok (.tup xs) s := if_pos (le_line h)
@[simp] theorem eCall_eq (g : List D → Store → R D) (a : ME (List D)) : eCall g a env s = (a env s).bind g := rfl
@[simp] theorem tV_eq (a : ME D) : tV a env s = (a env s).bind fun x s => match x with | .bl b => .ok b s | _ => .no := rfl
@[simp] theorem tAnd_eq (a b : ME Bool) : tAnd a b env s = (a env s).bind fun x s => if x then b env s else .ok false s := rfl
@[simp] theorem tOr_eq (a b : ME Bool) : tOr a b env s = (a env s).bind fun x s => if x then .ok true s else b env s := rfl
@[simp] theorem tNot_eq (a : ME Bool) : tNot a env s = (a env s).bind fun x s => .ok (!x) s := rfl
@[simp] theorem eIf_eq (c : ME Bool) (a b : ME D) : eIf c a b env s = (c env s).bind fun x s => if x then a env s else b env s := rfl
@[simp] theorem eAnd_eq (a b : ME D) : eAnd a b env s = (a env s).bind fun x s => match x with | .bl true => b env s | .bl false => .ok (.bl false) s | _ => .no := rfl
@[simp] theorem eOr_eq (a b : ME D) : eOr a b env s = (a env s).bind fun x s => match x with | .bl true => .ok (.bl true) s | .bl false => b env s | _ => .no := rfl
@[simp] theorem eNot_eq (a : ME D) : eNot a env s = (a env s).bind fun x s => match x with | .bl c => .ok (.bl !c) s | _ => .no := rfl
@[simp] theorem eChain_eq (g g') (a b c : ME D) : eChain g g' a b c env s = (a env s).bind fun x s => (b env s).bind fun y s => (R.of (g x y s)).bind fun z s => match z with
  | .bl true => (c env s).bind fun w s => R.of (g' y w s)
  | .bl false => .ok (.bl false) s
  | _ => .no := rfl
@[simp] theorem eMt_eq (T : String) (g) (a : ME D) (fs : ME (List D)) : eMt T g a fs env s = (a env s).bind fun x s => if tyOk T s x = true then (fs env s).bind fun xs s => R.of (g x xs s) else .no := rfl
@[simp] theorem eMt0_eq (T : String) (g) (a : ME D) : eMt0 T g a env s = (a env s).bind fun x s => if tyOk T s x = true then R.of (g x [] s) else .no := rfl
@[simp] theorem oNone_eq : oNone env s = .ok none s := rfl
@[simp] theorem oSome_eq (a : ME D) : oSome a env s = (a env s).bind fun x s => match x with | .int i => .ok (some i) s | _ => .no := rfl
@[simp] theorem eSl_eq (g) (a : ME D) (lo hi : ME (Option Int)) : eSl g a lo hi env s = (a env s).bind fun x s => (lo env s).bind fun l s => (hi env s).bind fun u s => R.of (g x l u s) := rfl
@[simp] theorem gN_eq (i : Nat) (d : D) : gN i d env = some (env.set i (some d)) := rfl
@[simp] theorem gsN_eq : gsN [] env = some env := rfl
@[simp] theorem gsC_eq (g) (r) (x : D) (xs : List D) : gsC g r (x :: xs) env = (g x env).bind (r xs) := rfl
@[simp] theorem gT_eq (n : Nat) (r) (xs : List D) : gT n r (.tup xs) env = if xs.length = n then r xs env else none := rfl
@[simp] theorem sNil_eq : sNil env s = .nx env s := rfl
@[simp] theorem sSeq_eq (f g : MS) : sSeq f g env s = (f env s).bind g := rfl
@[simp] theorem sSet_eq (i : Nat) (e : ME D) : sSet i e env s = (e env s).then env fun d s => .nx (env.set i (some d)) s := rfl
@[simp] theorem sAsg_eq (g) (e : ME D) : sAsg g e env s = (e env s).then env fun d s => match g d env with | some env' => .nx env' s | none => .no := rfl
@[simp] theorem sIf_eq (c : ME Bool) (f g : MS) : sIf c f g env s = (c env s).then env fun b s => if b then f env s else g env s := rfl
@[simp] theorem sRet_eq (e : ME D) : sRet e env s = (e env s).then env fun d s => .rt d s := rfl
@[simp] theorem sRetN_eq : sRetN env s = .rt .non s := rfl
@[simp] theorem sExpr_eq (e : ME D) : sExpr e env s = (e env s).then env fun _ s => .nx env s := rfl
@[simp] theorem sBrk_eq : sBrk env s = .bk env s := rfl
@[simp] theorem sCnt_eq : sCnt env s = .ct env s := rfl
@[simp] theorem sPut_eq (g) (o i e : ME D) : sPut g o i e env s = (e env s).then env fun d s => (o env s).then env fun x s => (i env s).then env fun y s => match g x y d s with
  | some s' => .nx env s'
  | none => .no := rfl
@[simp] theorem sFor_eq (it : ME Itm) (g) (b : MS) : sFor it g b env s = (it env s).then env fun i s => forL i.guard g b i.xs env s := rfl
@[simp] theorem eLc_eq (it : ME Itm) (vs g t e) : eLc it vs g t e env s = (it env s).bind fun i s => (lcL i.guard g t e (wipeE env vs) i.xs [] s).bind fun acc s => .ok (.loc s.length) (s ++ [.lst acc]) := rfl
@[simp] theorem tT_eq : tT env s = .ok true s := rfl
@[simp] theorem iSeq_eq (a : ME D) : iSeq a env s = (a env s).bind fun x s => match x with
  | .tup xs => .ok (Itm.mk xs always) s
  | .fl xs => .ok (Itm.mk xs always) s
  | .str z => .ok (Itm.mk (z.cps.toList.map fun c => .str ⟨#[c]⟩) always) s
  | .loc l => match s[l]? with
    | some (.lst xs) => .ok (Itm.mk xs fun s2 => s2[l]? = some (.lst xs)) s
    | _ => .no
  | _ => .no := rfl
noncomputable def rangeOf (x : List D) (s : Store) : R Itm := match x with
  | [.int j] => if InR j then .ok (Itm.mk (rng j.toNat) always) s else .no
  | _ => .no
@[simp] theorem iRange1_eq (a : ME (List D)) : iRange1 a env s = (a env s).bind rangeOf := (rfl)
theorem big62 : (1000000000 : Int) < 2 ^ 62 := by decide
@[simp] theorem rangeOf_int (j : Int) (h0 : 0 ≤ j) (h1 : j ≤ 1000000000) : rangeOf [.int j] s = .ok (Itm.mk (rng j.toNat) always) s :=
  if_pos ⟨Int.le_trans (by decide) h0, Int.lt_of_le_of_lt h1 big62⟩
noncomputable def rangeOf2 (x : List D) (s : Store) : R Itm := match x with
  | [.int i, .int j] => if InR i ∧ InR j then .ok (Itm.mk ((List.range (j - i).toNat).map fun k => .int (i + (k : Nat))) always) s else .no
  | _ => .no
@[simp] theorem iRange2_eq (a : ME (List D)) : iRange2 a env s = (a env s).bind rangeOf2 := (rfl)
@[simp] theorem rangeOf2_int (i j : Int) (h0 : 0 ≤ i) (h1 : i ≤ 1000000000) (h2 : 0 ≤ j) (h3 : j ≤ 1000000000) : rangeOf2 [.int i, .int j] s = .ok (Itm.mk ((List.range (j - i).toNat).map fun k => .int (i + (k : Nat))) always) s :=
  if_pos ⟨⟨Int.le_trans (by decide) h0, Int.lt_of_le_of_lt h1 big62⟩, Int.le_trans (by decide) h2, Int.lt_of_le_of_lt h3 big62⟩
@[simp] theorem wipeE_nil : wipeE env [] = env := rfl
@[simp] theorem wipeE_cons (v : Nat) (vs : List Nat) : wipeE env (v :: vs) = (wipeE env vs).set v none := rfl
@[simp] theorem forL_nil_always (g) (b : MS) : forL always g b [] env s = .nx env s := by unfold forL; simp [always]
theorem forL_cons_always (g) (b : MS) (x : D) (xs : List D) : forL always g b (x :: xs) env s = match g x env with
    | none => .no
    | some env1 => match b env1 s with
      | .nx env2 s2 => forL always g b xs env2 s2
      | .ct env2 s2 => forL always g b xs env2 s2
      | .bk env2 s2 => .nx env2 s2
      | .rt d s2 => .rt d s2
      | .ex e env2 s2 => .ex e env2 s2
      | .no => .no := by
  conv => lhs; unfold forL
  exact (if_pos trivial).trans rfl
theorem forL_nil (gd : Store → Prop) (h : gd s) (g) (b : MS) : forL gd g b [] env s = .nx env s := by unfold forL; simp [h]
theorem forL_cons (gd : Store → Prop) (h : gd s) (g) (b : MS) (x : D) (xs : List D) : forL gd g b (x :: xs) env s = match g x env with
    | none => .no
    | some env1 => match b env1 s with
      | .nx env2 s2 => forL gd g b xs env2 s2
      | .ct env2 s2 => forL gd g b xs env2 s2
      | .bk env2 s2 => .nx env2 s2
      | .rt d s2 => .rt d s2
      | .ex e env2 s2 => .ex e env2 s2
      | .no => .no := by
  conv => lhs; unfold forL
  exact (if_pos h).trans rfl
theorem lcL_nil (gd : Store → Prop) (h : gd s) (g t e) (acc : List D) : lcL gd g t e env [] acc s = .ok acc s := by unfold lcL; simp [h]
theorem lcL_cons (gd : Store → Prop) (h : gd s) (g t e) (acc : List D) (x : D) (xs : List D) : lcL gd g t e env (x :: xs) acc s = match g x env with
    | none => .no
    | some env1 => match t env1 s with
      | .ok b s1 => if b then (match e env1 s1 with
        | .ok y s2 => if acc.length < sizeLine then lcL gd g t e env xs (acc ++ [y]) s2 else .no
        | _ => .no) else lcL gd g t e env xs acc s1
      | _ => .no := by
  conv => lhs; unfold lcL
  exact (if_pos h).trans rfl
end
@[simp] theorem dI_eq (f : Int → Int → Option D) (i j : Int) (s : Store) : dI f (.int i) (.int j) s = (f i j).map fun d => (d, s) := rfl
@[simp] theorem dAdd_int (i j : Int) (s : Store) : dAdd (.int i) (.int j) s = some (.int (i + j), s) := rfl
theorem dAdd_loc {s : Store} {l k : Nat} {xs ys : List D} (h : s[l]? = some (.lst xs)) (h2 : s[k]? = some (.lst ys)) (hz : xs.length + ys.length ≤ 1000000) : dAdd (.loc l) (.loc k) s = some (.loc s.length, s ++ [.lst (xs ++ ys)]) := by
  have q := le_line hz
  simp only [dAdd, h, h2, q, if_true]
theorem dAdd_tup {s : Store} {xs ys : List D} (hz : xs.length + ys.length ≤ 1000000) : dAdd (.tup xs) (.tup ys) s = some (.tup (xs ++ ys), s) := by
  have q := le_line hz
  simp only [dAdd, q, if_true]
@[simp] theorem dSub_int (i j : Int) (s : Store) : dSub (.int i) (.int j) s = some (.int (i - j), s) := rfl
theorem dMul_int (i j : Int) (s : Store) (h : CMul i j) : dMul (.int i) (.int j) s = some (.int (i * j), s) := by simp [dMul, h]
/-- one factor is small -/
@[simp] theorem dMul_r (i j : Int) (s : Store) (h : -(2 ^ 64) < j ∧ j < 2 ^ 64) : dMul (.int i) (.int j) s = some (.int (i * j), s) := dMul_int i j s (.inr h)
theorem dMul_l (i j : Int) (s : Store) (h : -(2 ^ 64) < i ∧ i < 2 ^ 64) : dMul (.int i) (.int j) s = some (.int (i * j), s) := dMul_int i j s (.inl h)
@[simp] theorem dDiv_int (i j : Int) (s : Store) (h : 0 < j ∧ j < 1073741824) : dDiv (.int i) (.int j) s = some (.int (i / j), s) := by
  have q : CDiv i j := h
  simp [dDiv, q]
@[simp] theorem dMod_int (i j : Int) (s : Store) (h : 0 < j) : dMod (.int i) (.int j) s = some (.int (i % j), s) := by simp [dMod, h]
@[simp] theorem dPow_int (i j : Int) (s : Store) (h : 0 ≤ j ∧ j ≤ 1000000 ∧ i.natAbs < 2 ^ 64) : dPow (.int i) (.int j) s = some (.int (i ^ j.toNat), s) := by
  have q : CPow i j := h
  simp [dPow, q]
@[simp] theorem dNeg_int (i : Int) (s : Store) : dNeg (.int i) s = some (.int (-i), s) := rfl
@[simp] theorem dLt_int (i j : Int) (s : Store) : dLt (.int i) (.int j) s = some (.bl (decide (i < j)), s) := rfl
@[simp] theorem dLe_int (i j : Int) (s : Store) : dLe (.int i) (.int j) s = some (.bl (decide (i ≤ j)), s) := rfl
@[simp] theorem dGt_int (i j : Int) (s : Store) : dGt (.int i) (.int j) s = some (.bl (decide (j < i)), s) := rfl
@[simp] theorem dGe_int (i j : Int) (s : Store) : dGe (.int i) (.int j) s = some (.bl (decide (j ≤ i)), s) := rfl
@[simp] theorem dEq_int (i j : Int) (s : Store) : dEq (.int i) (.int j) s = some (.bl (decide (i = j)), s) := rfl
@[simp] theorem dNe_int (i j : Int) (s : Store) : dNe (.int i) (.int j) s = some (.bl (!decide (i = j)), s) := rfl
@[simp] theorem dEq_bl (i j : Bool) (s : Store) : dEq (.bl i) (.bl j) s = some (.bl (decide (i = j)), s) := rfl
@[simp] theorem dNe_bl (i j : Bool) (s : Store) : dNe (.bl i) (.bl j) s = some (.bl (!decide (i = j)), s) := rfl
@[simp] theorem dEq_str (i j : Str) (s : Store) : dEq (.str i) (.str j) s = some (.bl (decide (i = j)), s) := rfl
@[simp] theorem dNe_str (i j : Str) (s : Store) : dNe (.str i) (.str j) s = some (.bl (!decide (i = j)), s) := rfl
@[simp] theorem dIs_non_non (s : Store) : dIs .non .non s = some (.bl true, s) := rfl
@[simp] theorem dIs_int_non (i : Int) (s : Store) : dIs (.int i) .non s = some (.bl false, s) := rfl
@[simp] theorem dIs_bl_bl (i j : Bool) (s : Store) : dIs (.bl i) (.bl j) s = some (.bl (decide (i = j)), s) := rfl
@[simp] theorem dIs_str_non (i : Str) (s : Store) : dIs (.str i) .non s = some (.bl false, s) := rfl
@[simp] theorem dIs_tup_non (i : List D) (s : Store) : dIs (.tup i) .non s = some (.bl false, s) := rfl
@[simp] theorem dIsNot_non_non (s : Store) : dIsNot .non .non s = some (.bl false, s) := rfl
@[simp] theorem dIsNot_int_non (i : Int) (s : Store) : dIsNot (.int i) .non s = some (.bl true, s) := rfl
@[simp] theorem dIsNot_bl_bl (i j : Bool) (s : Store) : dIsNot (.bl i) (.bl j) s = some (.bl (!decide (i = j)), s) := rfl
@[simp] theorem dIsNot_str_non (i : Str) (s : Store) : dIsNot (.str i) .non s = some (.bl true, s) := rfl
@[simp] theorem dIsNot_tup_non (i : List D) (s : Store) : dIsNot (.tup i) .non s = some (.bl true, s) := rfl
@[simp] theorem dInt_int (i : Int) (s : Store) : dInt [.int i] s = some (.int i, s) := rfl
@[simp] theorem dInt_bl (i : Bool) (s : Store) : dInt [.bl i] s = some (.int (if i then 1 else 0), s) := rfl
theorem dMax2_int (i j : Int) (s : Store) : dMax2 [.int i, .int j] s = some (.int (if j > i then j else i), s) := rfl
theorem dMin2_int (i j : Int) (s : Store) : dMin2 [.int i, .int j] s = some (.int (if j < i then j else i), s) := rfl
theorem max_if (i j : Int) : (if j > i then j else i) = max i j := by
  rw [Int.max_def]; split <;> split <;> omega
theorem min_if (i j : Int) : (if j < i then j else i) = min i j := by
  rw [Int.min_def]; split <;> split <;> omega
@[simp] theorem dMax2_max (i j : Int) (s : Store) : dMax2 [.int i, .int j] s = some (.int (max i j), s) := by rw [dMax2_int, max_if]
@[simp] theorem dMin2_min (i j : Int) (s : Store) : dMin2 [.int i, .int j] s = some (.int (min i j), s) := by rw [dMin2_int, min_if]
@[simp] theorem lstOf_fl (s : Store) (xs : List D) : lstOf s (.fl xs) = some xs := rfl
theorem lstOf_loc {s : Store} {l : Nat} {xs : List D} (h : s[l]? = some (.lst xs)) : lstOf s (.loc l) = some xs := by simp [lstOf, h]
@[simp] theorem seqOf_tup (s : Store) (xs : List D) : seqOf s (.tup xs) = some xs := rfl
@[simp] theorem seqOf_fl (s : Store) (xs : List D) : seqOf s (.fl xs) = some xs := rfl
theorem seqOf_loc {s : Store} {l : Nat} {xs : List D} (h : s[l]? = some (.lst xs)) : seqOf s (.loc l) = some xs := by simp [seqOf, lstOf, h]
@[simp] theorem dLen_tup (s : Store) (xs : List D) : dLen [.tup xs] s = some (.int xs.length, s) := rfl
@[simp] theorem dLen_fl (s : Store) (xs : List D) : dLen [.fl xs] s = some (.int xs.length, s) := rfl
theorem dLen_loc {s : Store} {l : Nat} {xs : List D} (h : s[l]? = some (.lst xs)) : dLen [.loc l] s = some (.int xs.length, s) := by simp [dLen, seqOf, lstOf, h]
@[simp] theorem dTuple_tup (s : Store) (xs : List D) : dTuple [.tup xs] s = some (.tup xs, s) := rfl
theorem dTuple_loc {s : Store} {l : Nat} {xs : List D} (h : s[l]? = some (.lst xs)) : dTuple [.loc l] s = some (.tup xs, s) := by simp [dTuple, seqOf, lstOf, h]
theorem dSum_loc {s : Store} {l : Nat} {ns : List Int} (h : s[l]? = some (.lst (ns.map D.int))) : dSum [.loc l] s = some (.int ns.sum, s) := by simp [dSum, lstOf, h, intsOf_map]
theorem dIx_tup (s : Store) (xs : List D) (i : Int) : dIx (.tup xs) (.int i) s = (atI xs i).map fun d => (d, s) := rfl
theorem dIx_loc {s : Store} {l : Nat} {xs : List D} (h : s[l]? = some (.lst xs)) (i : Int) : dIx (.loc l) (.int i) s = (atI xs i).map fun d => (d, s) := by simp [dIx, seqOf, lstOf, h]
theorem atI_ofNat (xs : List D) (j : Nat) (d : D) (h : xs[j]? = some d) : atI xs (j : Int) = some d := atI_nat h
@[simp] theorem atI_zero (x : D) (xs : List D) : atI (x :: xs) 0 = some x := atI_nat (j := 0) rfl
@[simp] theorem atI_one (x y : D) (xs : List D) : atI (x :: y :: xs) 1 = some y := atI_nat (j := 1) rfl
@[simp] theorem atI_two (x y z : D) (xs : List D) : atI (x :: y :: z :: xs) 2 = some z := atI_nat (j := 2) rfl
@[simp] theorem atI_three (x y z w : D) (xs : List D) : atI (x :: y :: z :: w :: xs) 3 = some w := atI_nat (j := 3) rfl
theorem dAppend_loc {s : Store} {l : Nat} {xs : List D} (h : s[l]? = some (.lst xs)) (hz : xs.length ≤ 1000000) (y : D) : dAppend (.loc l) [y] s = some (.non, s.set l (.lst (xs ++ [y]))) := by
  have q := lt_line hz
  simp only [dAppend, h, q, if_true]
theorem dPop_loc {s : Store} {l : Nat} {xs : List D} {y : D} (h : s[l]? = some (.lst (xs ++ [y]))) : dPop (.loc l) [] s = some (y, s.set l (.lst xs)) := by simp [dPop, h]
theorem tyOk_list {s : Store} {l : Nat} {xs : List D} (h : s[l]? = some (.lst xs)) : tyOk "list" s (.loc l) = true := by simp [tyOk, h]
theorem pList_loc {s : Store} {l : Nat} {xs : List D} (h : s[l]? = some (.lst xs)) (j : Nat) (hj : j < xs.length) (z : D) : pList (.loc l) (.int j) z s = some (s.set l (.lst (xs.set j z))) := by
  have e : ixN xs.length (j : Int) = some j := by
    unfold ixN
    rw [if_pos (by omega), if_pos (by omega)]
    simp
  simp [pList, h, e]
theorem pList_zero {s : Store} {l : Nat} {x : D} {xs : List D} (h : s[l]? = some (.lst (x :: xs))) (z : D) : pList (.loc l) (.int 0) z s = some (s.set l (.lst (z :: xs))) :=
  pList_loc h 0 (by simp) z
@[simp] theorem fnM_eq (N n : Nat) (b : MS) (ds : List D) (s : Store) : fnM N n b ds s = match b (ds.map some ++ List.replicate (N - n) none) s with
  | .rt d s => .ok d s
  | .nx _ s => .ok .non s
  | .ex e _ s => .ex e s
  | _ => .no := rfl
/-! ### stores: what stays -/
/-- all places of s but p are as they were -/
def Kp (p : Nat) (s s' : Store) : Prop := s.length ≤ s'.length ∧ ∀ l, l < s.length → l ≠ p → s'[l]? = s[l]?
theorem Kp.refl (p : Nat) (s : Store) : Kp p s s := ⟨Nat.le_refl _, fun _ _ _ => rfl⟩
theorem Kp.trans {p : Nat} {s s1 s2 : Store} (a : Kp p s s1) (b : Kp p s1 s2) : Kp p s s2 :=
  ⟨Nat.le_trans a.1 b.1, fun l h n => (b.2 l (Nat.lt_of_lt_of_le h a.1) n).trans (a.2 l h n)⟩
theorem Kp.set (p : Nat) (s : Store) (c : Cell) : Kp p s (s.set p c) := ⟨by simp, fun l _ n => List.getElem?_set_ne (Ne.symm n)⟩
theorem Kp.app (p : Nat) (s r : Store) : Kp p s (s ++ r) := ⟨by simp, fun l h _ => List.getElem?_append_left h⟩
theorem Kp.get {p : Nat} {s s' : Store} (a : Kp p s s') {l : Nat} {c : Cell} (h : s[l]? = some c) (n : l ≠ p) : s'[l]? = some c := by
  rw [a.2 l (by
    rcases Nat.lt_or_ge l s.length with q | q
    · exact q
    · rw [List.getElem?_eq_none q] at h; cases h) n]
  exact h
theorem lt_of_get {s : Store} {l : Nat} {c : Cell} (h : s[l]? = some c) : l < s.length := by
  rcases Nat.lt_or_ge l s.length with q | q
  · exact q
  · rw [List.getElem?_eq_none q] at h; cases h
theorem get_new (s : Store) (c : Cell) : (s ++ [c])[s.length]? = some c := by simp
theorem get_set {s : Store} {l : Nat} {c c' : Cell} (h : s[l]? = some c) : (s.set l c')[l]? = some c' := List.getElem?_set_self (lt_of_get h)
/-! #### isinstance -/
@[simp] theorem kit_NoneType_int : kitB "NoneType" "int" = some false := by decide +kernel
@[simp] theorem kit_NoneType_bool : kitB "NoneType" "bool" = some false := by decide +kernel
@[simp] theorem kit_NoneType_str : kitB "NoneType" "str" = some false := by decide +kernel
@[simp] theorem kit_NoneType_tuple : kitB "NoneType" "tuple" = some false := by decide +kernel
@[simp] theorem kit_NoneType_list : kitB "NoneType" "list" = some false := by decide +kernel
@[simp] theorem kit_NoneType_dict : kitB "NoneType" "dict" = some false := by decide +kernel
@[simp] theorem kit_bool_int : kitB "bool" "int" = some true := by decide +kernel
@[simp] theorem kit_bool_bool : kitB "bool" "bool" = some true := by decide +kernel
@[simp] theorem kit_bool_str : kitB "bool" "str" = some false := by decide +kernel
@[simp] theorem kit_bool_tuple : kitB "bool" "tuple" = some false := by decide +kernel
@[simp] theorem kit_bool_list : kitB "bool" "list" = some false := by decide +kernel
@[simp] theorem kit_bool_dict : kitB "bool" "dict" = some false := by decide +kernel
@[simp] theorem kit_int_int : kitB "int" "int" = some true := by decide +kernel
@[simp] theorem kit_int_bool : kitB "int" "bool" = some false := by decide +kernel
@[simp] theorem kit_int_str : kitB "int" "str" = some false := by decide +kernel
@[simp] theorem kit_int_tuple : kitB "int" "tuple" = some false := by decide +kernel
@[simp] theorem kit_int_list : kitB "int" "list" = some false := by decide +kernel
@[simp] theorem kit_int_dict : kitB "int" "dict" = some false := by decide +kernel
@[simp] theorem kit_str_int : kitB "str" "int" = some false := by decide +kernel
@[simp] theorem kit_str_bool : kitB "str" "bool" = some false := by decide +kernel
@[simp] theorem kit_str_str : kitB "str" "str" = some true := by decide +kernel
@[simp] theorem kit_str_tuple : kitB "str" "tuple" = some false := by decide +kernel
@[simp] theorem kit_str_list : kitB "str" "list" = some false := by decide +kernel
@[simp] theorem kit_str_dict : kitB "str" "dict" = some false := by decide +kernel
@[simp] theorem kit_tuple_int : kitB "tuple" "int" = some false := by decide +kernel
@[simp] theorem kit_tuple_bool : kitB "tuple" "bool" = some false := by decide +kernel
@[simp] theorem kit_tuple_str : kitB "tuple" "str" = some false := by decide +kernel
@[simp] theorem kit_tuple_tuple : kitB "tuple" "tuple" = some true := by decide +kernel
@[simp] theorem kit_tuple_list : kitB "tuple" "list" = some false := by decide +kernel
@[simp] theorem kit_tuple_dict : kitB "tuple" "dict" = some false := by decide +kernel
@[simp] theorem kit_list_int : kitB "list" "int" = some false := by decide +kernel
@[simp] theorem kit_list_bool : kitB "list" "bool" = some false := by decide +kernel
@[simp] theorem kit_list_str : kitB "list" "str" = some false := by decide +kernel
@[simp] theorem kit_list_tuple : kitB "list" "tuple" = some false := by decide +kernel
@[simp] theorem kit_list_list : kitB "list" "list" = some true := by decide +kernel
@[simp] theorem kit_list_dict : kitB "list" "dict" = some false := by decide +kernel
@[simp] theorem kit_dict_int : kitB "dict" "int" = some false := by decide +kernel
@[simp] theorem kit_dict_bool : kitB "dict" "bool" = some false := by decide +kernel
@[simp] theorem kit_dict_str : kitB "dict" "str" = some false := by decide +kernel
@[simp] theorem kit_dict_tuple : kitB "dict" "tuple" = some false := by decide +kernel
@[simp] theorem kit_dict_list : kitB "dict" "list" = some false := by decide +kernel
@[simp] theorem kit_dict_dict : kitB "dict" "dict" = some true := by decide +kernel
@[simp] theorem dIsi_eq (T : String) (x : D) (s : Store) : dIsi T x s = (tyN s x).bind fun t => (kitB t T).map fun b => (.bl b, s) := rfl
@[simp] theorem tyN_non (s : Store) : tyN s .non = some "NoneType" := rfl
@[simp] theorem tyN_bl (s : Store) (b : Bool) : tyN s (.bl b) = some "bool" := rfl
@[simp] theorem tyN_int (s : Store) (b : Int) : tyN s (.int b) = some "int" := rfl
@[simp] theorem tyN_str (s : Store) (b : Str) : tyN s (.str b) = some "str" := rfl
@[simp] theorem tyN_tup (s : Store) (b : List D) : tyN s (.tup b) = some "tuple" := rfl
theorem tyN_lst {s : Store} {l : Nat} {xs : List D} (h : s[l]? = some (.lst xs)) : tyN s (.loc l) = some "list" := by simp [tyN, h]
/-! ### loops by what holds between the turns -/
/-- a call's end -/
def Rets {α : Type} (P : α → Store → Prop) : R α → Prop
  | .ok d s => P d s
  | _ => False
@[simp] theorem Rets_ok {α : Type} (P : α → Store → Prop) (d : α) (s : Store) : Rets P (.ok d s) = P d s := rfl
@[simp] theorem Rets_no {α : Type} (P : α → Store → Prop) : Rets P .no = False := rfl
@[simp] theorem Rets_ex {α : Type} (P : α → Store → Prop) (e : Ex) (s : Store) : Rets P (.ex e s) = False := rfl
theorem Rets.out {α : Type} {P : α → Store → Prop} {r : R α} (h : Rets P r) : ∃ d s, r = .ok d s ∧ P d s := by
  cases r with
  | ok d s => exact ⟨d, s, rfl, h⟩
  | ex e s => exact h.elim
  | no => exact h.elim
/-- what a turn's end asks: I of the next turn, Q of leaving -/
def Turns (I : Sl → Store → Prop) (Q : RS → Prop) : RS → Prop
  | .nx env s => I env s
  | .ct env s => I env s
  | .bk env s => Q (.nx env s)
  | .rt d s => Q (.rt d s)
  | .ex e env s => Q (.ex e env s)
  | .no => False
section
variable (I : Sl → Store → Prop) (Q : RS → Prop) (env : Sl) (s : Store)
@[simp] theorem Turns_nx : Turns I Q (.nx env s) = I env s := rfl
@[simp] theorem Turns_ct : Turns I Q (.ct env s) = I env s := rfl
@[simp] theorem Turns_bk : Turns I Q (.bk env s) = Q (.nx env s) := rfl
@[simp] theorem Turns_rt (d : D) : Turns I Q (.rt d s) = Q (.rt d s) := rfl
@[simp] theorem Turns_ex (e : Ex) : Turns I Q (.ex e env s) = Q (.ex e env s) := rfl
@[simp] theorem Turns_no : Turns I Q .no = False := rfl
end
/-- store the item, run the body -/
def turn (g : D → Sl → Option Sl) (b : MS) (x : D) : MS := fun env s => match g x env with
  | none => .no
  | some env1 => b env1 s
@[simp] theorem turn_gN (i : Nat) (b : MS) (x : D) (env : Sl) (s : Store) : turn (gN i) b x env s = b (env.set i (some x)) s := rfl
@[simp] theorem turn_gT (n : Nat) (r) (b : MS) (xs : List D) (env : Sl) (s : Store) : turn (gT n r) b (.tup xs) env s = match (if xs.length = n then r xs env else none) with
  | none => .no
  | some env1 => b env1 s := rfl
theorem forL_rule {gd : Store → Prop} {g : D → Sl → Option Sl} {b : MS} (I : List D → Sl → Store → Prop) (Q : RS → Prop) (hg : ∀ xs env s, I xs env s → gd s)
    (hs : ∀ x xs env s, I (x :: xs) env s → Turns (I xs) Q (turn g b x env s)) (he : ∀ env s, I [] env s → Q (.nx env s)) : ∀ {xs : List D} {env : Sl} {s : Store}, I xs env s → Q (forL gd g b xs env s) := by
  intro xs
  induction xs with
  | nil => intro env s h; rw [forL_nil env s gd (hg _ _ _ h)]; exact he env s h
  | cons x xs ih =>
    intro env s h
    rw [forL_cons env s gd (hg _ _ _ h)]
    have h1 := hs x xs env s h
    unfold turn at h1
    cases e1 : g x env with
    | none => rw [e1] at h1; exact h1.elim
    | some env1 =>
      rw [e1] at h1
      dsimp only at h1 ⊢
      cases q : b env1 s with
      | nx env2 s2 => rw [q] at h1; exact ih h1
      | ct env2 s2 => rw [q] at h1; exact ih h1
      | bk env2 s2 => rw [q] at h1; exact h1
      | rt d s2 => rw [q] at h1; exact h1
      | ex e env2 s2 => rw [q] at h1; exact h1
      | no => rw [q] at h1; exact h1.elim
/-- a loop that runs through -/
theorem forL_thru {gd : Store → Prop} {g : D → Sl → Option Sl} {b : MS} (I : List D → Sl → Store → Prop) (hg : ∀ xs env s, I xs env s → gd s)
    (hs : ∀ x xs env s, I (x :: xs) env s → Turns (I xs) (fun _ => False) (turn g b x env s)) {xs : List D} {env : Sl} {s : Store} (h : I xs env s) : ∃ env' s', forL gd g b xs env s = .nx env' s' ∧ I [] env' s' :=
  forL_rule I (fun r => ∃ env' s', r = .nx env' s' ∧ I [] env' s') hg (fun x xs env s h => by
    have z := hs x xs env s h
    cases q : turn g b x env s with
    | nx env2 s2 => rw [q] at z; exact z
    | ct env2 s2 => rw [q] at z; exact z
    | bk env2 s2 => rw [q] at z; exact z.elim
    | rt d s2 => rw [q] at z; exact z.elim
    | ex e env2 s2 => rw [q] at z; exact z.elim
    | no => rw [q] at z; exact z.elim) (fun env s h => ⟨env, s, rfl, h⟩) h
/-! a loop over range(n) -/
theorem rng_drop {n i : Nat} (h : i < n) : (rng n).drop i = .int ((0 : Int) + (i : Nat)) :: (rng n).drop (i + 1) := by
  have hl : i < (rng n).length := by simpa [rng] using h
  rw [List.drop_eq_getElem_cons hl]
  simp [rng]
theorem rng_lt {n i : Nat} {x : D} {xs : List D} (e : x :: xs = (rng n).drop i) : i < n ∧ x = .int (i : Nat) ∧ xs = (rng n).drop (i + 1) := by
  have hlt : i < n := by
    rcases Nat.lt_or_ge i n with w | w
    · exact w
    · rw [List.drop_eq_nil_of_le (by simpa [rng] using w)] at e; cases e
  rw [rng_drop hlt] at e
  obtain ⟨rfl, rfl⟩ := List.cons.inj e
  exact ⟨hlt, by rw [Int.zero_add], rfl⟩
theorem rng_end {n i : Nat} (hi : i ≤ n) (e : [] = (rng n).drop i) : i = n := by
  rcases Nat.lt_or_ge i n with w | w
  · rw [rng_drop w] at e; cases e
  · omega
theorem forL_range {gd : Store → Prop} {g : D → Sl → Option Sl} {b : MS} (n : Nat) (I : Nat → Sl → Store → Prop) (Q : RS → Prop) (hg : ∀ i env s, i ≤ n → I i env s → gd s)
    (hs : ∀ i env s, i < n → I i env s → Turns (I (i + 1)) Q (turn g b (.int (i : Nat)) env s)) (he : ∀ env s, I n env s → Q (.nx env s)) {env : Sl} {s : Store} (h : I 0 env s) : Q (forL gd g b (rng n) env s) := by
  refine forL_rule (fun xs env s => ∃ i, i ≤ n ∧ xs = (rng n).drop i ∧ I i env s) Q (fun xs env s ⟨i, hi, _, q⟩ => hg i env s hi q) (fun x xs env s ⟨i, hi, e, q⟩ => ?_) (fun env s ⟨i, hi, e, q⟩ => ?_) ⟨0, Nat.zero_le _, rfl, h⟩
  · obtain ⟨hlt, rfl, rfl⟩ := rng_lt e
    have t1 := hs i env s hlt q
    cases hb : turn g b (.int (i : Nat)) env s with
    | nx env2 s2 => rw [hb] at t1; exact ⟨i + 1, hlt, rfl, t1⟩
    | ct env2 s2 => rw [hb] at t1; exact ⟨i + 1, hlt, rfl, t1⟩
    | bk env2 s2 => rw [hb] at t1; exact t1
    | rt d s2 => rw [hb] at t1; exact t1
    | ex x env2 s2 => rw [hb] at t1; exact t1
    | no => rw [hb] at t1; exact t1
  · have hlt := rng_end hi e
    subst hlt
    exact he env s q
theorem forL_rangeT {gd : Store → Prop} {g : D → Sl → Option Sl} {b : MS} (n : Nat) (I : Nat → Sl → Store → Prop) (hg : ∀ i env s, i ≤ n → I i env s → gd s)
    (hs : ∀ i env s, i < n → I i env s → Turns (I (i + 1)) (fun _ => False) (turn g b (.int (i : Nat)) env s)) {env : Sl} {s : Store} (h : I 0 env s) : ∃ env' s', forL gd g b (rng n) env s = .nx env' s' ∧ I n env' s' :=
  forL_range n I (fun r => ∃ env' s', r = .nx env' s' ∧ I n env' s') hg (fun i env s hi h => by
    have z := hs i env s hi h
    cases q : turn g b (.int (i : Nat)) env s with
    | nx env2 s2 => rw [q] at z; exact z
    | ct env2 s2 => rw [q] at z; exact z
    | bk env2 s2 => rw [q] at z; exact z.elim
    | rt d s2 => rw [q] at z; exact z.elim
    | ex e env2 s2 => rw [q] at z; exact z.elim
    | no => rw [q] at z; exact z.elim) (fun env s h => ⟨env, s, rfl, h⟩) h
/-! comprehensions -/
/-- one item: kept with its value, or not -/
def pick (g : D → Sl → Option Sl) (t : ME Bool) (e : ME D) (x : D) (env : Sl) (s : Store) : R (Option D) := match g x env with
  | none => .no
  | some env1 => (t env1 s).bind fun b s => if b then (e env1 s).bind fun y s => .ok (some y) s else .ok none s
@[simp] theorem pick_gN (i : Nat) (t : ME Bool) (e : ME D) (x : D) (env : Sl) (s : Store) : pick (gN i) t e x env s = (t (env.set i (some x)) s).bind fun b s => if b then (e (env.set i (some x)) s).bind fun y s => .ok (some y) s else .ok none s := rfl
@[simp] theorem pick_gT (n : Nat) (r) (t : ME Bool) (e : ME D) (xs : List D) (env : Sl) (s : Store) : pick (gT n r) t e (.tup xs) env s = match (if xs.length = n then r xs env else none) with
  | none => .no
  | some env1 => (t env1 s).bind fun b s => if b then (e env1 s).bind fun y s => .ok (some y) s else .ok none s := rfl
/-- what an item's end asks of the list so far -/
def Kept (I : List D → Store → Prop) (acc : List D) : R (Option D) → Prop
  | .ok (some y) s => acc.length ≤ 1000000 ∧ I (acc ++ [y]) s
  | .ok none s => I acc s
  | _ => False
@[simp] theorem Kept_some (I : List D → Store → Prop) (acc : List D) (y : D) (s : Store) : Kept I acc (.ok (some y) s) = (acc.length ≤ 1000000 ∧ I (acc ++ [y]) s) := rfl
@[simp] theorem Kept_none (I : List D → Store → Prop) (acc : List D) (s : Store) : Kept I acc (.ok none s) = I acc s := rfl
@[simp] theorem Kept_no (I : List D → Store → Prop) (acc : List D) : Kept I acc .no = False := rfl
theorem lcL_thru {gd : Store → Prop} {g : D → Sl → Option Sl} {t : ME Bool} {e : ME D} {env : Sl} (I : List D → List D → Store → Prop) (hg : ∀ xs acc s, I xs acc s → gd s)
    (hs : ∀ x xs acc s, I (x :: xs) acc s → Kept (I xs) acc (pick g t e x env s)) :
    ∀ {xs acc : List D} {s : Store}, I xs acc s → ∃ acc' s', lcL gd g t e env xs acc s = .ok acc' s' ∧ I [] acc' s' := by
  intro xs
  induction xs with
  | nil => intro acc s h; exact ⟨acc, s, lcL_nil env s gd (hg _ _ _ h) g t e acc, h⟩
  | cons x xs ih =>
    intro acc s h
    rw [lcL_cons env s gd (hg _ _ _ h)]
    have h1 := hs x xs acc s h
    unfold pick at h1
    cases e1 : g x env with
    | none => rw [e1] at h1; exact h1.elim
    | some env1 =>
      rw [e1] at h1
      dsimp only at h1 ⊢
      cases e2 : t env1 s with
      | no => rw [e2] at h1; exact h1.elim
      | ex x s => rw [e2] at h1; exact h1.elim
      | ok k s1 =>
        rw [e2] at h1
        simp only [R.bind_ok] at h1
        cases k with
        | false => simpa using ih (by simpa using h1)
        | true =>
          simp only [if_true] at h1 ⊢
          cases e3 : e env1 s1 with
          | no => rw [e3] at h1; exact h1.elim
          | ex x s => rw [e3] at h1; exact h1.elim
          | ok y s2 =>
            rw [e3] at h1
            obtain ⟨hz, h3⟩ := (show acc.length ≤ 1000000 ∧ I xs (acc ++ [y]) s2 from h1)
            have z := lt_line hz
            simp only [z, if_true]
            exact ih h3
/-- a comprehension that leaves the store as it is -/
theorem lcL_fm {β : Type} {gd : Store → Prop} {g : D → Sl → Option Sl} {t : ME Bool} {e : ME D} {env : Sl} {s : Store} (hg : gd s) (h : β → D) (f : β → Option D) :
    ∀ (xs : List β) (acc : List D), (∀ x ∈ xs, pick g t e (h x) env s = .ok (f x) s) → acc.length + xs.length ≤ 1000000 → lcL gd g t e env (xs.map h) acc s = .ok (acc ++ xs.filterMap f) s := by
  intro xs
  induction xs with
  | nil => intro acc _ _; rw [List.map_nil, lcL_nil env s gd hg]; simp
  | cons x xs ih =>
    intro acc hp hz
    rw [List.length_cons] at hz
    rw [List.map_cons, lcL_cons env s gd hg]
    have h1 := hp x (by simp)
    unfold pick at h1
    cases e1 : g (h x) env with
    | none => rw [e1] at h1; cases h1
    | some env1 =>
      rw [e1] at h1
      dsimp only at h1 ⊢
      cases e2 : t env1 s with
      | no => rw [e2] at h1; cases h1
      | ex x s => rw [e2] at h1; cases h1
      | ok k s1 =>
        rw [e2] at h1
        simp only [R.bind_ok] at h1
        cases k with
        | false =>
          simp at h1
          obtain ⟨h2, rfl⟩ := h1
          simp only [Bool.false_eq_true, if_false]
          rw [ih acc (fun y hy => hp y (by simp [hy])) (by omega), List.filterMap_cons, ← h2]
        | true =>
          simp only [if_true] at h1 ⊢
          cases e3 : e env1 s1 with
          | no => rw [e3] at h1; cases h1
          | ex x s => rw [e3] at h1; cases h1
          | ok y s2 =>
            rw [e3] at h1
            simp at h1
            obtain ⟨h2, rfl⟩ := h1
            have z : acc.length < sizeLine := lt_line (by omega)
            simp only [z, if_true]
            rw [ih (acc ++ [y]) (fun y hy => hp y (by simp [hy])) (by simp; omega), List.filterMap_cons, ← h2]
            simp
theorem lcL_map {β : Type} {gd : Store → Prop} {g : D → Sl → Option Sl} {t : ME Bool} {e : ME D} {env : Sl} {s : Store} (hg : gd s) (h : β → D) (f : β → D) (xs : List β)
    (hp : ∀ x ∈ xs, pick g t e (h x) env s = .ok (some (f x)) s) (hz : xs.length ≤ 1000000) : lcL gd g t e env (xs.map h) [] s = .ok (xs.map f) s := by
  have w := lcL_fm hg h (fun x => some (f x)) xs [] hp (by simpa using hz)
  rw [w]
  simp
theorem lcL_range {gd : Store → Prop} {g : D → Sl → Option Sl} {t : ME Bool} {e : ME D} {env : Sl} (n : Nat) (I : Nat → List D → Store → Prop) (hg : ∀ i acc s, i ≤ n → I i acc s → gd s)
    (hs : ∀ i acc s, i < n → I i acc s → Kept (I (i + 1)) acc (pick g t e (.int (i : Nat)) env s)) {acc : List D} {s : Store}
    (h : I 0 acc s) : ∃ acc' s', lcL gd g t e env (rng n) acc s = .ok acc' s' ∧ I n acc' s' := by
  obtain ⟨acc', s', h1, i, hi, e, h2⟩ := lcL_thru (gd := gd) (g := g) (t := t) (e := e) (env := env) (fun xs acc s => ∃ i, i ≤ n ∧ xs = (rng n).drop i ∧ I i acc s) (fun xs acc s ⟨i, hi, _, q⟩ => hg i acc s hi q) (fun x xs acc s ⟨i, hi, e, q⟩ => by
    obtain ⟨hlt, rfl, rfl⟩ := rng_lt e
    have z := hs i acc s hlt q
    cases hp : pick g t _ (.int (i : Nat)) env s with
    | no => rw [hp] at z; exact z
    | ex x s => rw [hp] at z; exact z
    | ok o s2 =>
      rw [hp] at z
      cases o with
      | none => exact ⟨i + 1, hlt, rfl, z⟩
      | some y => exact ⟨z.1, i + 1, hlt, rfl, z.2⟩) (xs := rng n) ⟨0, Nat.zero_le _, rfl, h⟩
  have hlt := rng_end hi e
  subst hlt
  exact ⟨acc', s', h1, h2⟩
/-- all ints -/
def Ints (xs : List D) : Prop := ∃ ns : List Int, xs = ns.map D.int
theorem cut_ints {xs : List D} (h : Ints xs) (lo hi : Option Int) : Ints (Mi.cutD xs lo hi) := by
  obtain ⟨ns, rfl⟩ := h
  unfold Mi.cutD
  exact ⟨_, by rw [← List.map_drop, ← List.map_take]⟩
theorem cut_len (xs : List D) (lo hi : Option Int) : (Mi.cutD xs lo hi).length ≤ xs.length := by
  unfold Mi.cutD
  simp
  omega
end Mi
namespace Mi
open PySem PySem.W PySem.Spec PySem.Calls PyProof.Rows L2
section
variable {prog : Program} {w : World} {A : Around} {E : Value → Shared → Prop} {s : Shared}
/-- the items of a tuple, collected -/
theorem tup_coll {t : Addr} {us : List Value} {R : List Value → Shared → Prop} (ht : IsTup s.heap t us.toArray) (hz : us.length ≤ sizeLine)
    (q : R us { s with heap := (s.heap.push (seqObj "list" #[] 0)).update s.heap.objs.size (Obj.mapSeq (· ++ us.toArray)) }) : wpAny (model prog w) A (collect (.ref t)) R E s := by
  obtain ⟨o, ho, hc, n, hd⟩ := ht
  have ho1 : (s.heap.push (seqObj "list" #[] 0)).get? t = some o := Heap.get?_push_of_some _ ho
  have hn1 : (s.heap.push (seqObj "list" #[] 0)).get? s.heap.objs.size = some (seqObj "list" #[] 0) := Heap.get?_push_size _ rfl
  have hT : (Value.type "tuple" == Value.type "tuple") = true := by rfl
  unfold collect
  refine wpAny_bind (wpAny_runValue (codeAny_builtin entry_proto_collect' ?_))
  show wpAny _ _ (do again (.builtin "list.__iadd__" ⟨[← newList [], .ref t], []⟩)) _ _ s
  refine wpAny_bind (wpAny_newList (wpAny_pure ⟨Code.quiet_builtin _ (by decide +kernel), ?_⟩))
  refine codeAny_builtin entry_list_iadd' ?_
  show wpAny _ _ (Builtin.List.listExtendWith (.ref s.heap.objs.size) (.ref t) (.ref s.heap.objs.size)) _ _ { s with heap := s.heap.push (seqObj "list" #[] 0) }
  unfold Builtin.List.listExtendWith
  refine wpAny_bind (wpAny_typeOf (T := "tuple") ⟨o, ho1, hc⟩ ?_)
  rw [if_pos (by rw [hT]; simp)]
  refine wpAny_bind (listItems_at ho1 hd (wpAny_bind (listItems_at (xs := #[]) (n := 0) hn1 rfl ?_)))
  rw [if_neg (by simp)]
  refine wpAny_bind (listUpdate_at (xs := #[]) (n := 0) hn1 rfl ?_ (Nat.zero_le _) (by rw [Array.size_append]; simp; have := sizeLine_eq; omega))
  refine wpAny_pure ?_
  refine wpAny_bind (wpAny_load (get?_update_seq hn1 _) ?_)
  have e : (((#[] : Array Value) ++ us.toArray).toList) = us := by simp
  show wpAny _ _ (pure ((#[] : Array Value) ++ us.toArray).toList) R E _
  rw [e]
  exact wpAny_pure q
/-- sorted(a tuple), by what sorts the new list -/
theorem tup_sorted {κ : _} {t : Addr} {us : List Value} {R : Value → Shared → Prop} (ht : IsTup s.heap t us.toArray) (hz : us.length ≤ sizeLine)
    (S : SortsAt prog w A.in1.in1 { s with heap := sortingHeap (copyHeap s.heap us) (s.heap.objs.size + 1) us } κ us)
    (q : R (.ref (s.heap.objs.size + 1)) { s with heap := sortedAll s.heap us (sortVals κ false us us).toArray }) : wpAny (model prog w) A (call (.builtin "sorted") [.ref t]) R E s := by
  have hs : ((s.heap.push (seqObj "list" #[] 0)).update s.heap.objs.size (Obj.mapSeq (· ++ us.toArray))).objs.size = s.heap.objs.size + 1 := by rw [Heap.size_update, size_push']
  refine call_function_entry_kw kind_sorted plain_sorted entry_sorted (args_sorted1 _) ?_
  unfold Builtin.«sorted»
  refine wpAny_bind (m := checkCount "sorted" 1 1 _) (wpAny_pure (wpAny_bind (tup_coll ht hz (wpAny_bind (wpAny_newList ?_ hz)))))
  show wpAny _ _ _ _ _ { s with heap := copyHeap s.heap us }
  rw [hs]
  refine wpAny_bind (wpAny_holding (wpAny_call_entry_kw slot_list_sort ⟨_, copyHeap_at s.heap us, rfl⟩ entry_list_sort ?body (args_list_sort _)))
  case body =>
    have b := list_sort_vals (s := { s with heap := copyHeap s.heap us }) (A := A.in1.in1) (E := E) (P := fun f s' => f = .done (.ret .none) ∧ R (.ref (s.heap.objs.size + 1)) s') (copyHeap_at s.heap us) S hz ⟨rfl, q⟩
    refine wpAny_mono b (fun f s' hf => ?_) fun _ _ e => e
    obtain ⟨rfl, hq⟩ := hf
    exact ⟨_, rfl, wpAny_pure ⟨_, rfl, hq⟩⟩
end
/-! ### sorted as a call -/
noncomputable def pyD (d : D) : PyData := (py0 d).getD .none
def rSortB (K : PySem.W.Frag) : List V → Hp → VK → Prop := fun vs H Q => ∃ (a : Addr) (bs : List (D × V)), vs = [.ref a] ∧ (SqL K H a (bs.map Prod.snd) ∨ SqT K H a (bs.map Prod.snd)) ∧ (∀ b ∈ bs, Dp K H b.2 (pyD b.1)) ∧
  AllAlike (bs.map fun b => pyD b.1) ∧ Sortable (bs.map fun b => pyD b.1) ∧ (∀ b ∈ bs, (pyD b.1).depth ≤ 60) ∧ ∀ p, H p = none → Q (.ref p) (upd H p (.lst ((bs.mergeSort (dataLe false fun b => pyD b.1)).map Prod.snd)))
theorem each_vals : ∀ {bs : List (D × V)} {us : List Value}, Vals (bs.map Prod.snd) us → EachIs (fun u b => RelV b.2 u) us bs
  | [], _, .nil => .nil
  | _ :: bs, _, .cons r t => .cons r (each_vals (bs := bs) t)
theorem vals_each : ∀ {bs : List (D × V)} {us : List Value}, EachIs (fun u b => RelV b.2 u) us bs → Vals (bs.map Prod.snd) us
  | [], _, .nil => .nil
  | _ :: bs, _, .cons r t => .cons r (vals_each (bs := bs) t)
theorem each_dp {X : Cx} {pins : List (Addr × Obj)} {σ : L2.St} {H : Hp} {s : Shared} (I : Inv X pins σ H s) : ∀ {bs : List (D × V)} {us : List Value}, (∀ b ∈ bs, Dp X.K H b.2 (pyD b.1)) → EachIs (fun u b => RelV b.2 u) us bs → EachIs (fun u b => ∃ as, Reads s.heap u (pyD b.1) as) us bs
  | [], _, _, .nil => .nil
  | b :: bs, _, h, .cons r t => .cons (Dp.reads I _ _ _ (h b (by simp)) r) (each_dp I (fun z hz => h z (by simp [hz])) t)
theorem cr_sortedB {X : Cx} (hu : X.A.units + 64 < cLine) : CallR X (.builtin "sorted") (rSortB X.K) := by
  intro pins s σ H vs us Q I r h
  obtain ⟨a, bs, rfl, hs, hd, hal, hk, hdep, q⟩ := h
  rw [Vals.ref1 r]
  have fin : ∀ (its out : List Value), its.length = bs.length → bs.length ≤ sizeLine → EachIs (fun u b => RelV b.2 u) out (bs.mergeSort (dataLe false fun b => pyD b.1)) → out.length = bs.length →
      ∃ v H', Inv X pins σ H' { s with heap := sortedAll s.heap its out.toArray } ∧ RelV v (Value.ref (s.heap.objs.size + 1)) ∧ Q v H' := fun its out h1 h2 h3 h4 => by
    obtain ⟨n, hn⟩ := sortedAll_at s.heap its out.toArray
    exact ⟨.ref _, upd H (s.heap.objs.size + 1) (.lst ((bs.mergeSort (dataLe false fun b => pyD b.1)).map Prod.snd)), I.laid (t' := s.toks) (fun _ _ => sortedAll_old) (Nat.le_succ _) ⟨by rw [List.length_map, List.length_mergeSort]; exact h2, out, n, vals_each h3, hn⟩, rfl, q _ (I.hok.fresh (Nat.le_succ _))⟩
  rcases hs with hs | hs
  · obtain ⟨its, rv, hl, hz⟩ := I.list hs
    have hL : bs.length ≤ sizeLine := by simpa using hz
    have e1 := each_vals rv
    refine sorted_data hl.isList e1 (each_dp I hd e1) hal hk hL (fun b hb => by have := hdep b hb; omega) fun out h1 h2 => ?_
    exact fin its out e1.length hL h2 h1
  · obtain ⟨its, rv, hl, hz⟩ := I.tuple hs
    have hL : bs.length ≤ sizeLine := by simpa using hz
    have e1 := each_vals rv
    have er := (each_dp I hd e1).mono fun _ _ ⟨as, z⟩ => (⟨as, PyProof.Rows.Reads.keeps (fun _ _ => sorting_copy_old) z⟩ : ∃ as, Reads (sortingHeap (copyHeap s.heap its) (s.heap.objs.size + 1) its) _ _ as)
    refine tup_sorted hl (by rw [e1.length]; exact hL) (SortsAt.data (A := X.A.in1.in1) (s := { s with heap := sortingHeap (copyHeap s.heap its) (s.heap.objs.size + 1) its }) (each_map (R := fun v d => ∃ as, Reads (sortingHeap (copyHeap s.heap its) (s.heap.objs.size + 1) its) v d as) (fun b : D × V => pyD b.1) er) hal hk (bound_map (enc := fun b : D × V => pyD b.1) (bs := bs) fun b hb => by have := hdep b hb; show X.A.units + 1 + 1 + (pyD b.1).depth < cLine; omega)) ?_
    exact fin its _ e1.length hL (sortVals_data false e1 er hal) (by rw [sortVals_length false rfl]; exact e1.length)
/-! ### its mirror -/
def sortOk (xs : List D) : Prop := (∀ d ∈ xs, (py0 d).isSome = true ∧ (pyD d).depth ≤ 60) ∧ AllAlike (xs.map pyD) ∧ Sortable (xs.map pyD)
noncomputable def sortD (xs : List D) : List D := xs.mergeSort (dataLe false pyD)
open Classical in
noncomputable def dSorted : List D → Store → Option (D × Store)
  | [x], s => (seqOf s x).bind fun xs => if sortOk xs then some (.loc s.length, s ++ [.lst (sortD xs)]) else none
  | _, _ => none
theorem zip_map1 {K : PySem.W.Frag} {m : List Addr} {H : Hp} : ∀ {xs : List D} {vs : List V}, Reps K m H xs vs → (xs.zip vs).map Prod.fst = xs ∧ (xs.zip vs).map Prod.snd = vs ∧ ∀ b ∈ xs.zip vs, Rep K m H b.1 b.2
  | [], _, .nil => ⟨rfl, rfl, fun _ h => by cases h⟩
  | x :: xs, _, .cons h r => by
    obtain ⟨a, b, c⟩ := zip_map1 r
    exact ⟨by simp [a], by simp [b], fun z hz => by
      rcases List.mem_cons.mp hz with e | e
      · rw [e]; exact h
      · exact c z e⟩
theorem reps_map {K : PySem.W.Frag} {m : List Addr} {H : Hp} : ∀ {bs : List (D × V)}, (∀ b ∈ bs, Rep K m H b.1 b.2) → Reps K m H (bs.map Prod.fst) (bs.map Prod.snd)
  | [], _ => .nil
  | b :: bs, h => .cons (h b (by simp)) (reps_map fun z hz => h z (by simp [hz]))
theorem fns_sorted {K : PySem.W.Frag} : FnS K (rSortB K) dSorted := by
  intro mg W σ m H s xs ds Q r p g
  unfold dSorted at g
  split at g
  · obtain ⟨v, rfl, h⟩ := reps1 p
    rename_i x
    cases q : seqOf s x with
    | none => rw [q] at g; exact g.elim
    | some ys =>
      rw [q] at g
      simp only [Option.bind_some] at g
      split at g
      · rename_i ok
        have g' : G K mg (Rep K) W σ m H Q (.ok (.loc s.length) (s ++ [.lst (sortD ys)])) := g
        obtain ⟨a, vs, rfl, hq, rr⟩ := seqOf_sq r h q
        obtain ⟨z1, z2, z3⟩ := zip_map1 rr
        have e1 : ((ys.zip vs).map fun b => pyD b.1) = ys.map pyD := by
          conv => rhs; rw [← z1, List.map_map]
          rfl
        have z4 : ∀ b ∈ ys.zip vs, b.1 ∈ ys := fun b hb => by
          have := List.mem_map.mpr ⟨b, hb, (rfl : b.1 = b.1)⟩
          rw [z1] at this
          exact this
        refine ⟨a, ys.zip vs, rfl, by rw [z2]; exact hq, fun b hb => ?_, by rw [e1]; exact ok.2.1, by rw [e1]; exact ok.2.2, fun b hb => (ok.1 _ (z4 b hb)).2, fun l hl => ?_⟩
        · obtain ⟨w1, _⟩ := ok.1 _ (z4 b hb)
          obtain ⟨pd, hp⟩ := Option.isSome_iff_exists.mp w1
          have := py0_dp (z3 b hb) hp
          unfold pyD
          rw [hp]
          exact this
        · have e2 : sortD ys = ((ys.zip vs).mergeSort (dataLe false fun b => pyD b.1)).map Prod.fst := by
            rw [List.map_mergeSort (r := dataLe false fun b : D × V => pyD b.1) (s := dataLe false pyD) (fun _ _ _ _ => rfl), z1]
            rfl
          rw [e2] at g'
          refine g' (m ++ [l]) _ _ (le_more r hl) (rel_newlist r hl (reps_map fun b hb => z3 b ?_)) (.loc (len_get r))
          exact (List.mergeSort_perm _ _).mem_iff.mp hb
      · exact g.elim
  · exact g.elim
end Mi
namespace HT
open PySem PySem.Spec PyProof.Rows
section
variable {prog : Program} {w : World} {A : Around} {E : Value → Shared → Prop} {s : Shared}
theorem rev_pick (xs : Array Value) : ((List.range xs.size).filterMap fun (m : Nat) => xs[((xs.size : Int) - 1 + (m : Int) * (-1)).toNat]?).toArray = xs.toList.reverse.toArray := by
  have q := PySem.W.krv_pick xs
  unfold slicePick at q
  rw [PySem.W.krv_bounds] at q
  have q' : ((sliceRange ((xs.size : Int) - 1) (-1) (-1)).filterMap (xs[·]?)).toArray = xs.toList.reverse.toArray := q
  rw [PySem.W.krv_sliceRange, List.filterMap_map] at q'
  rw [← q']
  refine congrArg List.toArray (congrArg (fun f => List.filterMap f (List.range xs.size)) (funext fun m => ?_))
  show xs[_]? = xs[_]?
  refine congrArg (fun i : Nat => xs[i]?) ?_
  show ((xs.size : Int) - 1 + (m : Int) * (-1)).toNat = xs.size - 1 - m
  omega
theorem sliced_back {sl : Addr} {vl vu vs : Value} {n : Nat} {R : Int × Int × Nat → Shared → Prop} (hs : s.heap.IsSliceOf sl vl vu vs) (pl : IsPart vl none) (pu : IsPart vu none) (ps : IsPart vs (some (-1)))
    (q : R ((n : Int) - 1, -1, n) s) : wpAny (model prog w) A (Builtin.Slice.sliceApplied (.ref sl) (pure (n : Int))) R E s := by
  obtain ⟨os, hos, hcs, hds⟩ := id hs
  have e : Builtin.Slice.slicePlaces ((n : Int) - 1) (-1) (-1) = n := by
    unfold Builtin.Slice.slicePlaces
    rw [if_neg (by omega)]
    by_cases c : (n : Int) - 1 > -1
    · rw [if_pos c]
      simp
    · rw [if_neg c]
      omega
  unfold Builtin.Slice.sliceApplied Builtin.Slice.sliceFields
  refine wpAny_bind (wpAny_bind (wpAny_field hos hds (x := vl) rfl (wpAny_bind (wpAny_field hos hds (x := vu) rfl (wpAny_bind (wpAny_field hos hds (x := vs) rfl (wpAny_pure ?_)))))))
  refine wpAny_bind (slicePart_ ps ?_)
  show wpAny _ _ (if ((-1 : Int) == 0) = true then _ else _) _ _ s
  rw [if_neg (by decide)]
  refine wpAny_bind (slicePart_ pl (wpAny_bind (slicePart_ pu (wpAny_bind (wpAny_pure ?_)))))
  show wpAny _ _ (pure ((n : Int) - 1, (-1 : Int), Builtin.Slice.slicePlaces ((n : Int) - 1) (-1) (-1))) _ _ s
  rw [e]
  exact wpAny_pure q
theorem tup_back {t sl : Addr} {items : Array Value} {vl vu vs : Value} {R : Value → Shared → Prop} (ht : IsTup s.heap t items) (hs : s.heap.IsSliceOf sl vl vu vs) (pl : IsPart vl none) (pu : IsPart vu none) (ps : IsPart vs (some (-1)))
    (hz : items.size ≤ sizeLine) (h : R (.ref s.heap.objs.size) { s with heap := s.heap.push { cls := .type "tuple", data := .seq items.toList.reverse.toArray } }) : wpAny (model prog w) A (getItem (.ref t) (.ref sl)) R E s := by
  have room : sizeOk (.seq items.toList.reverse.toArray) := by
    show items.toList.reverse.toArray.size ≤ sizeLine
    rw [List.size_toArray, List.length_reverse]
    exact hz
  obtain ⟨os, hos, hcs, hds⟩ := id hs
  have hT : s.TypeIs (.ref sl) "slice" := ⟨os, hos, hcs⟩
  unfold getItem
  try with_reducible refine wpAny_holding ?_
  first | refine wpAny_bind (wpAny_pure ?_) | skip
  refine wpAny_bind (wpAny_sequenceKey ht.typeIs (by decide) ?_)
  refine wpAny_bind (wpAny_callSpecial?_slot (name := Str.ofString "__getitem__") ht.typeIs PyProof.Rows.slot_tuple_getitem (wpAny_call_entry PyProof.Rows.slot_tuple_getitem ht.typeIs entry_tuple_getitem ?_ (args_tuple_getitem _ _)))
  show wpAny _ _ (Builtin.Tuple.tupleItemsOf (.ref t) >>= _) _ _ s
  refine wpAny_bind (tupleItemsOf_ ht (wpAny_bind (wpAny_typeOf hT ?_)))
  rw [if_pos (by decide)]
  refine wpAny_bind (sliced_back hs pl pu ps ?_)
  show wpAny _ _ (if ((((items.size : Int) - 1) == 0 && (-1 : Int) == 1 && items.size == items.size) = true) then _ else _) _ _ s
  rw [if_neg (by simp), rev_pick]
  first
    | exact wpAny_bind (m := Builtin.Tuple.tupleExact _) (wpAny_newObj_type (wpAny_pure ⟨_, rfl, wpAny_pure h⟩) room)
    | exact wpAny_bind (m := Builtin.Tuple.tupleExact _) (wpAny_newObj_type (wpAny_bind (wpAny_pure (wpAny_pure ⟨_, rfl, wpAny_pure h⟩))) room)
    | exact wpAny_bind (wpAny_bind (m := Builtin.Tuple.tupleExact _) (wpAny_newObj_type (wpAny_pure (wpAny_pure ⟨_, rfl, wpAny_pure h⟩)) room))
    | exact wpAny_bind (wpAny_bind (m := Builtin.Tuple.tupleExact _) (wpAny_newObj_type (wpAny_pure ⟨_, rfl, wpAny_pure h⟩) room))
end
end HT
namespace Mi
open PySem PySem.Spec PyProof.Rows L2
/-- a[::-1], a list or a tuple -/
def tBack (K : PySem.W.Frag) (te : TE) : TE := fun σ H Q => te σ H fun x H1 => ∃ a xs, x = .ref a ∧ ((SqL K H1 a xs ∧ ∀ p, H1 p = none → Q (.ref p) (upd H1 p (.lst xs.reverse))) ∨ (SqT K H1 a xs ∧ ∀ p, H1 p = none → Q (.ref p) (upd H1 p (.tup xs.reverse))))
theorem pe_back {X : Cx} {e : Expr} {te : TE} {k : Nat} {p1 p2 p3 pos : Pos} (he : PE X e te) : PE X (.Subscript e (.Slice none none (some (.UnaryOp .USub (.Constant (.int 1) k p1) p2)) p3) pos) (tBack X.K te) := by
  refine ⟨fun pins s σ H Q I h => Subscript_ (thn (he.run pins s σ H _ I h) fun v s1 ⟨x, H1, I1, r1, a, xs, ex, q⟩ => ?_)⟩
  subst ex
  cases r1
  have step : PO X (some (.UnaryOp .USub (.Constant (.int 1) k p1) p2)) (tPart (tUn (rU fun i => .int (-i)) (tC (.int 1)))) := po_some (pe_un un_neg pe_int)
  refine wpAny_Slice (thn (po_none.run pins s1 σ H1 (fun o H2 => o = none ∧ H2 = H1) I1 ⟨rfl, rfl⟩) fun vl s2 ⟨l, H2, I2, pl, el, e2⟩ => ?_)
  cases el
  cases e2
  refine thn (po_none.run pins s2 σ H1 (fun o H3 => o = none ∧ H3 = H1) I2 ⟨rfl, rfl⟩) fun vu s3 ⟨u, H3, I3, pu, eu, e3⟩ => ?_
  cases eu
  cases e3
  refine thn (step.run pins s3 σ H1 (fun o H4 => o = some (-1) ∧ H4 = H1) I3 ⟨1, rfl, -1, rfl, rfl, rfl⟩) fun vs s4 ⟨o, H4, I4, ps, eo, e4⟩ => ?_
  cases eo
  cases e4
  have I5 : Inv X pins σ H1 { s4 with heap := s4.heap.push { cls := .type "slice", data := .fields #[vl, vu, vs] } } := I4.kept (t' := s4.toks) fun b ob q => Heap.get?_push_of_some _ q
  show wpAny (model X.prog X.w) X.A (subscriptTail e (.Slice none none (some (.UnaryOp .USub (.Constant (.int 1) k p1) p2)) p3) (.ref a) (.ref s4.heap.objs.size)) (EP X pins σ Q) X.xe { s4 with heap := s4.heap.push { cls := .type "slice", data := .fields #[vl, vu, vs] } }
  rcases q with ⟨hx, q⟩ | ⟨hx, q⟩
  · obtain ⟨its, r, ht, hz⟩ := I5.list hx
    have hlen := r.length
    refine tail_any (ops := [.ref a, .ref s4.heap.objs.size]) ht.isList.typeIs (PySem.slot_list_getitem.lookup) ?_ (by with_unfolding_all rfl)
    refine wpAny_getItem_list_slice ht.isList (Heap.IsSliceOf.new _ vl vu vs) pl pu ps (by decide) ?_ (by rw [List.size_toArray]; omega)
    rw [PySem.W.krv_pick]
    refine ⟨.ref _, _, I5.laid (t' := s4.toks) (o := .lst xs.reverse) (fun b ob q => Heap.get?_push_of_some _ q) (Nat.le_refl _) ?_, rfl, q _ (I5.hok.fresh (Nat.le_refl _))⟩
    exact ⟨by rw [List.length_reverse]; exact hz, _, 0, r.reverse, Heap.get?_push_size _ rfl⟩
  · obtain ⟨its, r, ht, hz⟩ := I5.tuple hx
    have hlen := r.length
    refine tail_any (ops := [.ref a, .ref s4.heap.objs.size]) ht.typeIs (PyProof.Rows.slot_tuple_getitem.lookup) ?_ (by with_unfolding_all rfl)
    refine HT.tup_back ht (Heap.IsSliceOf.new _ vl vu vs) pl pu ps (by rw [List.size_toArray]; omega) ?_
    refine ⟨.ref _, _, I5.laid (t' := s4.toks) (o := .tup xs.reverse) (fun b ob q => Heap.get?_push_of_some _ q) (Nat.le_refl _) ?_, rfl, q _ (I5.hok.fresh (Nat.le_refl _))⟩
    exact ⟨by rw [List.length_reverse]; exact hz, _, r.reverse, IsTup.new _ _⟩
def dRev (x : D) (s : Store) : Option (D × Store) := match x with
  | .tup xs => some (.tup xs.reverse, s)
  | x => (lstOf s x).map fun xs => (.loc s.length, s ++ [.lst xs.reverse])
theorem Reps.rev {K : PySem.W.Frag} {m : List Addr} {H : Hp} {xs : List D} {vs : List V} (h : Reps K m H xs vs) : Reps K m H xs.reverse vs.reverse := by
  obtain ⟨a, b, c⟩ := zip_map1 h
  have q := reps_map (bs := (xs.zip vs).reverse) fun z hz => c z (List.mem_reverse.mp hz)
  rw [List.map_reverse, List.map_reverse, a, b] at q
  exact q
section
variable {X : Cx} {W : WX} {pos p1 p2 p3 : Pos} {k : Nat} {a : Expr} {fa : ME D}
theorem ce_back (ha : PE X a (Te X.K X.mg W fa)) : PE X (.Subscript a (.Slice none none (some (.UnaryOp .USub (.Constant (.int 1) k p1) p2)) p3) pos) (Te X.K X.mg W (e1 dRev fa)) :=
  PE.imp (pe_back ha) fun σ H Q h => Tm.bind (k := fun env x s => R.of (dRev x s)) h fun m1 H1 env x v s1 r1 E1 p g1 => by
    have gen : (∀ ys, x ≠ .tup ys) → ∃ a xs, v = .ref a ∧ ((SqL X.K H1 a xs ∧ ∀ p, H1 p = none → Q (.ref p) (upd H1 p (.lst xs.reverse))) ∨ (SqT X.K H1 a xs ∧ ∀ p, H1 p = none → Q (.ref p) (upd H1 p (.tup xs.reverse)))) := by
      intro hn
      have e : dRev x s1 = (lstOf s1 x).map fun xs => (.loc s1.length, s1 ++ [.lst xs.reverse]) := by
        cases x <;> first | rfl | exact (hn _ rfl).elim
      rw [e] at g1
      cases q : lstOf s1 x with
      | none => rw [q] at g1; exact g1.elim
      | some xs =>
        rw [q] at g1
        have g2 : G X.K X.mg (Rep X.K) W σ m1 H1 Q (.ok (.loc s1.length) (s1 ++ [.lst xs.reverse])) := g1
        obtain ⟨a, vs, rfl, hq, rr⟩ := lstOf_sq r1 p q
        exact ⟨a, vs, rfl, .inl ⟨hq, fun l hl => g2 (m1 ++ [l]) _ _ (le_more r1 hl) (rel_newlist r1 hl rr.rev) (.loc (len_get r1))⟩⟩
    cases x with
    | tup xs =>
      obtain ⟨a, vs, rfl, hq, rr⟩ := p.sqT
      have g2 : G X.K X.mg (Rep X.K) W σ m1 H1 Q (.ok (.tup xs.reverse) s1) := g1
      exact ⟨a, vs, rfl, .inr ⟨hq, fun l hl => g2 m1 _ _ (le_new hl) (r1.tmp hl) (rep_newtup hl rr.rev)⟩⟩
    | _ => exact gen (fun _ h => nomatch h)
end
end Mi
namespace Mi
open PySem PySem.Spec PyProof.Rows L2
section
variable {K : PySem.W.Frag}
theorem reps3 {m : List Addr} {H : Hp} {d e f : D} {xs : List V} (p : Reps K m H [d, e, f] xs) : ∃ u v w, xs = [u, v, w] ∧ Rep K m H d u ∧ Rep K m H e v ∧ Rep K m H f w := by
  cases p with
  | cons h r =>
    obtain ⟨v, w, rfl, h2, h3⟩ := reps2 r
    exact ⟨_, v, w, rfl, h, h2, h3⟩
/-! #### min, max of three -/
def dMax3 : List D → Store → Option (D × Store)
  | [.int i, .int j, .int k], s => some (.int (max (max i j) k), s)
  | _, _ => none
def dMin3 : List D → Store → Option (D × Store)
  | [.int i, .int j, .int k], s => some (.int (min (min i j) k), s)
  | _, _ => none
theorem nu_lt (i j : Int) : nuLt (.int i) (.int j) = some (decide (i < j)) := rfl
theorem nu_max (i j : Int) : nuMax2 (.int i) (.int j) = some (.int (max i j)) := by
  show (nuLt (.int i) (.int j)).map _ = _
  rw [nu_lt, Option.map_some]
  by_cases c : i < j
  · simp [c, Int.max_def, Int.le_of_lt c]
  · simp [c, Int.max_def]
    omega
theorem nu_min (i j : Int) : nuMin2 (.int i) (.int j) = some (.int (min i j)) := by
  show (nuLt (.int j) (.int i)).map _ = _
  rw [nu_lt, Option.map_some]
  by_cases c : j < i
  · simp [c, Int.min_def]
    omega
  · simp [c, Int.min_def]
theorem fns_max3 : FnS K (rNuC3 nuMax3) dMax3 := by
  intro mg W σ m H s xs ds Q r p g
  unfold dMax3 at g
  split at g
  · obtain ⟨u, v, w, rfl, h, h2, h3⟩ := reps3 p
    cases h; cases h2; cases h3
    exact ⟨_, _, _, _, rfl, by rw [nuMax3, nu_max, Option.bind_some, nu_max], g.now r (.int _)⟩
  · exact g.elim
theorem fns_min3 : FnS K (rNuC3 nuMin3) dMin3 := by
  intro mg W σ m H s xs ds Q r p g
  unfold dMin3 at g
  split at g
  · obtain ⟨u, v, w, rfl, h, h2, h3⟩ := reps3 p
    cases h; cases h2; cases h3
    exact ⟨_, _, _, _, rfl, by rw [nuMin3, nu_min, Option.bind_some, nu_min], g.now r (.int _)⟩
  · exact g.elim
/-! #### min, max of a list of ints -/
def dMaxL : List D → Store → Option (D × Store)
  | [x], s => (lstOf s x).bind fun xs => (intsOf xs).bind fun ns => ns.max?.map fun z => (.int z, s)
  | _, _ => none
def dMinL : List D → Store → Option (D × Store)
  | [x], s => (lstOf s x).bind fun xs => (intsOf xs).bind fun ns => ns.min?.map fun z => (.int z, s)
  | _, _ => none
theorem fns_maxL : FnS K (rMax K) dMaxL := by
  intro mg W σ m H s xs ds Q r p g
  unfold dMaxL at g
  split at g
  · obtain ⟨v, rfl, h⟩ := reps1 p
    rename_i x
    cases q : lstOf s x with
    | none => rw [q] at g; exact g.elim
    | some ys =>
      rw [q, Option.bind_some] at g
      cases q2 : intsOf ys with
      | none => rw [q2] at g; exact g.elim
      | some ns =>
        rw [q2, Option.bind_some] at g
        cases q3 : ns.max? with
        | none => rw [q3] at g; exact g.elim
        | some z =>
          rw [q3] at g
          obtain ⟨a, vs, rfl, hq, rr⟩ := lstOf_sq r h q
          rw [of_intsOf q2] at rr
          have e := rr.ints
          subst e
          obtain ⟨z1, z2⟩ := List.max?_eq_some_iff.mp q3
          refine ⟨a, ns, rfl, hq, List.length_pos_iff_exists_mem.mpr ⟨z, z1⟩, fun y h1 h2 => ?_⟩
          have e : y = z := Int.le_antisymm (z2 y h1) (h2 z z1)
          rw [e]
          exact G.now (d := D.int z) g r (.int _)
  · exact g.elim
theorem fns_minL : FnS K (rMin K) dMinL := by
  intro mg W σ m H s xs ds Q r p g
  unfold dMinL at g
  split at g
  · obtain ⟨v, rfl, h⟩ := reps1 p
    rename_i x
    cases q : lstOf s x with
    | none => rw [q] at g; exact g.elim
    | some ys =>
      rw [q, Option.bind_some] at g
      cases q2 : intsOf ys with
      | none => rw [q2] at g; exact g.elim
      | some ns =>
        rw [q2, Option.bind_some] at g
        cases q3 : ns.min? with
        | none => rw [q3] at g; exact g.elim
        | some z =>
          rw [q3] at g
          obtain ⟨a, vs, rfl, hq, rr⟩ := lstOf_sq r h q
          rw [of_intsOf q2] at rr
          have e := rr.ints
          subst e
          obtain ⟨z1, z2⟩ := List.min?_eq_some_iff.mp q3
          refine ⟨a, ns, rfl, hq, List.length_pos_iff_exists_mem.mpr ⟨z, z1⟩, fun y h1 h2 => ?_⟩
          have e : y = z := Int.le_antisymm (h2 z z1) (z2 y h1)
          rw [e]
          exact G.now (d := D.int z) g r (.int _)
  · exact g.elim
end
end Mi
namespace Mi
open PySem PySem.Spec PyProof.Rows L2
/-! ### a while by an invariant and a measure -/
theorem whileN_more {c : ME Bool} {b : MS} : ∀ {n : Nat} {env : Sl} {s : Store}, whileN c b n env s ≠ .no → whileN c b (n + 1) env s = whileN c b n env s := by
  intro n
  induction n with
  | zero => intro env s h; exact (h rfl).elim
  | succ n ih =>
    intro env s h
    unfold whileN at h ⊢
    cases e : c env s with
    | no => rfl
    | ex x s1 => rfl
    | ok k s1 =>
      rw [e] at h
      cases k with
      | false => rfl
      | true =>
        simp only [R.then, if_true] at h ⊢
        cases e2 : b env s1 with
        | nx env2 s2 => rw [e2] at h; exact ih h
        | ct env2 s2 => rw [e2] at h; exact ih h
        | bk env2 s2 => rfl
        | rt d s2 => rfl
        | ex x env2 s2 => rfl
        | no => rfl
theorem whileN_add {c : ME Bool} {b : MS} {n : Nat} {env : Sl} {s : Store} (h : whileN c b n env s ≠ .no) : ∀ k, whileN c b (n + k) env s = whileN c b n env s
  | 0 => rfl
  | k + 1 => by
    have q := whileN_add h k
    rw [← q] at h
    rw [← Nat.add_assoc, whileN_more h, q]
theorem whileN_one {c : ME Bool} {b : MS} {n m : Nat} {env : Sl} {s : Store} (h : whileN c b n env s ≠ .no) (h2 : whileN c b m env s ≠ .no) : whileN c b n env s = whileN c b m env s := by
  rw [← whileN_add h m, ← whileN_add h2 n, Nat.add_comm]
theorem sWhile_of {c : ME Bool} {b : MS} {n : Nat} {env : Sl} {s : Store} (h : whileN c b n env s ≠ .no) : sWhile c b env s = whileN c b n env s := by
  have z : ∃ n, whileN c b n env s ≠ .no := ⟨n, h⟩
  unfold sWhile
  rw [dif_pos z]
  exact whileN_one (Classical.choose_spec z) h
/-- one turn's promise -/
theorem while_rule {c : ME Bool} {b : MS} (I : Nat → Sl → Store → Prop) (Q : RS → Prop) (no : ¬ Q .no)
    (hs : ∀ n env s, I n env s → (∃ s', c env s = .ok false s' ∧ Q (.nx env s')) ∨ (∃ s', c env s = .ok true s' ∧ Turns (fun env s => ∃ m, m < n ∧ I m env s) Q (b env s'))) {n : Nat} {env : Sl} {s : Store} (h : I n env s) : Q (sWhile c b env s) := by
  have key : ∀ n env s, I n env s → ∃ k, Q (whileN c b k env s) := by
    intro n
    induction n using Nat.strongRecOn with
    | ind n ih =>
      intro env s h
      rcases hs n env s h with ⟨s', e, q⟩ | ⟨s', e, q⟩
      · refine ⟨1, ?_⟩
        unfold whileN
        rw [e]
        exact q
      · cases e2 : b env s' with
        | nx env2 s2 =>
          rw [e2] at q
          obtain ⟨m, hm, hi⟩ := q
          obtain ⟨k, hk⟩ := ih m hm env2 s2 hi
          refine ⟨k + 1, ?_⟩
          unfold whileN
          simp only [e, R.then, if_true, e2]
          exact hk
        | ct env2 s2 =>
          rw [e2] at q
          obtain ⟨m, hm, hi⟩ := q
          obtain ⟨k, hk⟩ := ih m hm env2 s2 hi
          refine ⟨k + 1, ?_⟩
          unfold whileN
          simp only [e, R.then, if_true, e2]
          exact hk
        | bk env2 s2 =>
          rw [e2] at q
          refine ⟨1, ?_⟩
          unfold whileN
          simp only [e, R.then, if_true, e2]
          exact q
        | rt d s2 =>
          rw [e2] at q
          refine ⟨1, ?_⟩
          unfold whileN
          simp only [e, R.then, if_true, e2]
          exact q
        | ex x env2 s2 =>
          rw [e2] at q
          refine ⟨1, ?_⟩
          unfold whileN
          simp only [e, R.then, if_true, e2]
          exact q
        | no => rw [e2] at q; exact q.elim
  obtain ⟨k, hk⟩ := key n env s h
  have nn : whileN c b k env s ≠ .no := fun e => no (e ▸ hk)
  rw [sWhile_of nn]
  exact hk
/-! ### name op= e -/
@[simp] theorem sAug_eq (i : Nat) (g : D → D → Store → Option (D × Store)) (e : ME D) (env : Sl) (s : Store) : sAug i g e env s = match env[i]? with
  | some (some x) => (e env s).then env fun y s => match g x y s with
    | some (z, s') => .nx (env.set i (some z)) s'
    | none => .no
  | _ => .no := rfl
@[simp] theorem dAddI_int (i j : Int) (s : Store) : dAddI (.int i) (.int j) s = some (.int (i + j), s) := rfl
/-! ### a value's truth -/
open Classical in
noncomputable def dTru (s : Store) : D → Option Bool
  | .non => some false
  | .bl b => some b
  | .int i => some (i != 0)
  | .str y => if y.length ≤ sizeLine then some ((y.length : Int) != 0) else none
  | .tup xs => some (!xs.isEmpty)
  | .fl xs => some (!xs.isEmpty)
  | .loc l => match s[l]? with
    | some (.lst xs) => some (!xs.isEmpty)
    | some (.dic ks) => some (!ks.isEmpty)
    | none => none
  | .exv _ _ _ _ => none
theorem reps_empty {K : PySem.W.Frag} {m : List Addr} {H : Hp} {xs : List D} {vs : List V} (h : Reps K m H xs vs) : xs.isEmpty = vs.isEmpty := by
  cases h <;> rfl
theorem repk_empty {K : PySem.W.Frag} {m : List Addr} {H : Hp} {xs : List (Key × D)} {vs : List (Key × V)} (h : RepK K m H xs vs) : xs.isEmpty = vs.isEmpty := by
  cases h <;> rfl
theorem dTru_ok {K : PySem.W.Frag} {m : List Addr} {H : Hp} {s : Store} (r : Rel K m H s) {d : D} {v : V} {k : Bool} (p : Rep K m H d v) (e : dTru s d = some k) : TruV K v H k := by
  cases p with
  | non => cases e; rfl
  | bl b => cases e; rfl
  | int i => cases e; rfl
  | str y =>
    by_cases hz : y.length ≤ sizeLine
    · simp only [dTru, if_pos hz] at e
      cases e
      exact ⟨hz, rfl⟩
    · simp only [dTru, if_neg hz] at e
      cases e
  | tup h q => cases e; exact .inr (.inl ⟨_, h, by rw [reps_empty q]⟩)
  | fl h q => cases e; exact .inl ⟨_, h.sq, by rw [reps_empty q]⟩
  | @loc l a h =>
    unfold dTru at e
    cases q : s[l]? with
    | none => simp [q] at e
    | some c =>
      cases c with
      | lst xs =>
        simp only [q] at e
        cases e
        obtain ⟨vs, q1, p1⟩ := r.list h q
        exact .inl ⟨vs, .inl (.inl q1), by rw [reps_empty p1]⟩
      | dic ks =>
        simp only [q] at e
        cases e
        obtain ⟨ws, q1, p1⟩ := r.at_ l a _ h q
        exact .inr (.inr ⟨ws, q1, by rw [repk_empty p1]⟩)
  | exv => cases e
noncomputable def tTru (a : ME D) : ME Bool := fun env s => (a env s).bind fun x s => match dTru s x with
  | some b => .ok b s
  | none => .no
section
variable {X : Cx} {W : WX} {a : Expr} {fa : ME D}
theorem ct_tru (ha : PE X a (Te X.K X.mg W fa)) (he : ∀ whole, isTrue a X.env whole = (do let v ← whole; standAt a.pos; holding [v] (truthy v)) := by intro _; rfl) : PT X a (Tt X.K X.mg W (tTru fa)) :=
  PT.imp (pt_truth ha he) fun σ H Q h => Tm.bind (k := fun _ x s => match dTru s x with | some b => R.ok b s | none => R.no) h fun m1 H1 env x v s1 r1 E1 p1 g1 => by
    cases q : dTru s1 x with
    | none => rw [q] at g1; exact g1.elim
    | some k => rw [q] at g1; exact ⟨k, dTru_ok r1 p1 q, g1.nowB r1⟩
end
@[simp] theorem tTru_eq (a : ME D) (env : Sl) (s : Store) : tTru a env s = (a env s).bind fun x s => match dTru s x with | some b => .ok b s | none => .no := rfl
@[simp] theorem dTru_bl (s : Store) (b : Bool) : dTru s (.bl b) = some b := rfl
@[simp] theorem dTru_non (s : Store) : dTru s .non = some false := rfl
@[simp] theorem dTru_tup (s : Store) (xs : List D) : dTru s (.tup xs) = some (!xs.isEmpty) := rfl
theorem dTru_loc {s : Store} {l : Nat} {xs : List D} (h : s[l]? = some (.lst xs)) : dTru s (.loc l) = some (!xs.isEmpty) := by simp [dTru, h]
/-! ### the last place -/
@[simp] theorem atI_neg1 (xs : List D) (y : D) : atI (xs ++ [y]) (-1) = some y := L2.atI_last xs y
theorem pList_last {s : Store} {l : Nat} {xs : List D} {y : D} (h : s[l]? = some (.lst (xs ++ [y]))) (z : D) : pList (.loc l) (.int (-1)) z s = some (s.set l (.lst (xs ++ [z]))) := by
  have e : ixN (xs ++ [y]).length (-1) = some xs.length := by
    unfold ixN
    simp
    omega
  have e' : ixN (xs.length + 1) (-1) = some xs.length := by simpa using e
  simp [pList, h]
  exact ⟨xs.length, e', by simp⟩
end Mi
namespace Mi
open PySem PySem.Spec PyProof.Rows L2
/-! ### raise C(e, ..), C with an __init__ that stores its parameters -/
def sRaise (c : Str) (ns : List Str) (a : ME (List D)) : MS := fun env s => (a env s).then env fun xs s => if xs.length = ns.length then .ex ⟨c, (ns.zip xs).reverse⟩ env s else .no
/-- what __init__(self, p) of one field leaves -/
def spI1 (C : Addr) (f : Str) : Sp := fun vs H Q _ => ∃ a y, vs = [.ref a, y] ∧ H a = some (exo a C none) ∧ ∀ dx, H dx = none → dx ≠ a → Q .non (upd (upd H dx (exd dx [(f, y)])) a (exo a C (some dx)))
def spI2 (C : Addr) (f g : Str) : Sp := fun vs H Q _ => ∃ a y z, vs = [.ref a, y, z] ∧ H a = some (exo a C none) ∧ ∀ dx, H dx = none → dx ≠ a → Q .non (upd (upd (upd H dx (exd dx [(f, y)])) a (exo a C (some dx))) dx (exd dx [(g, z), (f, y)]))
section
variable {P : Program} {w : World} {K : PySem.W.Frag} {mg : Str → Option Value} {base : Heap} {x qual : Str} {st : Stmt} {fi C : Addr} {fd : FuncData} {N ps : List Str} {f g : Str}
theorem okI1 (F : Fun K x qual st fi fd) (S : FnScope N ps (defScope st)) (hN : N.length = 2) (hn : ps.length = 2) (T : OexC K C) (no : PySem.W.findIn K (.ref C) f = some none)
    (hb : ∀ (cdv : Value) (A : Around) (outer : List Env) (s : Shared) (H : Hp) (E : XK), PSs (cxOf (L2.CX P w) P w K mg base N qual (defScope st) fi cdv A outer s H E) (defBody st) (tOst K f (tVar 0) (tVar 1))) : FnOk P w K mg base (L2.CX P w) 1 fi fd ps (spI1 C f) := by
  refine F.okX S (fun vs H Q E ⟨a, y, e, _⟩ => by rw [hn, e]; rfl) fun cdv A outer s H vs Q E hr ⟨a, y, e, ha, q⟩ => ⟨_, hb cdv A outer s H E, ?_⟩
  subst e
  match N, hN with
  | [n1, n2], _ => exact ⟨y, rfl, .ref a, rfl, a, C, rfl, T, no, .inl ⟨ha, fun dx h1 h2 => q dx h1 h2⟩⟩
theorem okI2 (F : Fun K x qual st fi fd) (S : FnScope N ps (defScope st)) (hN : N.length = 3) (hn : ps.length = 3) (T : OexC K C) (no : PySem.W.findIn K (.ref C) f = some none) (no2 : PySem.W.findIn K (.ref C) g = some none)
    (hb : ∀ (cdv : Value) (A : Around) (outer : List Env) (s : Shared) (H : Hp) (E : XK), PSs (cxOf (L2.CX P w) P w K mg base N qual (defScope st) fi cdv A outer s H E) (defBody st) (tSeq (tOst K f (tVar 0) (tVar 1)) (tOst K g (tVar 0) (tVar 2)))) : FnOk P w K mg base (L2.CX P w) 1 fi fd ps (spI2 C f g) := by
  refine F.okX S (fun vs H Q E ⟨a, y, z, e, _⟩ => by rw [hn, e]; rfl) fun cdv A outer s H vs Q E hr ⟨a, y, z, e, ha, q⟩ => ⟨_, hb cdv A outer s H E, ?_⟩
  subst e
  match N, hN with
  | [n1, n2, n3], _ =>
    refine ⟨y, rfl, .ref a, rfl, a, C, rfl, T, no, .inl ⟨ha, fun dx h1 h2 => ?_⟩⟩
    refine ⟨z, rfl, .ref a, rfl, a, C, rfl, T, no2, .inr ⟨dx, [(f, y)], upd_same, by rw [upd_ne h2]; exact upd_same, by simp, q dx h1 h2⟩⟩
theorem del_upd {H : Hp} {a d : Addr} {o1 o2 : HO} (ha : H a = none) (h : d ≠ a) (G : Hp) (hG : ∀ b, b ≠ a → b ≠ d → G b = H b) : upd (del G a) d o1 = upd H d o1 := by
  funext b
  by_cases e : b = d
  · rw [e, upd_same, upd_same]
  · rw [upd_ne e, upd_ne e]
    by_cases e2 : b = a
    · rw [e2, del_same, ha]
    · rw [del_ne e2, hG b e2 e]
end
section
variable {X : Cx} {W : WX} {c q : Str} {C fI : Addr} {fd : FuncData} {k : Nat} {f g x1 x2 x0 : Str} {p pos pos2 : Pos} {e e2 : Expr} {fs : ME (List D)}
theorem cs_raise1 (hc : X.calm = true) (tk : Takes X W) (gC : X.mg c = some (.ref C)) (T : OexC X.K C) (iC : PySem.W.findIn X.K (.ref C) "__init__" = some (some (.ref fI))) (tI : PySem.W.typeIn X.K (.ref fI) = some (.type "function"))
    (F : FnOk X.prog X.w X.K X.mg X.base (L2.CX X.prog X.w) 1 fI fd [x0, x1] (spI1 C f)) (hr : Room 2 X.A) (hb : Binds X.K fd [x0, x1] []) (hg : Gl X c) (ha : PA X [e] (Ta X.K X.mg W fs)) (hdb : (c == ("__debug__" : Str)) = false := by decide)
    (he : starEach [e] X.env = (false, eval e X.env) :: starEach [] X.env := by rfl) (hpl : (backTo pos (starEach [] X.env)).any (·.1) = false := by rfl) :
    PS X (.Raise (some (.Call (.Name c p) [e] [] pos)) none pos2) (Ts X.K X.mg W (sRaise c [f] fs)) :=
  PS.imp (ps_raise hc tk (pmk_oex (dvs := []) T iC tI F hr hb .nil (fun pins σ H s e s' I h => (cx_none h).elim) hg gC ha hdb he hpl)) fun Dn σ H h =>
    Ts.ofE (k := fun env (xs : List D) s => if xs.length = [f].length then RS.ex ⟨c, ([f].zip xs).reverse⟩ env s else .no) h fun m1 H1 env xs vs s1 r1 E1 p1 g1 => by
      split at g1
      · rename_i hl
        match xs, vs, p1, hl with
        | [x], [v], .cons pv .nil, _ =>
          refine ⟨by simp, fun a ha => ⟨a, v, rfl, upd_same, fun dx h1 h2 => ⟨rfl, dx, [(f, v)], upd_same, by rw [upd_ne h2]; exact upd_same, by rw [upd_ne h2] at h1; exact h1, ?_⟩⟩⟩
          have h1' : H1 dx = none := by rw [upd_ne h2] at h1; exact h1
          rw [del_upd (o2 := exo a C none) ha h2 _ fun b h3 h4 => by rw [upd_ne h3, upd_ne h4, upd_ne h3]]
          exact g1 m1 _ _ _ _ (le_new h1') (r1.tmp h1') (E1.mono (le_new h1')) ⟨gC, .inr ⟨dx, _, rfl, upd_same, r1.new_notin h1', .cons (pv.mono (le_new h1')) .nil⟩⟩
      · exact g1.elim
theorem cs_raise2 (hc : X.calm = true) (tk : Takes X W) (gC : X.mg c = some (.ref C)) (T : OexC X.K C) (iC : PySem.W.findIn X.K (.ref C) "__init__" = some (some (.ref fI))) (tI : PySem.W.typeIn X.K (.ref fI) = some (.type "function"))
    (F : FnOk X.prog X.w X.K X.mg X.base (L2.CX X.prog X.w) 1 fI fd [x0, x1, x2] (spI2 C f g)) (hr : Room 2 X.A) (hb : Binds X.K fd [x0, x1, x2] []) (hg : Gl X c) (ha : PA X [e, e2] (Ta X.K X.mg W fs)) (hdb : (c == ("__debug__" : Str)) = false := by decide)
    (he : starEach [e, e2] X.env = (false, eval e X.env) :: starEach [e2] X.env := by rfl) (hpl : (backTo pos (starEach [e2] X.env)).any (·.1) = false := by rfl) :
    PS X (.Raise (some (.Call (.Name c p) [e, e2] [] pos)) none pos2) (Ts X.K X.mg W (sRaise c [f, g] fs)) :=
  PS.imp (ps_raise hc tk (pmk_oex (dvs := []) T iC tI F hr hb .nil (fun pins σ H s e s' I h => (cx_none h).elim) hg gC ha hdb he hpl)) fun Dn σ H h =>
    Ts.ofE (k := fun env (xs : List D) s => if xs.length = [f, g].length then RS.ex ⟨c, ([f, g].zip xs).reverse⟩ env s else .no) h fun m1 H1 env xs vs s1 r1 E1 p1 g1 => by
      split at g1
      · rename_i hl
        match xs, vs, p1, hl with
        | [x, y], [v, z], .cons pv (.cons pz .nil), _ =>
          refine ⟨by simp, fun a ha => ⟨a, v, z, rfl, upd_same, fun dx h1 h2 => ⟨rfl, dx, [(g, z), (f, v)], by rw [upd_ne (Ne.symm h2)]; exact upd_same, upd_same, by rw [upd_ne h2] at h1; exact h1, ?_⟩⟩⟩
          have h1' : H1 dx = none := by rw [upd_ne h2] at h1; exact h1
          rw [del_upd (o2 := exo a C none) ha h2 _ fun b h3 h4 => by rw [upd_ne h4, upd_ne h3, upd_ne h4, upd_ne h3]]
          exact g1 m1 _ _ _ _ (le_new h1') (r1.tmp h1') (E1.mono (le_new h1')) ⟨gC, .inr ⟨dx, _, rfl, upd_same, r1.new_notin h1', .cons (pz.mono (le_new h1')) (.cons (pv.mono (le_new h1')) .nil)⟩⟩
      · exact g1.elim
end
/-! ### n.f of the exception that a suite holds -/
def eFld (g : Nat × Nat) (i : Nat) (f : Str) : ME D := fun env s => match env[i]? with
  | some (some (.exv a dd _ fs)) => if a = g.1 ∧ dd = g.2 then (match fs.lookup f with
    | some d => .ok d s
    | none => .no) else .no
  | _ => .no
theorem fld_lookup {K : PySem.W.Frag} {m : List Addr} {H : Hp} {f : Str} : ∀ {fs : List (Str × D)} {vfs : List (Str × V)} {d : D}, FldR K m H fs vfs → fs.lookup f = some d → ∃ v, vfs.lookup f = some v ∧ Rep K m H d v
  | _, _, _, .nil, e => by cases e
  | (h, x) :: fs, (_, v) :: vfs, d, .cons p r, e => by
    by_cases c : f = h
    · subst c
      simp [List.lookup] at e ⊢
      subst e
      exact p
    · have c' : (f == h) = false := by simpa using c
      simp only [List.lookup, c'] at e ⊢
      exact fld_lookup r e
section
variable {X : Cx} {W : WX} {a : Addr} {oe : Obj} {cls : Value} {d : Option Addr} {pn : List (Addr × Obj)} {pos p : Pos} {n f : Str} {i : Nat} {g : Nat × Nat}
theorem ce_fld (hX : ∃ C, cls = .ref C ∧ XfC X.K C ∧ PySem.W.findIn X.K (.ref C) f = some none) (hz : Zc cls d oe) (hf : ∃ vs, oe.data = .fields vs) (g1 : g.1 = a) (g2 : d = some g.2)
    (he : PE (X.suite a ((a, oe) :: pn)) (.Name n p) (tVar i)) (hb : attributeBase (.Name n p) f X.env (eval (.Name n p) X.env) = eval (.Name n p) X.env := by rfl) :
    PE (X.suite a ((a, oe) :: pn)) (.Attribute (.Name n p) f pos) (Te X.K X.mg W (eFld g i f)) := by
  obtain ⟨C, ec, T, hno⟩ := hX
  refine PE.imp (pe_xf T hno hz hf he hb) fun σ H Q ⟨m, env, s, r, E, q⟩ => ?_
  unfold eFld at q
  cases e1 : env[i]? with
  | none => rw [e1] at q; exact q.elim
  | some o =>
    cases o with
    | none => rw [e1] at q; exact q.elim
    | some x =>
      rw [e1] at q
      cases x with
      | exv a' dd c fs =>
        simp only at q
        split at q
        · rename_i hh
          obtain ⟨h1, h2⟩ := hh
          cases e2 : fs.lookup f with
          | none => rw [e2] at q; exact q.elim
          | some dv =>
            rw [e2] at q
            obtain ⟨v, hv, pr⟩ := E.2 i _ e1
            cases pr with
            | exv h n' rf =>
              obtain ⟨u, hu, pu⟩ := fld_lookup rf e2
              refine ⟨_, hv, by rw [h1, g1], ec, g.2, _, u, g2, by rw [← h2]; exact h, hu, ?_⟩
              exact G.now q r pu
        · exact q.elim
      | _ => exact q.elim
end
/-! ### try: body except x as n: suite -/
def clr (i : Nat) : RS → RS
  | .nx env s => .nx (env.set i none) s
  | .bk env s => .bk (env.set i none) s
  | .ct env s => .ct (env.set i none) s
  | .rt d s => .rt d s
  | .ex _ _ _ => .no
  | .no => .no
open Classical in
noncomputable def sTryAs (i : Nat) (cs : List Str) (body : MS) (suite : Nat × Nat → MS) : MS := fun env s => match body env s with
  | .ex e env2 s2 => if e.cls ∈ cs ∧ e.fs ≠ [] ∧ ∀ g : Nat × Nat, clr i (suite g (env2.set i (some (.exv g.1 g.2 e.cls e.fs))) s2) = clr i (suite (0, 0) (env2.set i (some (.exv 0 0 e.cls e.fs))) s2)
    then clr i (suite (0, 0) (env2.set i (some (.exv 0 0 e.cls e.fs))) s2) else .no
  | r => r
theorem relE_clr {K : PySem.W.Frag} {m : List Addr} {H : Hp} {env : Sl} {σ : L2.St} (E : RelE K m H env σ) (i : Nat) : RelE K m H (env.set i none) (σ.set i none) := by
  refine ⟨by simp [E.1], fun j d h => ?_⟩
  by_cases c : i = j
  · subst c
    rw [List.getElem?_set] at h
    by_cases q : i < env.length
    · rw [if_pos rfl, if_pos q] at h; cases h
    · rw [if_pos rfl, if_neg q] at h; cases h
  · rw [List.getElem?_set_ne c] at h ⊢
    exact E.2 j d h
theorem gs_clr {K : PySem.W.Frag} {mg : Str → Option Value} {W W2 : WX} {Dn : Ends} {m : List Addr} {H : Hp} {i : Nat} {r : RS} (h : GS K mg W Dn m H (clr i r)) :
    GS K mg W2 { nx := fun σ' H' => Dn.nx (σ'.set i none) H', rt := Dn.rt, bk := fun σ' H' => Dn.bk (σ'.set i none) H', ct := fun σ' H' => Dn.ct (σ'.set i none) H' } m H r := by
  cases r with
  | nx env s => exact fun m' σ' H' l r E => h m' _ H' l r (relE_clr E i)
  | bk env s => exact fun m' σ' H' l r E => h m' _ H' l r (relE_clr E i)
  | ct env s => exact fun m' σ' H' l r E => h m' _ H' l r (relE_clr E i)
  | rt d s => exact h
  | ex e env s => exact h.elim
  | no => exact h.elim
section
variable {X : Cx} {W : WX} {x n : Str} {c : Value} {i : Nat} {body suite : List Stmt} {b₀ : Stmt} {np pos pos' : Pos} {fb : MS} {fs : Nat × Nat → MS} {cs : List Str}
theorem cs_tryAs (hs : X.stack = X.env :: X.outer) (hf : X.env.frame = some X.env.locals) (hN : X.N.Nodup) (hi : X.N[i]? = some n) (hln : X.env.kindOf n = some .local) (hc : Names X x c) (tk : Takes X W)
    (hcs : ∀ k ∈ cs, ∀ cls, X.mg k = some cls → PySem.W.exmOne X.K cls c = some true)
    (hb : ∀ (W : WX) (pn : List (Addr × Obj)) (xe : Value → Shared → Prop), Takes (X.tr pn xe) W → PSs (X.tr pn xe) body (Ts X.K X.mg W fb))
    (hsu : ∀ (a : Addr) (oe : Obj) (cls : Value) (d : Option Addr) (pn : List (Addr × Obj)) (g : Nat × Nat) (k : Str), Zc cls d oe → (∃ vs, oe.data = .fields vs) → g.1 = a → d = some g.2 → k ∈ cs → X.mg k = some cls →
      PSs (X.suite a ((a, oe) :: pn)) (b₀ :: suite) (Ts X.K X.mg (fun _ _ _ _ => False) (fs g))) :
    PS X (.Try body [.ExceptHandler (some (.Name x np)) (some n) (b₀ :: suite) pos'] [] [] pos) (Ts X.K X.mg W (sTryAs i cs fb fs)) :=
  PS.imp (ps_try_as (i := i) (tb := fun W => Ts X.K X.mg W fb) (ts := fun a cls d => fun Dn σ H => ∃ (g : Nat × Nat) (k : Str), g.1 = a ∧ d = some g.2 ∧ k ∈ cs ∧ X.mg k = some cls ∧ Ts X.K X.mg (fun _ _ _ _ => False) (fs g) Dn σ H) (Wout := W) hs hf hN hi hln hc tk
    (fun W pn xe tk _ => hb W pn xe tk) (fun a oe cls d pn hz hf => ⟨fun pins s σ H Dn I ⟨g, k, h1, h2, h3, h4, h⟩ => (hsu a oe cls d pn g k hz hf h1 h2 h3 h4).run pins s σ H Dn I h⟩)) fun Dn σ H ⟨m, env, s, r, E, q⟩ => by
    refine ⟨m, env, s, r, E, ?_⟩
    unfold sTryAs at q
    cases e : fb env s with
    | ex ex env2 s2 =>
      rw [e] at q
      simp only at q
      split at q
      · rename_i hh
        obtain ⟨h1, h2, h3⟩ := hh
        intro m' σ' H' cv dd l r' E' xr
        obtain ⟨gk, hx⟩ := xr
        rcases hx with ⟨z, _⟩ | ⟨da, vfs, ed, hd, nd, rf⟩
        · exact (h2 z).elim
        · refine ⟨true, hcs _ h1 _ gk, fun _ a ha => ⟨(a, da), ex.cls, rfl, ed, h1, gk, m', _, s2, r', relE_set E' (.exv hd nd rf : Rep X.K m' H' (.exv a da ex.cls ex.fs) (.ref a)) i, ?_⟩, fun z => Bool.noConfusion z⟩
          rw [← h3 (a, da)] at q
          exact gs_clr (GS.mono l q)
      · exact q.elim
    | nx env2 s2 => rw [e] at q; exact q
    | rt d s2 => rw [e] at q; exact q
    | bk env2 s2 => rw [e] at q; exact q
    | ct env2 s2 => rw [e] at q; exact q
    | no => rw [e] at q; exact q.elim
end
/-! ### words for printed texts -/
def clsBody : Stmt → List Stmt
  | .ClassDef (body := b) .. => b
  | _ => []
section
variable {K : PySem.W.Frag} {mg : Str → Option Value} {c f k : Str} {C : Addr} {cls : Value}
theorem hcs1 (g : mg c = some (.ref C)) (te : PySem.W.exmOne K (.ref C) (.ref C) = some true) : ∀ k ∈ [c], ∀ cls, mg k = some cls → PySem.W.exmOne K cls (.ref C) = some true := fun k hk cls e => by
  rw [List.mem_singleton.mp hk, g] at e
  cases e
  exact te
theorem hxf1 (g : mg c = some (.ref C)) (xf : XfC K C) (no : PySem.W.findIn K (.ref C) f = some none) (h3 : k ∈ [c]) (h4 : mg k = some cls) : ∃ C, cls = .ref C ∧ XfC K C ∧ PySem.W.findIn K (.ref C) f = some none := by
  rw [List.mem_singleton.mp h3, g] at h4
  cases h4
  exact ⟨C, rfl, xf, no⟩
theorem exm_own (h1 : PySem.W.subIn K (.ref C) (.type "BaseException") = some true) (h2 : PySem.W.isClsIn K C = true) (h3 : PySem.W.typeIn K (.ref C) = some (.type "type")) (h4 : PySem.W.subIn K (.ref C) (.ref C) = some true) : PySem.W.exmOne K (.ref C) (.ref C) = some true := by
  have z1 : (PySem.W.subIn K (.ref C) (.type "BaseException") == some true) = true := by rw [h1] <;> rfl
  have z2 : (PySem.W.clsIn K C).isSome = true := h2
  have z3 : ((PySem.W.clsIn K C).isSome && PySem.W.typeIn K (.ref C) == some (.type "type")) = true := by rw [z2, h3] <;> rfl
  have q : (if (PySem.W.subIn K (.ref C) (.type "BaseException") == some true) = true then (if ((PySem.W.clsIn K C).isSome && PySem.W.typeIn K (.ref C) == some (.type "type")) = true then PySem.W.subIn K (.ref C) (.ref C) else none) else none) = some true := by
    rw [if_pos z1, if_pos z3, h4]
  exact q
end
end Mi
namespace Mi
open PySem PySem.Spec PyProof.Rows L2
/-! ### enumerate of a tuple -/
theorem enum_made {v : Value} {o : Obj} {Hh : Heap → Prop} (B : Begins v o Hh) :
    Meets (Builtin.«enumerate.__new__» ⟨[.type "enumerate", v], []⟩) (fun _ R s => Hh s.heap ∧
      R (.ok (.ret (.ref (s.heap.push o).objs.size))) { s with heap := (s.heap.push o).push { cls := .type "enumerate", data := .fields #[.none, .bool false, .ref s.heap.objs.size, rawInt 0, .none, .none] } }) :=
  .of_wp fun prog w A R s h => by
    obtain ⟨hp, g, d, tk, os⟩ := s
    obtain ⟨h1, h⟩ := h
    have hsub := sub_enumerate
    have it : ∀ {A' : Around} {E : Value → Shared → Prop} {Q : Value → Shared → Prop}, Q (.ref hp.objs.size) ⟨hp.push o, g, d, tk, os⟩ → wpAny (model prog w) A' (pyIter v) Q E ⟨hp, g, d, tk, os⟩ := fun q => B.iter prog w _ _ ⟨hp, g, d, tk, os⟩ _ h1 q
    wp_walk using it
    refine wpAny_stack_any fun st => wpAny_pure ?_
    split
    · rename_i c _ _ _ _ _
      cases (c == Value.type "enumerate")
      · wp_walk using it
        exact ⟨_, rfl, h⟩
      · wp_walk using it
        exact ⟨_, rfl, h⟩
    · wp_walk using it
      exact ⟨_, rfl, h⟩
section
variable {prog : Program} {w : World} {A : Around} {E : Value → Shared → Prop} {s : Shared}
theorem enum_call {v : Value} {o : Obj} {Hh : Heap → Prop} {R : Value → Shared → Prop} (B : Begins v o Hh) (h1 : Hh s.heap)
    (q : ∀ h', IsEnum h' (s.heap.objs.size + 1) s.heap.objs.size 0 .none → h'.get? s.heap.objs.size = some o → (∀ b o, s.heap.get? b = some o → h'.get? b = some o) → R (.ref (s.heap.objs.size + 1)) { s with heap := h' }) :
    wpAny (model prog w) A (call (.type "enumerate") [v]) R E s := by
  refine callType_new F.called_enumerate (by decide) (F.typeCall_enumerate_1 _) (F.newCall_enumerate_1 _) (fun obj => F.args_object_init_2 obj _) F.entry_enumerate_new (enum_made B) ⟨h1, ?_⟩
  have hz : (s.heap.push o).objs.size = s.heap.objs.size + 1 := Heap.size_push ..
  show _ ∧ _
  rw [hz]
  have he : IsEnum ((s.heap.push o).push { cls := .type "enumerate", data := .fields #[.none, .bool false, .ref s.heap.objs.size, rawInt 0, .none, .none] }) (s.heap.objs.size + 1) s.heap.objs.size 0 .none := by
    have := Heap.get?_push_size (s.heap.push o) (o := { cls := .type "enumerate", data := .fields #[.none, .bool false, .ref s.heap.objs.size, rawInt 0, .none, .none] }) rfl
    rw [hz] at this
    exact this
  exact ⟨⟨_, he, rfl⟩, q _ he (Heap.get?_push_of_some _ (Heap.get?_push_size _ B.free)) fun b o x => Heap.get?_push_of_some _ (Heap.get?_push_of_some _ x)⟩
end
def Itu (K : PySem.W.Frag) (a : Addr) : It :=
  ⟨fun i H => ∃ (xs : List V) (x : V), SqT K H a xs ∧ xs[i]? = some x, fun i H v H' => ∃ T x, v = .ref T ∧ H T = none ∧ H' = upd H T (.tup [.int (i : Nat), x]) ∧ ∀ xs, SqT K H a xs → xs[i]? = some x, fun i H => ∃ xs : List V, SqT K H a xs ∧ xs.length = i⟩
theorem turn_enumT {P : Program} {w : World} {K : PySem.W.Frag} {elts : List Expr} {kk : Nat} {tpos : Pos} (a e it : Addr) :
    Turn P w K (.Tuple elts kk tpos) (Itu K a) [e, it] e (fun i h => (∃ old, IsEnum h e it ((i : Nat) : Int) old) ∧ h.IsTupleIter it a i ∧ e ≠ it) where
  mem := by simp
  obj := fun i h st b hb => by
    obtain ⟨⟨old, he⟩, ⟨o, ho, hc, hd⟩, _⟩ := st
    rcases (by simpa using hb : b = e ∨ b = it) with z | z
    · rw [z]; exact ⟨_, he, fun v q => nomatch q⟩
    · rw [z]; exact ⟨o, ho, fun v q => by rw [hd] at q; cases q⟩
  keep := fun i h h' st k => let ⟨⟨old, he⟩, hi, hne⟩ := st; ⟨⟨old, k e (by simp) _ he⟩, hi.at fun o q => k it (by simp) o q, hne⟩
  item := by
    intro X hP hw hK hc i pins s σ H E I hf st hg
    subst hP hw hK
    obtain ⟨⟨old, he⟩, hit, hne⟩ := st
    obtain ⟨xs, x, hq, hx⟩ := hg
    obtain ⟨its, rv, p, hz⟩ := I.tuple hq
    obtain ⟨u, hu, ru⟩ := rv.get hx
    have hel : e < s.heap.objs.size := Heap.lt_size he
    have hil : it < s.heap.objs.size := by obtain ⟨_, q, _⟩ := hit; exact Heap.lt_size q
    have ait : a ≠ it := fun z => by
      obtain ⟨o1, q1, c1, _⟩ := p
      obtain ⟨o2, q2, c2, _⟩ := hit
      rw [z] at q1
      rw [q1] at q2
      cases q2
      rw [c1] at c2
      exact absurd (Value.type.inj c2) (by decide)
    have ea : e ≠ a := fun z => by
      obtain ⟨o1, q1, c1, _⟩ := p
      have he' := he
      unfold IsEnum at he'
      rw [z, q1] at he'
      cases he'
      exact absurd (Value.type.inj c1) (by decide)
    refine wpAny_pyNext_enum_itemD (Draws.tuple (A := X.A.in1) (I.ok.hd hc) it a ait its.toArray) he ⟨hit, p⟩ (by have := (List.getElem?_eq_some_iff.mp hu).1; simpa using this) hne (by simp [hne, ea]) fun x' h' tk hP ho hst' hT hsz hk => ?_
    have ex : x' = u := by
      have hP' : its.toArray[i]? = some x' := hP
      rw [List.getElem?_toArray, hu] at hP'
      cases hP'
      rfl
    subst ex
    refine ⟨_, rfl, wpAny_letOwnedTupleGo_enum (s := { s with heap := h', toks := tk + 1 }) ho fun h'' he' sb => ?_⟩
    have hT2 : h''.get? s.heap.objs.size = some { cls := .type "tuple", data := .seq #[.int i tk, x'] } := (sb.2 _ (Nat.ne_of_gt hel)).trans hT
    have new : ObjOk X.prog X.w (upd H s.heap.objs.size (.tup [.int (i : Nat), x])) h'' s.heap.objs.size (.tup [.int (i : Nat), x]) :=
      ⟨by show 2 ≤ sizeLine; decide, [.int i tk, x'], .cons ⟨_, rfl⟩ (.cons ru .nil), ⟨_, hT2, rfl, _, rfl⟩⟩
    have I1 : Inv X pins σ (upd H s.heap.objs.size (.tup [.int (i : Nat), x])) { s with heap := h'', toks := tk + 1 } :=
      I.turnedNew (ch := [e, it]) (fun b ob hb q => (sb.2 b (fun z => hb (by simp [z]))).trans (hk b ob (fun z => hb (by simp [z])) (fun z => hb (by simp [z])) q)) hf (Nat.le_refl _) new
    refine ⟨.ref s.heap.objs.size, _, I1, rfl, ⟨_, x, rfl, I.hok.fresh (Nat.le_refl _), rfl, fun ys hy => by rw [I.tuple_inj hy hq]; exact hx⟩, ⟨⟨x', ?_⟩, hst'.1.at fun o q => (sb.2 it (Ne.symm hne)).trans q, hne⟩, fun b hb => ?_⟩
    · have e1 : ((i + 1 : Nat) : Int) = (i : Int) + 1 := by omega
      rw [e1]; exact he'
    · have hb' : b < s.heap.objs.size := by
        rcases (by simpa using hb : b = e ∨ b = it) with z | z
        · rw [z]; exact hel
        · rw [z]; exact hil
      rw [upd_ne (Nat.ne_of_lt hb')]
      exact (hf b hb).1
  done := by
    intro X hP hw hK hc i pins s σ H E I hf st hg
    subst hP hw hK
    obtain ⟨⟨old, he⟩, hit, hne⟩ := st
    obtain ⟨xs, hq, hx⟩ := hg
    obtain ⟨its, rv, p, hz⟩ := I.tuple hq
    obtain ⟨f0, f1, f2, f3, f4, f5⟩ := hf it (by simp)
    have hl := rv.length
    have ait : a ≠ it := fun z => by
      obtain ⟨o1, q1, c1, _⟩ := p
      obtain ⟨o2, q2, c2, _⟩ := hit
      rw [z] at q1
      rw [q1] at q2
      cases q2
      rw [c1] at c2
      exact absurd (Value.type.inj c2) (by decide)
    have en : its.toArray.size = i := by rw [List.size_toArray]; omega
    exact wpAny_pyNext_enum_endD (Draws.tuple (A := X.A.in1) (I.ok.hd hc) it a ait its.toArray) he ⟨by rw [en]; exact hit, p⟩ fun h' eb => ⟨rfl, I.turned (t' := s.toks) (fun b o hb q => eb b o hb q) f0 f1 f3 f4 f5⟩
  self := fun A i s Q E st h => let ⟨⟨_, he⟩, _⟩ := st; wpAny_pyIter_enum he h
/-- enumerate(x), x a list or a tuple -/
def iEnumA (K : PySem.W.Frag) (ta : TA) : TI := fun σ H R => ta σ H fun vs H1 => ∃ a, vs = [.ref a] ∧ (((∃ xs, SqL K H1 a xs) ∧ R (Ite K a) H1) ∨ ((∃ xs, SqT K H1 a xs) ∧ R (Itu K a) H1))
theorem pi_enumA {X : Cx} {e : Expr} {ta : TA} {p pos tpos : Pos} {elts : List Expr} {kk : Nat} (hg : Gl X "enumerate") (hm : X.mg "enumerate" = none) (ha : PA X [e] ta) (hs : starEach [e] X.env = [(false, eval e X.env)] := by rfl) :
    PI X (.Tuple elts kk tpos) (.Call (.Name "enumerate" p) [e] [] pos) (iEnumA X.K ta) := by
  refine ⟨fun pins s σ H R I h => ?_⟩
  refine Call_ (ld_blt I hg hm boot_enumerate (PyProof.Rows.callWith_type1 (thn (ha.run pos pins s σ H _ I h) fun us s1 ⟨vs, H1, I1, r1, a, ex, q1⟩ => ?_) hs rfl))
  subst ex
  cases r1 with
  | cons r rr =>
    cases rr
    cases r
    have fp : ∀ b ∈ [s1.heap.objs.size + 1, s1.heap.objs.size], FpOk X pins H1 b := fun b hb => by
      have hle : s1.heap.objs.size ≤ b := by
        rcases (by simpa using hb : b = s1.heap.objs.size + 1 ∨ b = s1.heap.objs.size) with z | z
        · rw [z]; exact Nat.le_add_right _ _
        · rw [z]; exact Nat.le_refl _
      exact I1.fpOk hle (I1.hok.fresh hle)
    rcases q1 with ⟨⟨xs, hq⟩, q⟩ | ⟨⟨xs, hq⟩, q⟩
    · obtain ⟨its, rv, p', hz⟩ := I1.list hq
      refine call_enumerate_list p'.isList fun h' he hit hsz hk => wpAny_pyIter_enum he ?_
      exact ⟨s1.heap.objs.size + 1, [s1.heap.objs.size + 1, s1.heap.objs.size], _, _, H1, rfl, I1.kept (t' := s1.toks) hk, turn_enum a (s1.heap.objs.size + 1) s1.heap.objs.size, ⟨⟨.none, he⟩, hit, Nat.succ_ne_self _⟩, fp, q⟩
    · obtain ⟨its, rv, p', hz⟩ := I1.tuple hq
      refine enum_call (begins_tuple a its.toArray) p' fun h' he hit hk => wpAny_pyIter_enum he ?_
      exact ⟨s1.heap.objs.size + 1, [s1.heap.objs.size + 1, s1.heap.objs.size], _, _, H1, rfl, I1.kept (t' := s1.toks) hk, turn_enumT a (s1.heap.objs.size + 1) s1.heap.objs.size, ⟨⟨.none, he⟩, ⟨_, hit, rfl, rfl⟩, Nat.succ_ne_self _⟩, fp, q⟩
/-! ### its mirror -/
def enm (xs : List D) : List D := xs.mapIdx fun i x => .tup [.int (i : Nat), x]
theorem enm_len (xs : List D) : (enm xs).length = xs.length := by simp [enm]
theorem enm_get {xs : List D} {i : Nat} {d : D} (h : (enm xs)[i]? = some d) : ∃ x, xs[i]? = some x ∧ d = .tup [.int (i : Nat), x] := by
  unfold enm at h
  rw [List.getElem?_mapIdx] at h
  cases e : xs[i]? with
  | none => rw [e] at h; cases h
  | some x => rw [e] at h; cases h; exact ⟨x, rfl, rfl⟩
def iEnm (a : ME (List D)) : ME Itm := fun env s => (a env s).bind fun x s => match x with
  | [.tup xs] => .ok (Itm.mk (enm xs) always) s
  | [.fl xs] => .ok (Itm.mk (enm xs) always) s
  | [.loc l] => match s[l]? with
    | some (.lst xs) => .ok (Itm.mk (enm xs) (fun s2 => s2[l]? = some (.lst xs))) s
    | _ => .no
  | _ => .no
section
variable {K : PySem.W.Frag} {m : List Addr} {H : Hp}
theorem enm_turn {m2 : List Addr} {H2 H3 : Hp} {s2 : Store} {v : V} {i : Nat} {x : D} {xs : List D} {vs : List V} (r2 : Rel K m2 H2 s2) (h : Reps K m2 H2 xs vs) (e : xs[i]? = some x) {T : Addr} {y : V} (ev : v = .ref T) (hT : H2 T = none) (h3 : H3 = upd H2 T (.tup [.int (i : Nat), y])) (hy : vs[i]? = some y) :
    Le K m2 H2 m2 H3 ∧ Rel K m2 H3 s2 ∧ Rep K m2 H3 (.tup [.int (i : Nat), x]) v := by
  subst ev h3
  obtain ⟨w, hw, rw'⟩ := h.get e
  rw [hy] at hw
  cases hw
  exact ⟨le_new hT, r2.tmp hT, rep_newtup hT (.cons (.int _) (.cons rw' .nil))⟩
theorem itr_enumL {l : Nat} {xs : List D} {a : Addr} (h : m[l]? = some a) : ItR K m H ⟨enm xs, fun s2 => s2[l]? = some (.lst xs)⟩ (Ite K a) := fun m2 H2 s2 l2 r2 g => by
  have g' : s2[l]? = some (.lst xs) := g
  obtain ⟨vs, h1, h2⟩ := r2.list (l2.get h) g'
  have hq : SqL K H2 a vs := .inl (.inl h1)
  refine ⟨fun i d e => ?_, ⟨vs, hq, by rw [← h2.length]; exact Nat.le_of_eq (enm_len xs).symm⟩⟩
  obtain ⟨x, hx, rfl⟩ := enm_get e
  obtain ⟨v, hv, rv⟩ := h2.get hx
  refine ⟨⟨vs, v, hq, hv⟩, fun w H3 y => ?_⟩
  obtain ⟨T, z, ev, hT, h3, y⟩ := y
  exact enm_turn r2 h2 hx ev hT h3 (y vs hq)
theorem itr_enumF {xs : List D} {vs : List V} {a : Addr} (h : FrL K H a vs) (p : Reps K m H xs vs) : ItR K m H ⟨enm xs, always⟩ (Ite K a) := fun m2 H2 s2 l2 r2 g => by
  have hq : SqL K H2 a vs := (l2.frl a vs h).sq
  have h2 := p.mono l2
  refine ⟨fun i d e => ?_, ⟨vs, hq, by rw [← h2.length]; exact Nat.le_of_eq (enm_len xs).symm⟩⟩
  obtain ⟨x, hx, rfl⟩ := enm_get e
  obtain ⟨v, hv, rv⟩ := h2.get hx
  refine ⟨⟨vs, v, hq, hv⟩, fun w H3 y => ?_⟩
  obtain ⟨T, z, ev, hT, h3, y⟩ := y
  exact enm_turn r2 h2 hx ev hT h3 (y vs hq)
theorem itr_enumT {xs : List D} {vs : List V} {a : Addr} (h : SqT K H a vs) (p : Reps K m H xs vs) : ItR K m H ⟨enm xs, always⟩ (Itu K a) := fun m2 H2 s2 l2 r2 g => by
  have hq : SqT K H2 a vs := l2.tup a vs h
  have h2 := p.mono l2
  refine ⟨fun i d e => ?_, ⟨vs, hq, by rw [← h2.length]; exact (enm_len xs).symm⟩⟩
  obtain ⟨x, hx, rfl⟩ := enm_get e
  obtain ⟨v, hv, rv⟩ := h2.get hx
  refine ⟨⟨vs, v, hq, hv⟩, fun w H3 y => ?_⟩
  obtain ⟨T, z, ev, hT, h3, y⟩ := y
  exact enm_turn r2 h2 hx ev hT h3 (y vs hq)
end
section
variable {X : Cx} {W : WX} {e : Expr} {p pos tpos : Pos} {elts : List Expr} {kk : Nat} {fs : ME (List D)}
theorem ci_enum (hg : Gl X "enumerate") (hm : X.mg "enumerate" = none) (ha : PA X [e] (Ta X.K X.mg W fs)) (hs : starEach [e] X.env = [(false, eval e X.env)] := by rfl) :
    PI X (.Tuple elts kk tpos) (.Call (.Name "enumerate" p) [e] [] pos) (Ti X.K X.mg W (iEnm fs)) := PI.imp (pi_enumA hg hm ha hs) fun σ H Rw h =>
  Tm.bind (k := fun _ (x : List D) s => match x with
  | [.tup xs] => R.ok (Itm.mk (enm xs) always) s
  | [.fl xs] => R.ok (Itm.mk (enm xs) always) s
  | [.loc l] => match s[l]? with
    | some (.lst xs) => R.ok (Itm.mk (enm xs) (fun s2 => s2[l]? = some (.lst xs))) s
    | _ => R.no
  | _ => R.no) h fun m1 H1 env x vs s1 r1 E1 p1 g1 => by
    split at g1
    · obtain ⟨v, rfl, h1⟩ := reps1 p1
      obtain ⟨a, vs, rfl, hq, rr⟩ := h1.sqT
      exact ⟨a, rfl, .inr ⟨⟨vs, hq⟩, g1 m1 H1 _ .refl r1 (itr_enumT hq rr)⟩⟩
    · obtain ⟨v, rfl, h1⟩ := reps1 p1
      cases h1 with
      | fl hq rr => exact ⟨_, rfl, .inl ⟨⟨_, hq.sq⟩, g1 m1 H1 _ .refl r1 (itr_enumF hq rr)⟩⟩
    · obtain ⟨v, rfl, h1⟩ := reps1 p1
      cases h1 with
      | loc hl =>
        split at g1
        · rename_i q
          obtain ⟨vs, h1, h2⟩ := r1.list hl q
          exact ⟨_, rfl, .inl ⟨⟨vs, .inl (.inl h1)⟩, g1 m1 H1 _ .refl r1 (itr_enumL hl)⟩⟩
        · exact g1.elim
    · exact g1.elim
end
/-! ### all, any of a list of bools -/
def blsOf : List D → Option (List Bool)
  | [] => some []
  | .bl i :: r => (blsOf r).map fun x => i :: x
  | _ :: _ => none
theorem blsOf_map (bs : List Bool) : blsOf (bs.map D.bl) = some bs := by
  induction bs with
  | nil => rfl
  | cons n ns ih => simp [blsOf, ih]
theorem bls_reps {K : PySem.W.Frag} {m : List Addr} {H : Hp} : ∀ {ds : List D} {vs : List V} {bs : List Bool}, Reps K m H ds vs → blsOf ds = some bs → vs = bs.map V.bl
  | [], _, _, .nil, e => by cases e; rfl
  | d :: ds, _, bs, .cons p r, e => by
    cases d with
    | bl i =>
      unfold blsOf at e
      cases q : blsOf ds with
      | none => rw [q] at e; cases e
      | some x => rw [q] at e; cases e; cases p; rw [List.map_cons, bls_reps r q]
    | _ => cases e
def dAll : List D → Store → Option (D × Store)
  | [x], s => (lstOf s x).bind fun xs => (blsOf xs).map fun bs => (.bl (bs.all id), s)
  | _, _ => none
def dAny : List D → Store → Option (D × Store)
  | [x], s => (lstOf s x).bind fun xs => (blsOf xs).map fun bs => (.bl (bs.any id), s)
  | _, _ => none
section
variable {K : PySem.W.Frag}
theorem fns_all : FnS K (rAll K) dAll := by
  intro mg W σ m H s xs ds Q r p g
  unfold dAll at g
  split at g
  · obtain ⟨v, rfl, h⟩ := reps1 p
    rename_i x
    cases q : lstOf s x with
    | none => rw [q] at g; exact g.elim
    | some ys =>
      rw [q, Option.bind_some] at g
      cases q2 : blsOf ys with
      | none => rw [q2] at g; exact g.elim
      | some bs =>
        rw [q2] at g
        obtain ⟨a, vs, rfl, hq, rr⟩ := lstOf_sq r h q
        have e := bls_reps rr q2
        subst e
        exact ⟨a, bs, rfl, hq, G.now (d := D.bl (bs.all id)) g r (.bl _)⟩
  · exact g.elim
theorem fns_any : FnS K (rAny K) dAny := by
  intro mg W σ m H s xs ds Q r p g
  unfold dAny at g
  split at g
  · obtain ⟨v, rfl, h⟩ := reps1 p
    rename_i x
    cases q : lstOf s x with
    | none => rw [q] at g; exact g.elim
    | some ys =>
      rw [q, Option.bind_some] at g
      cases q2 : blsOf ys with
      | none => rw [q2] at g; exact g.elim
      | some bs =>
        rw [q2] at g
        obtain ⟨a, vs, rfl, hq, rr⟩ := lstOf_sq r h q
        have e := bls_reps rr q2
        subst e
        exact ⟨a, bs, rfl, hq, G.now (d := D.bl (bs.any id)) g r (.bl _)⟩
  · exact g.elim
end
end Mi
namespace Mi
open PySem PySem.Spec PyProof.Rows L2
/-! ### dicts with ints and texts as keys -/
def rIxDic : R2 := fun x y H Q => ∃ a v, x = .ref a ∧ DGet H a y (some v) ∧ Q v H
theorem ix_dic {X : Cx} (hu : X.A.units + 64 < cLine) : IxR X rIxDic := by
  intro value slice pins s σ H x y v u Q I rx ry h hs
  obtain ⟨a, z, rfl, g, q⟩ := h
  cases rx
  exact tail_any (ops := [.ref a, u]) (dict_typeIs I g) PySem.F.slot_dict_getitem.lookup (d_getItem (by omega) I g ry fun w' s' I' r' => ⟨z, H, I', r', q⟩) hs
theorem ix_any {X : Cx} (hu : X.A.units + 64 < cLine) : IxR X (fun x y H Q => rIx X.K x y H Q ∨ rIxDic x y H Q) := ix_seq.or (ix_dic hu)
def rSetDic : TSet := fun x y z H Q => ∃ a H', x = .ref a ∧ DPut H a y z H' ∧ Q H'
theorem set_dic {X : Cx} (hu : X.A.units + 64 < cLine) : PSet X rSetDic := by
  intro pins s σ H o i v ov iv u Q I ro ri rv h
  obtain ⟨a, H', rfl, g, q⟩ := h
  cases ro
  exact d_setItem (by omega) I g ri rv fun s' I' => ⟨H', I', q⟩
theorem pset_or {X : Cx} {t t' : TSet} (h : PSet X t) (h' : PSet X t') : PSet X (fun x y z H Q => t x y z H Q ∨ t' x y z H Q) := by
  intro pins s σ H o i v ov iv u Q I ro ri rv q
  rcases q with q | q
  · exact h pins s σ H o i v ov iv u Q I ro ri rv q
  · exact h' pins s σ H o i v ov iv u Q I ro ri rv q
theorem set_any {X : Cx} (hu : X.A.units + 64 < cLine) : PSet X (fun x y z H Q => rSetL x y z H Q ∨ rSetDic x y z H Q) := pset_or set_list (set_dic hu)
/-! ### mirrors -/
def keyOf : D → Option Key
  | .int i => some (.inl i)
  | .str z => some (.inr z)
  | _ => none
theorem keyOf_rep {K : PySem.W.Frag} {m : List Addr} {H : Hp} {d : D} {v : V} {k : Key} (p : Rep K m H d v) (e : keyOf d = some k) : v = kV k := by
  cases p <;> first | (cases e; done) | (cases e; rfl)
def getD (ks : List (Key × D)) (k : Key) : Option D := (ks.find? fun kv => decide (kv.1 = k)).map (·.2)
def putD (ks : List (Key × D)) (k : Key) (v : D) : List (Key × D) :=
  if (ks.any fun kv => decide (kv.1 = k)) = true then ks.map (fun kv => if kv.1 = k then (kv.1, v) else kv) else ks ++ [(k, v)]
def dicOf (s : Store) : D → Option (Nat × List (Key × D))
  | .loc l => match s[l]? with
    | some (.dic ks) => some (l, ks)
    | _ => none
  | _ => none
/-- x[i], x a dict or a sequence -/
def dIxA (x i : D) (s : Store) : Option (D × Store) := match dicOf s x with
  | some (_, ks) => (keyOf i).bind fun k => (getD ks k).map fun d => (d, s)
  | none => dIx x i s
section
variable {K : PySem.W.Frag} {m : List Addr} {H : Hp} {s : Store}
theorem repk_get {k : Key} : ∀ {ks : List (Key × D)} {vs : List (Key × V)} {d : D}, RepK K m H ks vs → getD ks k = some d → ∃ v, valV vs k = some v ∧ Rep K m H d v
  | _, _, _, .nil, e => by cases e
  | (q, x) :: ks, (_, v) :: vs, d, .cons p r, e => by
    by_cases c : q = k
    · subst c
      refine ⟨v, valV_pos rfl, ?_⟩
      simp [getD, List.find?_cons] at e
      subst e
      exact p
    · rw [valV_neg c]
      refine repk_get r ?_
      simpa [getD, List.find?_cons, c] using e
theorem repk_any {k : Key} : ∀ {ks : List (Key × D)} {vs : List (Key × V)}, RepK K m H ks vs → (ks.any fun kv => decide (kv.1 = k)) = (vs.any fun kv => decide (kv.1 = k))
  | _, _, .nil => rfl
  | (q, x) :: ks, (_, v) :: vs, .cons p r => by simp [repk_any r]
theorem repk_map {k : Key} {y : D} {w : V} (p : Rep K m H y w) : ∀ {ks : List (Key × D)} {vs : List (Key × V)}, RepK K m H ks vs → RepK K m H (ks.map fun kv => if kv.1 = k then (kv.1, y) else kv) (vs.map fun kv => if kv.1 = k then (kv.1, w) else kv)
  | _, _, .nil => .nil
  | (q, x) :: ks, (_, v) :: vs, .cons h r => by
    by_cases c : q = k
    · simp only [List.map_cons, c, if_true]
      exact .cons p (repk_map p r)
    · simp only [List.map_cons, c, if_false]
      exact .cons h (repk_map p r)
theorem repk_app {ks : List (Key × D)} {vs : List (Key × V)} {k : Key} {y : D} {w : V} (h : RepK K m H ks vs) (p : Rep K m H y w) : RepK K m H (ks ++ [(k, y)]) (vs ++ [(k, w)]) := by
  induction ks generalizing vs with
  | nil => cases h; exact .cons p .nil
  | cons a ks ih => cases h with | cons q r => exact .cons q (ih r)
theorem repk_put {ks : List (Key × D)} {vs : List (Key × V)} {k : Key} {y : D} {w : V} (h : RepK K m H ks vs) (p : Rep K m H y w) : RepK K m H (putD ks k y) (putK vs k w) := by
  unfold putD putK
  rw [repk_any h]
  split
  · exact repk_map p h
  · exact repk_app h p
theorem repk_len : ∀ {ks : List (Key × D)} {vs : List (Key × V)}, RepK K m H ks vs → ks.length = vs.length
  | _, _, .nil => rfl
  | _, _, .cons _ r => by simp [repk_len r]
theorem dicOf_at (r : Rel K m H s) {d : D} {v : V} {l : Nat} {ks : List (Key × D)} (p : Rep K m H d v) (e : dicOf s d = some (l, ks)) : ∃ a vs, d = .loc l ∧ v = .ref a ∧ m[l]? = some a ∧ H a = some (.dK vs) ∧ RepK K m H ks vs := by
  cases p with
  | @loc l' a h =>
    unfold dicOf at e
    cases q : s[l']? with
    | none => simp [q] at e
    | some c =>
      cases c with
      | lst _ => simp [q] at e
      | dic ks' =>
        simp only [q] at e
        cases e
        obtain ⟨ws, h1, h2⟩ := r.at_ _ a _ h q
        exact ⟨a, ws, rfl, rfl, h, h1, h2⟩
  | _ => cases e
theorem ops_ixA : OpS K (fun x y H Q => rIx K x y H Q ∨ rIxDic x y H Q) dIxA := by
  intro mg W σ m H s x y dx dy Q r px py g
  unfold dIxA at g
  cases e : dicOf s dx with
  | none => rw [e] at g; exact .inl (ops_ix r px py g)
  | some o =>
    obtain ⟨l, ks⟩ := o
    rw [e] at g
    simp only at g
    cases e1 : keyOf dy with
    | none => rw [e1] at g; exact g.elim
    | some k =>
      rw [e1, Option.bind_some] at g
      cases e2 : getD ks k with
      | none => rw [e2] at g; exact g.elim
      | some d =>
        rw [e2] at g
        obtain ⟨a, vs, _, rfl, _, h1, h2⟩ := dicOf_at r px e
        obtain ⟨v, hv, pv⟩ := repk_get h2 e2
        rw [keyOf_rep py e1]
        exact .inr ⟨a, v, rfl, hv ▸ DGet.k h1, G.now (d := d) g r pv⟩
open Classical in
/-- o[i] = e, o a dict or a list -/
noncomputable def pAny (x y z : D) (s : Store) : Option Store := match dicOf s x with
  | some (l, ks) => (keyOf y).bind fun k => if ks.length < sizeLine then some (s.set l (.dic (putD ks k z))) else none
  | none => pList x y z s
theorem puts_any : PutS K (fun x y z H Q => rSetL x y z H Q ∨ rSetDic x y z H Q) pAny := by
  intro m H s s' x y z dx dy dz Q r px py pz e q
  unfold pAny at e
  cases e0 : dicOf s dx with
  | none => rw [e0] at e; exact .inl (puts_list r px py pz e q)
  | some o =>
    obtain ⟨l, ks⟩ := o
    rw [e0] at e
    simp only at e
    cases e1 : keyOf dy with
    | none => rw [e1] at e; cases e
    | some k =>
      rw [e1, Option.bind_some] at e
      split at e
      · rename_i hz
        cases e
        obtain ⟨a, vs, rfl, rfl, hl, h1, h2⟩ := dicOf_at r px e0
        rw [keyOf_rep py e1]
        have le := le_put (o := .dK (putK vs k z)) r (List.mem_of_getElem? hl)
        refine .inr ⟨a, _, rfl, DPut.k h1 (by rw [← repk_len h2]; exact hz), q _ le (r.put hl ⟨_, upd_same, ?_⟩)⟩
        have h3 := repk_put (k := k) h2 pz
        exact h3.mono le
      · cases e
end
/-- {} -/
def eDict0 : ME D := fun _ s => .ok (.loc s.length) (s ++ [.dic []])
section
variable {X : Cx} {W : WX} {pos : Pos}
theorem ce_dict0 : PE X (.Dict [] [] pos) (Te X.K X.mg W eDict0) := PE.imp pe_dnewK fun σ H Q ⟨m, env, s, r, E, g⟩ p hp =>
  g (m ++ [p]) _ _ (le_more r hp) (r.new hp ⟨[], upd_same, .nil⟩) (.loc (len_get r))
end
end Mi
namespace Mi
open PySem PySem.Spec PyProof.Rows L2
/-! ### equations for simp -/
@[simp] theorem dIxA_tup (xs : List D) (i : D) (s : Store) : dIxA (.tup xs) i s = dIx (.tup xs) i s := rfl
@[simp] theorem dIxA_str (z : Str) (i : D) (s : Store) : dIxA (.str z) i s = dIx (.str z) i s := rfl
theorem dIxA_loc {s : Store} {l : Nat} {xs : List D} (h : s[l]? = some (.lst xs)) (i : Int) : dIxA (.loc l) (.int i) s = (L2.atI xs i).map fun d => (d, s) := by
  have e : dicOf s (.loc l) = none := by simp [dicOf, h]
  unfold dIxA
  rw [e]
  exact dIx_loc h i
theorem dIxA_dic {s : Store} {l : Nat} {ks : List (Key × D)} (h : s[l]? = some (.dic ks)) {i d : D} {k : Key} (hk : keyOf i = some k) (hd : getD ks k = some d) : dIxA (.loc l) i s = some (d, s) := by
  have e : dicOf s (.loc l) = some (l, ks) := by simp [dicOf, h]
  unfold dIxA
  rw [e]
  simp [hk, hd]
theorem pAny_loc {s : Store} {l : Nat} {xs : List D} (h : s[l]? = some (.lst xs)) (i z : D) : pAny (.loc l) i z s = pList (.loc l) i z s := by
  have e : dicOf s (.loc l) = none := by simp [dicOf, h]
  unfold pAny
  rw [e]
theorem pAny_dic {s : Store} {l : Nat} {ks : List (Key × D)} (h : s[l]? = some (.dic ks)) {i : D} {k : Key} (hk : keyOf i = some k) (hz : ks.length ≤ 1000000) (z : D) : pAny (.loc l) i z s = some (s.set l (.dic (putD ks k z))) := by
  have e : dicOf s (.loc l) = some (l, ks) := by simp [dicOf, h]
  have q : ks.length < sizeLine := by rw [sizeLine_eq]; omega
  unfold pAny
  rw [e]
  simp only [hk, Option.bind_some, if_pos q]
@[simp] theorem eDict0_eq (env : Sl) (s : Store) : eDict0 env s = .ok (.loc s.length) (s ++ [.dic []]) := rfl
@[simp] theorem iEnm_eq (a : ME (List D)) (env : Sl) (s : Store) : iEnm a env s = (a env s).bind fun x s => match x with
  | [.tup xs] => .ok (Itm.mk (enm xs) always) s
  | [.fl xs] => .ok (Itm.mk (enm xs) always) s
  | [.loc l] => match s[l]? with
    | some (.lst xs) => .ok (Itm.mk (enm xs) (fun s2 => s2[l]? = some (.lst xs))) s
    | _ => .no
  | _ => .no := rfl
@[simp] theorem sRaise_eq (c : Str) (ns : List Str) (a : ME (List D)) (env : Sl) (s : Store) : sRaise c ns a env s = (a env s).then env fun xs s => if xs.length = ns.length then .ex ⟨c, (ns.zip xs).reverse⟩ env s else .no := rfl
theorem dAll_loc {s : Store} {l : Nat} {bs : List Bool} (h : s[l]? = some (.lst (bs.map D.bl))) : dAll [.loc l] s = some (.bl (bs.all id), s) := by simp [dAll, lstOf, h, blsOf_map]
theorem putD_get (ks : List (Key × D)) (k : Key) (z : D) : getD (putD ks k z) k = some z := by
  unfold putD getD
  by_cases c : (ks.any fun kv => decide (kv.1 = k)) = true
  · rw [if_pos c]
    induction ks with
    | nil => simp at c
    | cons p ks ih =>
      by_cases q : p.1 = k
      · simp [q]
      · have c' : (ks.any fun kv => decide (kv.1 = k)) = true := by simpa [q] using c
        simpa [List.find?_cons, q] using ih c'
  · rw [if_neg c, List.find?_append]
    have n : ks.find? (fun kv => decide (kv.1 = k)) = none := List.find?_eq_none.mpr fun x hx h => c (List.any_eq_true.mpr ⟨x, hx, h⟩)
    rw [n]
    simp
theorem putD_other {k k' : Key} (ne : k' ≠ k) (ks : List (Key × D)) (z : D) : getD (putD ks k z) k' = getD ks k' := by
  unfold putD getD
  by_cases c : (ks.any fun kv => decide (kv.1 = k)) = true
  · rw [if_pos c]
    clear c
    induction ks with
    | nil => rfl
    | cons p ks ih =>
      by_cases q : p.1 = k
      · have n : ¬ p.1 = k' := fun e => ne (e.symm.trans q)
        have n2 : ¬ k = k' := fun e => ne e.symm
        simpa [List.find?_cons, q, n, n2] using ih
      · by_cases q2 : p.1 = k'
        · simp [List.find?_cons, q, q2, ne]
        · simpa [List.find?_cons, q, q2] using ih
  · rw [if_neg c, List.find?_append]
    have n : ¬ k = k' := fun e => ne e.symm
    simp [n]
theorem putD_len (ks : List (Key × D)) (k : Key) (z : D) : (putD ks k z).length ≤ ks.length + 1 := by
  unfold putD
  split <;> simp
end Mi
namespace Mi
open PySem PySem.Spec PyProof.Rows L2
/-! ### in, not in -/
theorem un65 {k : Nat} {A : Around} (r : Room k A) : A.units + 65 < cLine := by have := r.un; omega
def flatD : D → Bool
  | .non => true
  | .bl _ => true
  | .int _ => true
  | .str _ => true
  | _ => false
def eqD : D → D → Bool
  | .non, .non => true
  | .bl a, .bl b => a == b
  | .bl a, .int b => (if a then 1 else 0) == b
  | .int a, .bl b => a == (if b then 1 else 0)
  | .int a, .int b => a == b
  | .str a, .str b => a == b
  | _, _ => false
def inFlat (x : D) (xs : List D) : Option Bool := if flatD x = true ∧ xs.all flatD = true then some (xs.any fun z => eqD z x) else none
def inDeep (x y : D) (s : Store) : Option Bool := (py1 s x).bind fun a => (py1 s y).bind fun b => match b with
  | .list ds => if (SeqAt.shaped a && SeqAt.shaped (.list ds)) = true then some (ds.any fun z => PyData.eqv z a) else none
  | _ => none
/-- x in y -/
def dInB (x y : D) (s : Store) : Option Bool := match dicOf s y with
  | some (_, ks) => (keyOf x).map fun k => (getD ks k).isSome
  | none => match y, x with
    | .str b, .str a => some (!(Builtin.Str.occurrences b a 0 b.length 1).isEmpty)
    | y, x => match (seqOf s y).bind (inFlat x) with
      | some c => some c
      | none => inDeep x y s
def dIn (x y : D) (s : Store) : Option (D × Store) := (dInB x y s).map fun b => (.bl b, s)
def dNotIn (x y : D) (s : Store) : Option (D × Store) := (dInB x y s).map fun b => (.bl !b, s)
def rDin : R2 := fun y x H Q => ∃ a o, x = .ref a ∧ DGet H a y o ∧ Q (.bl o.isSome) H
def rDnotin : R2 := fun y x H Q => ∃ a o, x = .ref a ∧ DGet H a y o ∧ Q (.bl (!o.isSome)) H
def rSin : R2 := fun x y H Q => ∃ i j, x = .str i ∧ y = .str j ∧ Q (.bl (!(Builtin.Str.occurrences j i 0 j.length 1).isEmpty)) H
def rSnotin : R2 := fun x y H Q => ∃ i j, x = .str i ∧ y = .str j ∧ Q (.bl (!(!(Builtin.Str.occurrences j i 0 j.length 1).isEmpty))) H
theorem op_din {X : Cx} (hu : X.A.units + 65 < cLine) : OpR X (compareOp .In) rDin := by
  intro pins s σ H x y v u Q I rx ry h
  obtain ⟨a, o, rfl, g, q⟩ := h
  cases ry
  exact d_in (by omega) I g rx fun s' I' => ⟨.bl o.isSome, H, I', rfl, q⟩
theorem op_dnotin {X : Cx} (hu : X.A.units + 65 < cLine) : OpR X (compareOp .NotIn) rDnotin := by
  intro pins s σ H x y v u Q I rx ry h
  obtain ⟨a, o, rfl, g, q⟩ := h
  cases ry
  exact d_notIn (by omega) I g rx fun s' I' => ⟨.bl (!o.isSome), H, I', rfl, q⟩
def rInA (K : PySem.W.Frag) : R2 := fun x y H Q => rIn K false x y H Q ∨ rDin x y H Q ∨ rSin x y H Q ∨ rInD K x y H Q
def rNotInA (K : PySem.W.Frag) : R2 := fun x y H Q => rIn K true x y H Q ∨ rDnotin x y H Q ∨ rSnotin x y H Q ∨ rNotInD K x y H Q
theorem opA_in {X : Cx} (hu : X.A.units + 65 < cLine) : OpR X (compareOp .In) (rInA X.K) := op_in_seq.or ((op_din hu).or (op_in_str.or (op_inD hu)))
theorem opA_notin {X : Cx} (hu : X.A.units + 65 < cLine) : OpR X (compareOp .NotIn) (rNotInA X.K) := op_notIn_seq.or ((op_dnotin hu).or (op_notin_str.or (op_notInD hu)))
section
variable {K : PySem.W.Frag} {m : List Addr} {H : Hp} {s : Store}
theorem flat_rep {d : D} {v : V} (p : Rep K m H d v) (h : flatD d = true) : flatV v = true := by
  cases p <;> first | rfl | cases h
theorem eqD_rep {d e : D} {v w : V} (p : Rep K m H d v) (q : Rep K m H e w) (h : flatD d = true) (h2 : flatD e = true) : eqV v w = eqD d e := by
  cases p <;> first | (cases h; done) | (cases q <;> first | (cases h2; done) | rfl)
theorem flat_reps : ∀ {xs : List D} {vs : List V}, Reps K m H xs vs → xs.all flatD = true → vs.all flatV = true
  | _, _, .nil, _ => rfl
  | _, _, .cons h r, e => by
    rw [List.all_cons, Bool.and_eq_true] at e
    rw [List.all_cons, Bool.and_eq_true]
    exact ⟨flat_rep h e.1, flat_reps r e.2⟩
theorem in_reps {x : D} {w : V} (p : Rep K m H x w) (hx : flatD x = true) : ∀ {xs : List D} {vs : List V}, Reps K m H xs vs → xs.all flatD = true → inV w vs = xs.any fun z => eqD z x
  | _, _, .nil, _ => rfl
  | _, _, .cons h r, e => by
    rw [List.all_cons, Bool.and_eq_true] at e
    rw [List.any_cons, ← in_reps p hx r e.2, ← eqD_rep h p e.1 hx]
    rfl
theorem repk_some {k : Key} : ∀ {ks : List (Key × D)} {vs : List (Key × V)}, RepK K m H ks vs → (valV vs k).isSome = (getD ks k).isSome
  | _, _, .nil => rfl
  | (q, x) :: ks, (_, v) :: vs, .cons p r => by
    by_cases c : q = k
    · subst c
      rw [valV_pos rfl]
      simp [getD, List.find?_cons]
    · rw [valV_neg c, repk_some r]
      simp [getD, List.find?_cons, c]
theorem inB_cases (r : Rel K m H s) {dx dy : D} {x y : V} {b : Bool} (px : Rep K m H dx x) (py : Rep K m H dy y) (e : dInB dx dy s = some b) :
    (∃ p xs, y = .ref p ∧ (SqL K H p xs ∨ SqT K H p xs) ∧ flatV x = true ∧ xs.all flatV = true ∧ inV x xs = b) ∨ (∃ a o, y = .ref a ∧ DGet H a x o ∧ o.isSome = b) ∨
      (∃ i j, x = .str i ∧ y = .str j ∧ (!(Builtin.Str.occurrences j i 0 j.length 1).isEmpty) = b) ∨ ∃ d ds, Dp K H x d ∧ Dp K H y (.list ds) ∧ SeqAt.shaped d = true ∧ SeqAt.shaped (.list ds) = true ∧ (ds.any fun z => PyData.eqv z d) = b := by
  unfold dInB at e
  cases e0 : dicOf s dy with
  | some o =>
    obtain ⟨l, ks⟩ := o
    rw [e0] at e
    simp only at e
    cases e1 : keyOf dx with
    | none => rw [e1] at e; cases e
    | some k =>
      rw [e1] at e
      cases e
      obtain ⟨a, vs, _, rfl, _, h1, h2⟩ := dicOf_at r py e0
      rw [keyOf_rep px e1]
      exact .inr (.inl ⟨a, valV vs k, rfl, DGet.k h1, repk_some h2⟩)
  | none =>
    rw [e0] at e
    simp only at e
    split at e
    · cases px; cases py
      cases e
      exact .inr (.inr (.inl ⟨_, _, rfl, rfl, rfl⟩))
    · split at e
      · rename_i c hc
        cases e
        cases e2 : seqOf s dy with
        | none => rw [e2] at hc; cases hc
        | some xs =>
          rw [e2, Option.bind_some] at hc
          unfold inFlat at hc
          split at hc
          · rename_i hf
            cases hc
            obtain ⟨a, vs, rfl, h1, h2⟩ := seqOf_sq r py e2
            exact .inl ⟨a, vs, rfl, h1, flat_rep px hf.1, flat_reps h2 hf.2, in_reps px hf.1 h2 hf.2⟩
          · cases hc
      · unfold inDeep at e
        cases q1 : py1 s dx with
        | none => rw [q1] at e; cases e
        | some a =>
          cases q2 : py1 s dy with
          | none => rw [q1, q2] at e; cases e
          | some c =>
            rw [q1, q2] at e
            simp only [Option.bind_some] at e
            split at e
            · rename_i ds
              split at e
              · rename_i hs
                rw [Bool.and_eq_true] at hs
                cases e
                exact .inr (.inr (.inr ⟨a, ds, py1_dp r px q1, py1_dp r py q2, hs.1, hs.2, rfl⟩))
              · cases e
            · cases e
theorem ops_in : OpS K (rInA K) dIn := by
  intro mg W σ m H s x y dx dy Q r px py g
  unfold dIn at g
  cases e : dInB dx dy s with
  | none => rw [e] at g; exact g.elim
  | some b =>
    rw [e] at g
    have q := g.now r (.bl b)
    rcases inB_cases r px py e with ⟨p, xs, h1, h2, h3, h4, h5⟩ | ⟨a, o, h1, h2, h3⟩ | ⟨i, j, h1, h2, h3⟩ | ⟨d, ds, h1, h2, h3, h4, h5⟩
    · exact .inl ⟨p, xs, h1, h2, h3, h4, by subst h5; exact q⟩
    · exact .inr (.inl ⟨a, o, h1, h2, by subst h3; exact q⟩)
    · exact .inr (.inr (.inl ⟨i, j, h1, h2, by subst h3; exact q⟩))
    · exact .inr (.inr (.inr ⟨d, ds, h1, h2, h3, h4, by subst h5; exact q⟩))
theorem ops_notin : OpS K (rNotInA K) dNotIn := by
  intro mg W σ m H s x y dx dy Q r px py g
  unfold dNotIn at g
  cases e : dInB dx dy s with
  | none => rw [e] at g; exact g.elim
  | some b =>
    rw [e] at g
    have q := g.now r (.bl (!b))
    rcases inB_cases r px py e with ⟨p, xs, h1, h2, h3, h4, h5⟩ | ⟨a, o, h1, h2, h3⟩ | ⟨i, j, h1, h2, h3⟩ | ⟨d, ds, h1, h2, h3, h4, h5⟩
    · exact .inl ⟨p, xs, h1, h2, h3, h4, by subst h5; exact q⟩
    · exact .inr (.inl ⟨a, o, h1, h2, by subst h3; exact q⟩)
    · exact .inr (.inr (.inl ⟨i, j, h1, h2, by subst h3; exact q⟩))
    · exact .inr (.inr (.inr ⟨d, ds, h1, h2, h3, h4, by subst h5; exact q⟩))
/-! ### str(i), str(z) -/
noncomputable instance (i : Int) : Decidable (i.natAbs.log2 < 1920) := Classical.propDecidable _
noncomputable def dStr : List D → Store → Option (D × Store)
  | [.int i], s => if i.natAbs.log2 < 1920 then some (.str (toString i), s) else none
  | [.str z], s => some (.str z, s)
  | _, _ => none
def rStr : List V → Hp → VK → Prop := fun xs H Q => (∃ i, xs = [.int i] ∧ i.natAbs.log2 < 1920 ∧ Q (.str (toString i)) H) ∨ ∃ a, xs = [.str a] ∧ Q (.str a) H
theorem call_strA {X : Cx} : CallR X (.type "str") rStr := call_str_int.or SkE.call_str_str
theorem fns_str : FnS K rStr dStr := by
  intro mg W σ m H s xs ds Q r p g
  unfold dStr at g
  split at g
  · rename_i i
    obtain ⟨v, rfl, h⟩ := reps1 p
    cases h
    split at g
    · rename_i hz
      exact .inl ⟨i, rfl, hz, g.now r (.str _)⟩
    · exact g.elim
  · rename_i z
    obtain ⟨v, rfl, h⟩ := reps1 p
    cases h
    exact .inr ⟨z, rfl, g.now r (.str _)⟩
  · exact g.elim
/-! ### xs.extend(ys), ys a list or a tuple -/
end
section
open PySem.AutoSeq1
theorem list_extend_tup (l : Addr) (items : Array Value) (n : Nat) (b : Addr) (items2 : Array Value) (n2 : Nat) (dd : Option Addr) (sl : Array (Option Value)) (hs0 : ¬(!items.isEmpty && Builtin.List.listTooLong (items.size + items2.size)) = true) (hs1 : items.size ≤ sizeLine) (hs2 : items.size + items2.size ≤ sizeLine + 1) :
    Meets (Builtin.«list.extend» ⟨[.ref l, .ref b], []⟩) (fun _ R s => s.heap.get? l = some { cls := .type "list", dict := none, data := .seq items n, slots := #[] } ∧ s.heap.get? b = some { cls := .type "tuple", dict := dd, data := .seq items2 n2, slots := sl } ∧ R (.ok (.ret Value.none)) { s with heap := s.heap.update l (Obj.mapSeq fun x => x ++ items2), toks := s.toks }) :=
  .of_wp fun prog w A R s h => by
    obtain ⟨hp, g, d, tk, os⟩ := s; obtain ⟨hl, hb, h⟩ := h; have f1 := PySem.AutoSeq1.idx_int; have f2 := PySem.AutoSeq1.sub_tuple_tuple; have f3 := PySem.AutoSeq1.sub_list_list; have f4 := PySem.AutoSeq1.sub_tuple_list; have f5 := PySem.AutoSeq1.sub_list_tuple;
    have hz' : (items ++ items2).size ≤ sizeLine + 1 := by rw [Array.size_append]; exact hs2
    wp_walk using (wpAny_updateSeq hl rfl (hz := hs1) (_hz' := hz')), wpAny_loadPart' hl, wpAny_loadPart' hb; exact ⟨_, rfl, h⟩
end
def rExtT (K : PySem.W.Frag) : V → List V → Hp → VK → Prop := fun x vs H Q => ∃ l b xs zs, x = .ref l ∧ vs = [.ref b] ∧ H l = some (.lst xs) ∧ SqT K H b zs ∧ xs.length + zs.length ≤ sizeLine ∧ Q .non (upd H l (.lst (xs ++ zs)))
theorem mt_extT {X : Cx} : MtR X "list.extend" (rExtT X.K) := by
  intro pins s σ H x vs v us Q I rx rv h
  obtain ⟨l, b, xs, zs, rfl, rfl, hH, hB, hz, q⟩ := h
  cases rx
  obtain ⟨u, rfl, ru⟩ := rv.one
  cases ru
  obtain ⟨z, its, n, r, hl, e⟩ := I.lstM hH
  obtain ⟨its2, r2, ⟨⟨cls, dd, data, sl⟩, e2, hc, n2, hd⟩, hl2⟩ := I.tuple hB
  simp only at hc hd
  subst hc hd
  have hl3 := r2.length
  have hsz : its.toArray.size + its2.toArray.size ≤ sizeLine := by rw [List.size_toArray, List.size_toArray]; omega
  have hlong : ¬ (!its.toArray.isEmpty && Builtin.List.listTooLong (its.toArray.size + its2.toArray.size)) = true := by
    rw [notLongL hsz, Bool.and_false]
    exact Bool.false_ne_true
  refine call_meets F.slot_list_extend ⟨_, e, rfl⟩ F.entry_list_extend (F.args_list_extend_2 _ _)
    (list_extend_tup l its.toArray n b its2.toArray n2 dd sl hlong (by rw [List.size_toArray]; omega) (by omega)) ⟨e, e2, ?_⟩
  refine ⟨.non, _, I.lset (its' := its ++ its2) hH e (by simp) (r.append r2) ?_, rfl, q⟩
  rw [List.length_append]
  omega
theorem MtR.or' {X : Cx} {id : String} {r r' : V → List V → Hp → VK → Prop} (h : MtR X id r) (h' : MtR X id r') : MtR X id (fun x vs H Q => r x vs H Q ∨ r' x vs H Q) := by
  intro pins s σ H x vs v us Q I rx rv q
  rcases q with q | q
  · exact h pins s σ H x vs v us Q I rx rv q
  · exact h' pins s σ H x vs v us Q I rx rv q
def rExtA (K : PySem.W.Frag) : V → List V → Hp → VK → Prop := fun x vs H Q => rExtend x vs H Q ∨ rExtT K x vs H Q
theorem mt_extA {X : Cx} : MtR X "list.extend" (rExtA X.K) := MtR.or' mt_extend mt_extT
noncomputable def dExtend (x : D) (ys : List D) (s : Store) : Option (D × Store) := match x, ys with
  | .loc l, [.loc k] => match s[l]?, s[k]? with
    | some (.lst xs), some (.lst zs) => if xs.length + zs.length ≤ sizeLine then some (.non, s.set l (.lst (xs ++ zs))) else none
    | _, _ => none
  | .loc l, [.tup zs] => match s[l]? with
    | some (.lst xs) => if xs.length + zs.length ≤ sizeLine then some (.non, s.set l (.lst (xs ++ zs))) else none
    | _ => none
  | _, _ => none
section
variable {K : PySem.W.Frag}
theorem mts_extend : MtS K (rExtA K) dExtend := by
  intro mg W σ m H s x d xs ds Q r p ps g
  unfold dExtend at g
  split at g
  · rename_i l k
    obtain ⟨w, rfl, h⟩ := reps1 ps
    cases p with
    | loc hl =>
      cases h with
      | loc hk =>
        split at g
        · rename_i ys zs q q2
          split at g
          · rename_i hz
            obtain ⟨vs, h1, h2⟩ := r.list hl q
            obtain ⟨ws, h3, h4⟩ := r.list hk q2
            obtain ⟨le, r2⟩ := le_setlist r hl (h2.append h4)
            exact .inl ⟨_, _, vs, ws, rfl, rfl, h1, h3, by rw [← h2.length, ← h4.length]; exact hz, g m _ _ le r2 .non⟩
          · exact g.elim
        · exact g.elim
  · rename_i l zs
    obtain ⟨w, rfl, h⟩ := reps1 ps
    cases p with
    | loc hl =>
      obtain ⟨a, ws, rfl, h3, h4⟩ := h.sqT
      split at g
      · rename_i ys q
        split at g
        · rename_i hz
          obtain ⟨vs, h1, h2⟩ := r.list hl q
          obtain ⟨le, r2⟩ := le_setlist r hl (h2.append h4)
          exact .inr ⟨_, _, vs, ws, rfl, rfl, h1, h3, by rw [← h2.length, ← h4.length]; exact hz, g m _ _ le r2 .non⟩
        · exact g.elim
      · exact g.elim
  · exact g.elim
/-! ### xs.pop(i), xs.insert(i, x) -/
noncomputable def dPopX (x : D) (ys : List D) (s : Store) : Option (D × Store) := match x, ys with
  | .loc l, [.int i] => match s[l]? with
    | some (.lst xs) => if -(2 ^ 63) ≤ i ∧ i < 2 ^ 63 then (seqIndex? i xs.length).bind fun k => (xs[k]?).map fun y => (y, s.set l (.lst (xs.eraseIdx k))) else none
    | _ => none
  | _, _ => none
theorem mts_popX : MtS K rPopAt dPopX := by
  intro mg W σ m H s x d xs ds Q r p ps g
  unfold dPopX at g
  split at g
  · rename_i l i
    obtain ⟨w, rfl, h⟩ := reps1 ps
    cases h
    cases p with
    | loc hl =>
      split at g
      · rename_i ys q
        split at g
        · rename_i hz
          cases q1 : seqIndex? i ys.length with
          | none => rw [q1] at g; exact g.elim
          | some k =>
            rw [q1, Option.bind_some] at g
            cases q2 : ys[k]? with
            | none => rw [q2] at g; exact g.elim
            | some y =>
              rw [q2] at g
              obtain ⟨vs, h1, h2⟩ := r.list hl q
              obtain ⟨v, hv, rv⟩ := h2.get q2
              obtain ⟨le, r2⟩ := le_setlist r hl (h2.erase k)
              exact ⟨_, vs, i, k, v, rfl, rfl, h1, hz.1, hz.2, by rw [← h2.length]; exact q1, hv, g m _ _ le r2 (rv.mono le)⟩
        · exact g.elim
      · exact g.elim
  · exact g.elim
def rIns : V → List V → Hp → VK → Prop := fun x vs H Q => ∃ (l : Addr) (xs : List V) (i : Int) (y : V), x = .ref l ∧ vs = [.int i, y] ∧ H l = some (.lst xs) ∧ xs.length < sizeLine ∧ 0 ≤ i ∧ i < 2 ^ 63 ∧
    Q .non (upd H l (.lst (xs.take i.toNat ++ [y] ++ xs.drop i.toNat)))
noncomputable def dInsert (x : D) (ys : List D) (s : Store) : Option (D × Store) := match x, ys with
  | .loc l, [.int i, y] => match s[l]? with
    | some (.lst xs) => if xs.length < sizeLine ∧ 0 ≤ i ∧ i < 2 ^ 63 then some (.non, s.set l (.lst (xs.take i.toNat ++ [y] ++ xs.drop i.toNat))) else none
    | _ => none
  | _, _ => none
theorem mts_insert : MtS K rIns dInsert := by
  intro mg W σ m H s x d xs ds Q r p ps g
  unfold dInsert at g
  split at g
  · rename_i l i y
    obtain ⟨w, w2, rfl, h, hy⟩ := reps2 ps
    cases h
    cases p with
    | loc hl =>
      split at g
      · rename_i ys q
        split at g
        · rename_i hz
          obtain ⟨vs, h1, h2⟩ := r.list hl q
          obtain ⟨le, r2⟩ := le_setlist r hl (((h2.take i.toNat).append (.cons hy .nil)).append (h2.drop i.toNat))
          exact ⟨_, vs, i, w2, rfl, rfl, h1, by rw [← h2.length]; exact hz.1, hz.2.1, hz.2.2, g m _ _ le r2 .non⟩
        · exact g.elim
      · exact g.elim
  · exact g.elim
/-! ### xs.index(x): items of a list -/
noncomputable def dIndex (x : D) (ys : List D) (s : Store) : Option (D × Store) := match ys with
  | [y] => (lstOf s x).bind fun xs => if flatD y = true ∧ xs.all flatD = true then (xs.findIdx? fun z => eqD z y).map fun j => (.int (j : Nat), s) else none
  | _ => none
theorem mts_index : MtS K (rIndex K) dIndex := by
  intro mg W σ m H s x d xs ds Q r p ps g
  unfold dIndex at g
  split at g
  · rename_i y
    obtain ⟨w, rfl, h⟩ := reps1 ps
    cases e : lstOf s d with
    | none => rw [e] at g; exact g.elim
    | some zs =>
      rw [e, Option.bind_some] at g
      split at g
      · rename_i hf
        cases q : zs.findIdx? fun z => eqD z y with
        | none => rw [q] at g; exact g.elim
        | some j =>
          rw [q] at g
          obtain ⟨a, vs, rfl, h1, h2⟩ := lstOf_sq r p e
          obtain ⟨hj, q1, q2⟩ := List.findIdx?_eq_some_iff_getElem.mp q
          have fl : ∀ i (hi : i < zs.length), flatD zs[i] = true := fun i hi => List.all_eq_true.mp hf.2 _ (List.getElem_mem hi)
          obtain ⟨v, hv, rv⟩ := h2.get (List.getElem?_eq_getElem hj)
          refine ⟨a, vs, w, j, v, rfl, rfl, h1, flat_rep h hf.1, flat_reps h2 hf.2, hv, by rw [eqD_rep rv h (fl j hj) hf.1]; exact q1, fun i z hi hz => ?_, g.now r (.int _)⟩
          have hi' : i < zs.length := by omega
          obtain ⟨v', hv', rv'⟩ := h2.get (List.getElem?_eq_getElem hi')
          rw [hz] at hv'
          cases hv'
          rw [eqD_rep rv' h (fl i hi') hf.1]
          simpa using q2 i hi
      · exact g.elim
  · exact g.elim
end
/-! ### equations for simp -/
theorem any_str (x : Str) (xs : List Str) : ((xs.map D.str).any fun z => eqD z (.str x)) = decide (x ∈ xs) := by
  rw [List.any_map, Bool.eq_iff_iff, List.any_eq_true, decide_eq_true_iff]
  exact ⟨fun ⟨z, h, e⟩ => by simp [eqD] at e; subst e; exact h, fun h => ⟨x, h, by simp [eqD]⟩⟩
theorem any_int (x : Int) (xs : List Int) : ((xs.map D.int).any fun z => eqD z (.int x)) = decide (x ∈ xs) := by
  rw [List.any_map, Bool.eq_iff_iff, List.any_eq_true, decide_eq_true_iff]
  exact ⟨fun ⟨z, h, e⟩ => by simp [eqD] at e; subst e; exact h, fun h => ⟨x, h, by simp [eqD]⟩⟩
theorem flat_str (xs : List Str) : (xs.map D.str).all flatD = true := by simp [flatD]
theorem flat_int (xs : List Int) : (xs.map D.int).all flatD = true := by simp [flatD]
theorem dInB_tupS (x : Str) (xs : List Str) (s : Store) : dInB (.str x) (.tup (xs.map D.str)) s = some (decide (x ∈ xs)) := by
  have e : inFlat (.str x) (xs.map D.str) = some (decide (x ∈ xs)) := by
    unfold inFlat
    rw [if_pos ⟨rfl, flat_str xs⟩, any_str]
  simp [dInB, dicOf, seqOf, e]
theorem dInB_tupI (x : Int) (xs : List Int) (s : Store) : dInB (.int x) (.tup (xs.map D.int)) s = some (decide (x ∈ xs)) := by
  have e : inFlat (.int x) (xs.map D.int) = some (decide (x ∈ xs)) := by
    unfold inFlat
    rw [if_pos ⟨rfl, flat_int xs⟩, any_int]
  simp [dInB, dicOf, seqOf, e]
theorem dInB_locS {l : Nat} {xs : List Str} {s : Store} (h : s[l]? = some (.lst (xs.map D.str))) (x : Str) : dInB (.str x) (.loc l) s = some (decide (x ∈ xs)) := by
  have e : inFlat (.str x) (xs.map D.str) = some (decide (x ∈ xs)) := by
    unfold inFlat
    rw [if_pos ⟨rfl, flat_str xs⟩, any_str]
  simp [dInB, dicOf, seqOf, lstOf, h, e]
theorem dInB_locI {l : Nat} {xs : List Int} {s : Store} (h : s[l]? = some (.lst (xs.map D.int))) (x : Int) : dInB (.int x) (.loc l) s = some (decide (x ∈ xs)) := by
  have e : inFlat (.int x) (xs.map D.int) = some (decide (x ∈ xs)) := by
    unfold inFlat
    rw [if_pos ⟨rfl, flat_int xs⟩, any_int]
  simp [dInB, dicOf, seqOf, lstOf, h, e]
theorem dIn_of {x y : D} {s : Store} {b : Bool} (h : dInB x y s = some b) : dIn x y s = some (.bl b, s) := by simp [dIn, h]
theorem dNotIn_of {x y : D} {s : Store} {b : Bool} (h : dInB x y s = some b) : dNotIn x y s = some (.bl !b, s) := by simp [dNotIn, h]
theorem dExtend_tup {s : Store} {l : Nat} {xs : List D} (h : s[l]? = some (.lst xs)) (zs : List D) (hz : xs.length + zs.length ≤ 1000000) : dExtend (.loc l) [.tup zs] s = some (.non, s.set l (.lst (xs ++ zs))) := by
  have q : xs.length + zs.length ≤ sizeLine := by rw [sizeLine_eq]; omega
  simp only [dExtend, h]
  rw [if_pos q]
/-! ### loops by place -/
theorem forL_at {gd : Store → Prop} {g : D → Sl → Option Sl} {b : MS} (xs : List D) (I : Nat → Sl → Store → Prop) (Q : RS → Prop) (hg : ∀ i env s, I i env s → gd s)
    (hs : ∀ i d env s, xs[i]? = some d → I i env s → Turns (I (i + 1)) Q (turn g b d env s)) (he : ∀ env s, I xs.length env s → Q (.nx env s)) {env : Sl} {s : Store} (h : I 0 env s) : Q (forL gd g b xs env s) := by
  refine forL_rule (fun ys env s => ∃ i, i ≤ xs.length ∧ ys = xs.drop i ∧ I i env s) Q (fun ys env s ⟨i, hi, _, q⟩ => hg i env s q) (fun x ys env s ⟨i, hi, e, q⟩ => ?_) (fun env s ⟨i, hi, e, q⟩ => ?_) ⟨0, Nat.zero_le _, rfl, h⟩
  · have hx : xs[i]? = some x := by
      have := congrArg (fun l : List D => l[0]?) e
      simpa using this.symm
    have hy : ys = xs.drop (i + 1) := by
      have := congrArg List.tail e
      simpa [List.tail_drop] using this
    have hlt := (List.getElem?_eq_some_iff.mp hx).1
    have t1 := hs i x env s hx q
    cases hb : turn g b x env s with
    | nx env2 s2 => rw [hb] at t1; exact ⟨i + 1, hlt, hy, t1⟩
    | ct env2 s2 => rw [hb] at t1; exact ⟨i + 1, hlt, hy, t1⟩
    | bk env2 s2 => rw [hb] at t1; exact t1
    | rt d s2 => rw [hb] at t1; exact t1
    | ex x env2 s2 => rw [hb] at t1; exact t1
    | no => rw [hb] at t1; exact t1
  · have : i = xs.length := by
      have := congrArg List.length e
      simp at this
      omega
    subst this
    exact he env s q
theorem forL_atT {gd : Store → Prop} {g : D → Sl → Option Sl} {b : MS} (xs : List D) (I : Nat → Sl → Store → Prop) (hg : ∀ i env s, I i env s → gd s)
    (hs : ∀ i d env s, xs[i]? = some d → I i env s → Turns (I (i + 1)) (fun _ => False) (turn g b d env s)) {env : Sl} {s : Store} (h : I 0 env s) : ∃ env' s', forL gd g b xs env s = .nx env' s' ∧ I xs.length env' s' :=
  forL_at xs I (fun r => ∃ env' s', r = .nx env' s' ∧ I xs.length env' s') hg (fun i d env s hi h => by
    have z := hs i d env s hi h
    cases q : turn g b d env s with
    | nx env2 s2 => rw [q] at z; exact z
    | ct env2 s2 => rw [q] at z; exact z
    | bk env2 s2 => rw [q] at z; exact z.elim
    | rt d s2 => rw [q] at z; exact z.elim
    | ex e env2 s2 => rw [q] at z; exact z.elim
    | no => rw [q] at z; exact z.elim) (fun env s h => ⟨env, s, rfl, h⟩) h
/-- a loop of yes-no turns: it goes on, or it returns -/
theorem forL_find {gd : Store → Prop} {g : D → Sl → Option Sl} {b : MS} (xs : List D) (I : Nat → Sl → Store → Prop) (ok : Nat → Bool) (out : Nat → D) (hg : ∀ i env s, I i env s → gd s)
    (hs : ∀ i d env s, xs[i]? = some d → I i env s → if ok i = true then Turns (I (i + 1)) (fun _ => False) (turn g b d env s) else ∃ s', turn g b d env s = .rt (out i) s' ∧ ∃ env', I i env' s') {env : Sl} {s : Store} (h : I 0 env s) :
    match (List.range xs.length).find? (fun i => !ok i) with
    | none => ∃ env' s', forL gd g b xs env s = .nx env' s' ∧ I xs.length env' s'
    | some i => ∃ s' env', forL gd g b xs env s = .rt (out i) s' ∧ I i env' s' := by
  have key : ∀ n, n ≤ xs.length → (∀ j, j < n → ok j = true) → ∀ env s, I n env s → match (List.range' n (xs.length - n)).find? (fun i => !ok i) with
      | none => ∃ env' s', forL gd g b (xs.drop n) env s = .nx env' s' ∧ I xs.length env' s'
      | some i => ∃ s' env', forL gd g b (xs.drop n) env s = .rt (out i) s' ∧ I i env' s' := by
    intro n
    induction hk : xs.length - n generalizing n with
    | zero =>
      intro hn _ env s hI
      have : n = xs.length := by omega
      subst this
      simp
      rw [forL_nil env s gd (hg _ _ _ hI)]
      exact ⟨_, _, rfl, hI⟩
    | succ k ih =>
      intro hn hall env s hI
      have hlt : n < xs.length := by omega
      rw [List.drop_eq_getElem_cons hlt, forL_cons env s gd (hg _ _ _ hI), List.range'_succ]
      have z := hs n xs[n] env s (by simp [hlt]) hI
      unfold turn at z
      by_cases c : ok n = true
      · rw [if_pos c] at z
        simp only [List.find?_cons, c, Bool.not_true]
        cases e1 : g xs[n] env with
        | none => rw [e1] at z; exact z.elim
        | some env1 =>
          rw [e1] at z
          dsimp only at z ⊢
          have hall' : ∀ j, j < n + 1 → ok j = true := fun j hj => by
            rcases Nat.lt_or_ge j n with w | w
            · exact hall j w
            · have : j = n := by omega
              rw [this]; exact c
          cases q : b env1 s with
          | nx env2 s2 => rw [q] at z; exact ih (n + 1) (by omega) hlt hall' env2 s2 z
          | ct env2 s2 => rw [q] at z; exact ih (n + 1) (by omega) hlt hall' env2 s2 z
          | bk env2 s2 => rw [q] at z; exact z.elim
          | rt d s2 => rw [q] at z; exact z.elim
          | ex e env2 s2 => rw [q] at z; exact z.elim
          | no => rw [q] at z; exact z.elim
      · rw [if_neg c] at z
        obtain ⟨s', h1, env', h2⟩ := z
        have c' : ok n = false := by simpa using c
        simp only [List.find?_cons, c', Bool.not_false]
        cases e1 : g xs[n] env with
        | none => rw [e1] at h1; cases h1
        | some env1 =>
          rw [e1] at h1
          dsimp only at h1 ⊢
          rw [h1]
          exact ⟨s', env', rfl, h2⟩
  have := key 0 (Nat.zero_le _) (fun j hj => absurd hj (Nat.not_lt_zero j)) env s h
  rw [Nat.sub_zero, ← List.range_eq_range', List.drop_zero] at this
  exact this
/-- range(i, j) -/
def rng2 (lo : Int) (n : Nat) : List D := (List.range n).map fun k => .int (lo + (k : Nat))
theorem rng2_get {lo : Int} {n i : Nat} {d : D} (h : (rng2 lo n)[i]? = some d) : i < n ∧ d = .int (lo + (i : Nat)) := by
  unfold rng2 at h
  rw [List.getElem?_map] at h
  cases e : (List.range n)[i]? with
  | none => rw [e] at h; cases h
  | some k =>
    rw [e] at h
    cases h
    obtain ⟨hl, he⟩ := List.getElem?_eq_some_iff.mp e
    simp at hl he
    exact ⟨hl, by rw [he]⟩
theorem rng2_len (lo : Int) (n : Nat) : (rng2 lo n).length = n := by simp [rng2]
theorem range2_int (i j : Int) (s : Store) (h0 : 0 ≤ i) (h1 : i ≤ 1000000000) (h2 : 0 ≤ j) (h3 : j ≤ 1000000000) : rangeOf2 [.int i, .int j] s = .ok (Itm.mk (rng2 i (j - i).toNat) always) s := rangeOf2_int s i j h0 h1 h2 h3
theorem rng_get {n i : Nat} {d : D} (h : (rng n)[i]? = some d) : i < n ∧ d = .int (i : Nat) := by
  obtain ⟨a, b⟩ := rng2_get (lo := 0) (n := n) h
  exact ⟨a, by rw [b, Int.zero_add]⟩
theorem rng_len (n : Nat) : (rng n).length = n := by simp [rng]
theorem map_get {α : Type} {f : α → D} {xs : List α} {i : Nat} {d : D} (h : (xs.map f)[i]? = some d) : ∃ x, xs[i]? = some x ∧ d = f x := by
  rw [List.getElem?_map] at h
  cases e : xs[i]? with
  | none => rw [e] at h; cases h
  | some x => rw [e] at h; cases h; exact ⟨x, rfl, rfl⟩
/-- a loop that looks for one that fails, and returns r there -/
theorem forL_all {α : Type} {gd : Store → Prop} {g : D → Sl → Option Sl} {b : MS} (f : α → D) (as : List α) (I : Sl → Prop) (s : Store) (ok : α → Bool) (r : D) (hg : gd s)
    (hs : ∀ a ∈ as, ∀ env, I env → if ok a = true then ∃ env', turn g b (f a) env s = .nx env' s ∧ I env' else turn g b (f a) env s = .rt r s) {env : Sl} (h : I env) :
    if as.all ok = true then ∃ env', forL gd g b (as.map f) env s = .nx env' s ∧ I env' else forL gd g b (as.map f) env s = .rt r s := by
  induction as generalizing env with
  | nil =>
    rw [List.map_nil, forL_nil env s gd hg]
    exact ⟨_, rfl, h⟩
  | cons a as ih =>
    rw [List.map_cons, forL_cons env s gd hg]
    have z := hs a (List.mem_cons_self ..) env h
    unfold turn at z
    by_cases c : ok a = true
    · rw [if_pos c] at z
      obtain ⟨env', z1, z2⟩ := z
      have q := ih (fun a' ha' => hs a' (List.mem_cons_of_mem _ ha')) z2
      cases e1 : g (f a) env with
      | none => rw [e1] at z1; cases z1
      | some env1 =>
        rw [e1] at z1
        dsimp only at z1 ⊢
        rw [z1]
        simpa [c] using q
    · rw [if_neg c] at z
      have c' : ok a = false := by simpa using c
      cases e1 : g (f a) env with
      | none => rw [e1] at z; cases z
      | some env1 =>
        rw [e1] at z
        dsimp only at z ⊢
        rw [z]
        simp [c']
theorem app_new (s : Store) (xs : List D) (y : D) (h : xs.length ≤ 1000000) : dAppend (.loc s.length) [y] (s ++ [.lst xs]) = some (.non, s ++ [.lst (xs ++ [y])]) := by
  have q := dAppend_loc (get_new s (.lst xs)) h y
  rw [q]
  simp
theorem ty_new (s : Store) (xs : List D) : tyOk "list" (s ++ [.lst xs]) (.loc s.length) = true := tyOk_list (get_new s (.lst xs))
theorem tyN_isi {s : Store} {d : D} {t : String} (h : tyN s d = some t) (T : String) : dIsi T d s = (kitB t T).map fun b => (.bl b, s) := by simp [h]
end Mi
namespace Mi
open PySem PySem.Spec PyProof.Rows L2
/-! ### more rules for mirrors -/
theorem tryAs_ex {i : Nat} {cs : List Str} {body : MS} {suite : Nat × Nat → MS} {env env2 : Sl} {s s2 : Store} {e : Ex} {r : RS} (h : body env s = .ex e env2 s2) (h1 : e.cls ∈ cs) (h2 : e.fs ≠ [])
    (h3 : ∀ g : Nat × Nat, clr i (suite g (env2.set i (some (.exv g.1 g.2 e.cls e.fs))) s2) = r) : sTryAs i cs body suite env s = r := by
  unfold sTryAs
  rw [h]
  simp only
  rw [if_pos ⟨h1, h2, fun g => by rw [h3 g]; exact (h3 (0, 0)).symm⟩]
  exact h3 (0, 0)
/-- what stood before stands, and something new behind it -/
def Ext (s s' : Store) : Prop := ∃ r, s' = s ++ r
theorem Ext.refl (s : Store) : Ext s s := ⟨[], by simp⟩
theorem Ext.mk (s r : Store) : Ext s (s ++ r) := ⟨r, rfl⟩
theorem Ext.trans {a b c : Store} (h : Ext a b) (k : Ext b c) : Ext a c := by
  obtain ⟨r, rfl⟩ := h
  obtain ⟨t, rfl⟩ := k
  exact ⟨r ++ t, by simp⟩
theorem Ext.get {a b : Store} (h : Ext a b) {l : Nat} {c : Cell} (e : a[l]? = some c) : b[l]? = some c := by
  obtain ⟨r, rfl⟩ := h
  rw [List.getElem?_append_left (lt_of_get e)]
  exact e
theorem Ext.le {a b : Store} (h : Ext a b) : a.length ≤ b.length := by
  obtain ⟨r, rfl⟩ := h
  simp
/-- an item of a tuple or a list, by place -/
theorem ix_map {α : Type} {f : α → D} {xs : List α} {i : Int} (h0 : 0 ≤ i) (h1 : i < xs.length) : ∃ a, a ∈ xs ∧ xs[i.toNat]? = some a ∧ ∀ s, dIx (.tup (xs.map f)) (.int i) s = some (f a, s) := by
  obtain ⟨n, rfl⟩ := Int.eq_ofNat_of_zero_le h0
  have hn : n < xs.length := by omega
  refine ⟨xs[n], List.getElem_mem _, by simp [hn], fun s => ?_⟩
  rw [dIx_tup, atI_ofNat _ _ (f xs[n]) (by simp [hn])]
  rfl
theorem ixL_map {α : Type} {f : α → D} {xs : List α} {s : Store} {l : Nat} (h : s[l]? = some (.lst (xs.map f))) {i : Int} (h0 : 0 ≤ i) (h1 : i < xs.length) : ∃ a, a ∈ xs ∧ xs[i.toNat]? = some a ∧ dIx (.loc l) (.int i) s = some (f a, s) := by
  obtain ⟨n, rfl⟩ := Int.eq_ofNat_of_zero_le h0
  have hn : n < xs.length := by omega
  refine ⟨xs[n], List.getElem_mem _, by simp [hn], ?_⟩
  rw [dIx_loc h, L2.atI_nat (v := f xs[n]) (by simp [hn])]
  rfl
theorem ix_mem {xs : List D} {i : Int} (h0 : 0 ≤ i) (h1 : i < xs.length) : ∃ a, a ∈ xs ∧ ∀ s, dIx (.tup xs) (.int i) s = some (a, s) := by
  obtain ⟨n, rfl⟩ := Int.eq_ofNat_of_zero_le h0
  have hn : n < xs.length := by omega
  refine ⟨xs[n], List.getElem_mem _, fun s => ?_⟩
  rw [dIx_tup, atI_ofNat _ _ xs[n] (by simp [hn])]
  rfl
theorem ixL_mem {xs : List D} {s : Store} {l : Nat} (h : s[l]? = some (.lst xs)) {i : Int} (h0 : 0 ≤ i) (h1 : i < xs.length) : ∃ a, a ∈ xs ∧ dIx (.loc l) (.int i) s = some (a, s) := by
  obtain ⟨n, rfl⟩ := Int.eq_ofNat_of_zero_le h0
  have hn : n < xs.length := by omega
  refine ⟨xs[n], List.getElem_mem _, ?_⟩
  rw [dIx_loc h, L2.atI_nat (v := xs[n]) (by simp [hn])]
  rfl
theorem dAdd_s {a b : Str} (h : a.length + b.length ≤ 1000000) (s : Store) : dAdd (.str a) (.str b) s = some (.str (a ++ b), s) := by
  have q := le_line h
  simp only [dAdd, q, if_true]
theorem cutS1 (ws : List Str) {k : Nat} (h : k ≤ ws.length) : cutD (ws.map D.str) none (some (k : Int)) = (ws.take k).map D.str := by
  unfold cutD
  rw [HT.sIx_none, HT.sIx_nat]
  simp [Nat.min_eq_left h]
theorem cutS2 (ws : List Str) {k : Nat} (h : k + 1 ≤ ws.length) : cutD (ws.map D.str) (some ((k : Int) + 1)) none = (ws.drop (k + 1)).map D.str := by
  unfold cutD
  rw [HT.sIx_none, show ((k : Int) + 1) = ((k + 1 : Nat) : Int) by omega, HT.sIx_nat, List.length_map, Nat.min_eq_left h, ← List.map_drop]
  rw [List.take_of_length_le (by simp)]
theorem sort_strs (A : List Str) : sortOk (A.map D.str) ∧ ∃ M : List Str, sortD (A.map D.str) = M.map D.str ∧ M.length = A.length ∧ M.Perm A := by
  refine ⟨⟨fun d hd => ?_, ?_, ?_⟩, A.mergeSort fun x y => PySem.W.dataLe false pyD (D.str x) (D.str y), ?_, List.length_mergeSort _, List.mergeSort_perm _ _⟩
  · obtain ⟨x, _, rfl⟩ := List.mem_map.mp hd
    exact ⟨rfl, by show PyData.depth (.str x) ≤ 60; simp [PyData.depth]⟩
  · rw [List.map_map]
    exact PySem.W.AllAlike.of (enc := fun x => pyD (D.str x)) fun x y => by show PySem.W.alike (.str x) (.str y) = true; simp [PySem.W.alike]
  · rw [List.map_map]
    exact PySem.W.Sortable.others (enc := fun x => pyD (D.str x)) fun x => ⟨by show PyData.str x ≠ .none; simp, fun xs => by show PyData.str x ≠ .tuple xs; simp⟩
  · unfold sortD
    rw [List.map_mergeSort (r := fun x y : Str => PySem.W.dataLe false pyD (D.str x) (D.str y)) (s := PySem.W.dataLe false pyD) fun _ _ _ _ => rfl]
/-- a comprehension by place -/
theorem lcL_at {gd : Store → Prop} {g : D → Sl → Option Sl} {t : ME Bool} {e : ME D} {env : Sl} (xs : List D) (I : Nat → List D → Store → Prop) (hg : ∀ i acc s, I i acc s → gd s)
    (hs : ∀ i d acc s, xs[i]? = some d → I i acc s → Kept (I (i + 1)) acc (pick g t e d env s)) {acc : List D} {s : Store} (h : I 0 acc s) : ∃ acc' s', lcL gd g t e env xs acc s = .ok acc' s' ∧ I xs.length acc' s' := by
  obtain ⟨acc', s', h1, i, hi, e, h2⟩ := lcL_thru (gd := gd) (g := g) (t := t) (e := e) (env := env) (fun ys acc s => ∃ i, i ≤ xs.length ∧ ys = xs.drop i ∧ I i acc s) (fun _ acc s ⟨i, hi, _, q⟩ => hg i acc s q) (fun x ys acc s ⟨i, hi, e, q⟩ => by
    have hx : xs[i]? = some x := by
      have := congrArg (fun l : List D => l[0]?) e
      simpa using this.symm
    have hy : ys = xs.drop (i + 1) := by
      have := congrArg List.tail e
      simpa [List.tail_drop] using this
    have hlt := (List.getElem?_eq_some_iff.mp hx).1
    have z := hs i x acc s hx q
    cases hp : pick g t _ x env s with
    | no => rw [hp] at z; exact z
    | ex x s => rw [hp] at z; exact z
    | ok o s2 =>
      rw [hp] at z
      cases o with
      | none => exact ⟨i + 1, hlt, hy, z⟩
      | some y => exact ⟨z.1, i + 1, hlt, hy, z.2⟩) (xs := xs) ⟨0, Nat.zero_le _, rfl, h⟩
  have : i = xs.length := by
    have := congrArg List.length e
    simp at this
    omega
  subst this
  exact ⟨acc', s', h1, h2⟩
/-! ### statement by statement -/
section
variable {P : RS → Prop} {i : Nat} {a : ME D} {t : ME Bool} {f g r : MS} {env env2 : Sl} {s s' s2 : Store} {d : D}
theorem st_set (h : a env s = .ok d s') (k : P (r (env.set i (some d)) s')) : P (sSeq (sSet i a) r env s) := by
  show P (RS.bind ((a env s).then env fun d s => .nx (env.set i (some d)) s) r)
  rw [h]
  exact k
theorem st_no (h : t env s = .ok false s') (k : P (r env s')) : P (sSeq (sIf t f sNil) r env s) := by
  show P (RS.bind ((t env s).then env fun b s => if b then f env s else sNil env s) r)
  rw [h]
  exact k
theorem st_else (h : t env s = .ok false s') (h2 : g env s' = .nx env2 s2) (k : P (r env2 s2)) : P (sSeq (sIf t f g) r env s) := by
  show P (RS.bind ((t env s).then env fun b s => if b then f env s else g env s) r)
  rw [h]
  show P (RS.bind (g env s') r)
  rw [h2]
  exact k
theorem st_yes (h : t env s = .ok true s') (h2 : f env s' = .nx env2 s2) (k : P (r env2 s2)) : P (sSeq (sIf t f g) r env s) := by
  show P (RS.bind ((t env s).then env fun b s => if b then f env s else g env s) r)
  rw [h]
  show P (RS.bind (f env s') r)
  rw [h2]
  exact k
theorem st_out (h : t env s = .ok true s') (h2 : f env s' = .rt d s2) (k : P (.rt d s2)) : P (sSeq (sIf t f g) r env s) := by
  show P (RS.bind ((t env s).then env fun b s => if b then f env s else g env s) r)
  rw [h]
  show P (RS.bind (f env s') r)
  rw [h2]
  exact k
theorem st_for {it : ME Itm} {x : Itm} {gt : D → Sl → Option Sl} {b : MS} (h : it env s = .ok x s') (h2 : forL x.guard gt b x.xs env s' = .nx env2 s2) (k : P (r env2 s2)) : P (sSeq (sFor it gt b) r env s) := by
  show P (RS.bind ((it env s).then env fun i s => forL i.guard gt b i.xs env s) r)
  rw [h]
  show P (RS.bind (forL x.guard gt b x.xs env s') r)
  rw [h2]
  exact k
theorem st_expr (h : a env s = .ok d s') (k : P (r env s')) : P (sSeq (sExpr a) r env s) := by
  show P (RS.bind ((a env s).then env fun _ s => .nx env s) r)
  rw [h]
  exact k
theorem st_ret (h : a env s = .ok d s') (k : P (.rt d s')) : P (sRet a env s) := by
  show P ((a env s).then env fun d s => .rt d s)
  rw [h]
  exact k
/-- it returns True -/
def Yes (r : RS) : Prop := ∃ s, r = .rt (.bl true) s
theorem Yes.fn {N n : Nat} {b : MS} {ds : List D} {s : Store} (h : Yes (b (ds.map some ++ List.replicate (N - n) none) s)) : ∃ s', fnM N n b ds s = .ok (.bl true) s' := by
  obtain ⟨s', e⟩ := h
  exact ⟨s', by rw [fnM_eq, e]⟩
end
end Mi
namespace Law
open PySem PySem.Spec PyProof.Rows L2 Mi
/-! ### the text -/
def topS (i : Nat) : Stmt := PySem.Challenge.pw_beforeinall_k28_parents_of_houses.main.body.getD i (.Pass ⟨0, 0, 0, 0⟩)
abbrev s_is_integer : Stmt := topS 5
abbrev s_houses_under : Stmt := topS 7
abbrev s_are_parents : Stmt := topS 8
abbrev s_is_tied : Stmt := topS 9
abbrev s_check_parents : Stmt := topS 10
abbrev s_d_law_pool : Stmt := topS 12
abbrev s_d_law_draw : Stmt := topS 13
abbrev s_d_law_words : Stmt := topS 14
abbrev s_d_law_next : Stmt := topS 15
abbrev s_d_law_members : Stmt := topS 16
abbrev s_d_law_houses : Stmt := topS 17
abbrev s_d_law_judge : Stmt := topS 18
abbrev s_d_law_ask : Stmt := topS 19
abbrev s_d_law_right : Stmt := topS 20
abbrev s_d_law_put : Stmt := topS 21
abbrev s_d_law_bent : Stmt := topS 22
abbrev s_law : Stmt := topS 23
theorem sc_is_integer : FnScope ["thing"] ["thing"] (defScope s_is_integer) := ⟨rfl, rfl, rfl, by decide +kernel, rfl, by decide +kernel, by decide +kernel⟩
theorem sc_houses_under : FnScope ["parents", "house", "found", "at"] ["parents", "house"] (defScope s_houses_under) := ⟨rfl, rfl, rfl, by decide +kernel, rfl, by decide +kernel, by decide +kernel⟩
theorem sc_are_parents : FnScope ["many", "thing", "house"] ["many", "thing"] (defScope s_are_parents) := ⟨rfl, rfl, rfl, by decide +kernel, rfl, by decide +kernel, by decide +kernel⟩
theorem sc_is_tied : FnScope ["houses", "parents", "house", "under", "outside", "at", "book", "deed"] ["houses", "parents", "house"] (defScope s_is_tied) := ⟨rfl, rfl, rfl, by decide +kernel, rfl, by decide +kernel, by decide +kernel⟩
theorem sc_check_parents : FnScope ["houses", "thing", "house"] ["houses", "thing"] (defScope s_check_parents) := ⟨rfl, rfl, rfl, by decide +kernel, rfl, by decide +kernel, by decide +kernel⟩
theorem sc_d_law_pool : FnScope ["script", "cells", "cell"] ["script"] (defScope s_d_law_pool) := ⟨rfl, rfl, rfl, by decide +kernel, rfl, by decide +kernel, by decide +kernel⟩
theorem sc_d_law_draw : FnScope ["pool", "many", "cells", "turn", "at", "cell", "one", "two"] ["pool", "many"] (defScope s_d_law_draw) := ⟨rfl, rfl, rfl, by decide +kernel, rfl, by decide +kernel, by decide +kernel⟩
theorem sc_d_law_words : FnScope ["pool", "many", "words", "letter", "tail", "out", "step", "at"] ["pool", "many"] (defScope s_d_law_words) := ⟨rfl, rfl, rfl, by decide +kernel, rfl, by decide +kernel, by decide +kernel⟩
theorem sc_d_law_next : FnScope ["parents", "group", "out", "house", "near", "other"] ["parents", "group"] (defScope s_d_law_next) := ⟨rfl, rfl, rfl, by decide +kernel, rfl, by decide +kernel, by decide +kernel⟩
theorem sc_d_law_members : FnScope ["pool", "parents", "words", "house", "members", "word", "group", "step", "near"] ["pool", "parents", "words"] (defScope s_d_law_members) := ⟨rfl, rfl, rfl, by decide +kernel, rfl, by decide +kernel, by decide +kernel⟩
theorem sc_d_law_houses : FnScope ["pool", "members", "out", "words", "deeds", "first", "entries", "step", "one", "other"] ["pool", "members"] (defScope s_d_law_houses) := ⟨rfl, rfl, rfl, by decide +kernel, rfl, by decide +kernel, by decide +kernel⟩
theorem sc_d_law_judge : FnScope ["houses", "thing", "at", "number", "within", "house", "deed", "other"] ["houses", "thing"] (defScope s_d_law_judge) := ⟨rfl, rfl, rfl, by decide +kernel, rfl, by decide +kernel, by decide +kernel⟩
theorem sc_d_law_ask : FnScope ["houses", "thing", "refused"] ["houses", "thing"] (defScope s_d_law_ask) := ⟨rfl, rfl, rfl, by decide +kernel, rfl, by decide +kernel, by decide +kernel⟩
theorem sc_d_law_right : FnScope ["houses", "thing", "due", "told"] ["houses", "thing"] (defScope s_d_law_right) := ⟨rfl, rfl, rfl, by decide +kernel, rfl, by decide +kernel, by decide +kernel⟩
theorem sc_d_law_put : FnScope ["row", "at", "thing"] ["row", "at", "thing"] (defScope s_d_law_put) := ⟨rfl, rfl, rfl, by decide +kernel, rfl, by decide +kernel, by decide +kernel⟩
theorem sc_d_law_bent : FnScope ["pool", "parents", "kind", "strange", "at", "odd"] ["pool", "parents"] (defScope s_d_law_bent) := ⟨rfl, rfl, rfl, by decide +kernel, rfl, by decide +kernel, by decide +kernel⟩
theorem sc_law : FnScope ["script", "pool", "many", "count", "at", "parents", "words", "members", "houses", "told", "odd", "step", "place", "word", "more", "other", "lone", "row"] ["script"] (defScope s_law) := ⟨rfl, rfl, rfl, by decide +kernel, rfl, by decide +kernel, by decide +kernel⟩
abbrev s_BadParents : Stmt := (clsBody (topS 3)).getD 0 (.Pass ⟨0, 0, 0, 0⟩)
theorem sc_BadParents : FnScope ["self", "at"] ["self", "at"] (defScope s_BadParents) := ⟨rfl, rfl, rfl, by decide +kernel, rfl, by decide +kernel, by decide +kernel⟩
/-! ### what the top has left -/
structure Fx (K : PySem.W.Frag) (mg : Str → Option Value) where
  a_is_integer : Addr
  d_is_integer : FuncData
  F_is_integer : Fun K "is_integer" "is_integer" s_is_integer a_is_integer d_is_integer
  g_is_integer : mg "is_integer" = some (.ref a_is_integer)
  a_houses_under : Addr
  d_houses_under : FuncData
  F_houses_under : Fun K "houses_under" "houses_under" s_houses_under a_houses_under d_houses_under
  g_houses_under : mg "houses_under" = some (.ref a_houses_under)
  a_are_parents : Addr
  d_are_parents : FuncData
  F_are_parents : Fun K "are_parents" "are_parents" s_are_parents a_are_parents d_are_parents
  g_are_parents : mg "are_parents" = some (.ref a_are_parents)
  a_is_tied : Addr
  d_is_tied : FuncData
  F_is_tied : Fun K "is_tied" "is_tied" s_is_tied a_is_tied d_is_tied
  g_is_tied : mg "is_tied" = some (.ref a_is_tied)
  a_check_parents : Addr
  d_check_parents : FuncData
  F_check_parents : Fun K "check_parents" "check_parents" s_check_parents a_check_parents d_check_parents
  g_check_parents : mg "check_parents" = some (.ref a_check_parents)
  a_d_law_pool : Addr
  d_d_law_pool : FuncData
  F_d_law_pool : Fun K "_law_pool" "_law_pool" s_d_law_pool a_d_law_pool d_d_law_pool
  g_d_law_pool : mg "_law_pool" = some (.ref a_d_law_pool)
  a_d_law_draw : Addr
  d_d_law_draw : FuncData
  F_d_law_draw : Fun K "_law_draw" "_law_draw" s_d_law_draw a_d_law_draw d_d_law_draw
  g_d_law_draw : mg "_law_draw" = some (.ref a_d_law_draw)
  a_d_law_words : Addr
  d_d_law_words : FuncData
  F_d_law_words : Fun K "_law_words" "_law_words" s_d_law_words a_d_law_words d_d_law_words
  g_d_law_words : mg "_law_words" = some (.ref a_d_law_words)
  a_d_law_next : Addr
  d_d_law_next : FuncData
  F_d_law_next : Fun K "_law_next" "_law_next" s_d_law_next a_d_law_next d_d_law_next
  g_d_law_next : mg "_law_next" = some (.ref a_d_law_next)
  a_d_law_members : Addr
  d_d_law_members : FuncData
  F_d_law_members : Fun K "_law_members" "_law_members" s_d_law_members a_d_law_members d_d_law_members
  g_d_law_members : mg "_law_members" = some (.ref a_d_law_members)
  a_d_law_houses : Addr
  d_d_law_houses : FuncData
  F_d_law_houses : Fun K "_law_houses" "_law_houses" s_d_law_houses a_d_law_houses d_d_law_houses
  g_d_law_houses : mg "_law_houses" = some (.ref a_d_law_houses)
  a_d_law_judge : Addr
  d_d_law_judge : FuncData
  F_d_law_judge : Fun K "_law_judge" "_law_judge" s_d_law_judge a_d_law_judge d_d_law_judge
  g_d_law_judge : mg "_law_judge" = some (.ref a_d_law_judge)
  a_d_law_ask : Addr
  d_d_law_ask : FuncData
  F_d_law_ask : Fun K "_law_ask" "_law_ask" s_d_law_ask a_d_law_ask d_d_law_ask
  g_d_law_ask : mg "_law_ask" = some (.ref a_d_law_ask)
  a_d_law_right : Addr
  d_d_law_right : FuncData
  F_d_law_right : Fun K "_law_right" "_law_right" s_d_law_right a_d_law_right d_d_law_right
  g_d_law_right : mg "_law_right" = some (.ref a_d_law_right)
  a_d_law_put : Addr
  d_d_law_put : FuncData
  F_d_law_put : Fun K "_law_put" "_law_put" s_d_law_put a_d_law_put d_d_law_put
  g_d_law_put : mg "_law_put" = some (.ref a_d_law_put)
  a_d_law_bent : Addr
  d_d_law_bent : FuncData
  F_d_law_bent : Fun K "_law_bent" "_law_bent" s_d_law_bent a_d_law_bent d_d_law_bent
  g_d_law_bent : mg "_law_bent" = some (.ref a_d_law_bent)
  a_law : Addr
  d_law : FuncData
  F_law : Fun K "law" "law" s_law a_law d_law
  g_law : mg "law" = some (.ref a_law)
  c_BadParents : Addr
  i_BadParents : Addr
  d_BadParents : FuncData
  gc_BadParents : mg "BadParents" = some (.ref c_BadParents)
  T_BadParents : OexC K c_BadParents
  iC_BadParents : PySem.W.findIn K (.ref c_BadParents) "__init__" = some (some (.ref i_BadParents))
  tI_BadParents : PySem.W.typeIn K (.ref i_BadParents) = some (.type "function")
  F_BadParents : Fun K "__init__" "BadParents.__init__" s_BadParents i_BadParents d_BadParents
  xf_BadParents : XfC K c_BadParents
  te_BadParents : PySem.W.exmOne K (.ref c_BadParents) (.ref c_BadParents) = some true
  no_BadParents_at : PySem.W.findIn K (.ref c_BadParents) "at" = some none
  b_bool : mg "bool" = none
  b_enumerate : mg "enumerate" = none
  b_int : mg "int" = none
  b_isinstance : mg "isinstance" = none
  b_len : mg "len" = none
  b_list : mg "list" = none
  b_range : mg "range" = none
  b_sorted : mg "sorted" = none
  b_str : mg "str" = none
  b_tuple : mg "tuple" = none
variable {P : Program} {w : World} {K : PySem.W.Frag} {mg : Str → Option Value} {base : Heap}
theorem bd_is_integer (X : Fx K mg) : Binds K X.d_is_integer ["thing"] [] := X.F_is_integer.binds (ps := ["thing"]) fun _ _ _ _ _ _ us hl => match us, hl with | [_], _ => rfl
theorem bd_houses_under (X : Fx K mg) : Binds K X.d_houses_under ["parents", "house"] [] := X.F_houses_under.binds (ps := ["parents", "house"]) fun _ _ _ _ _ _ us hl => match us, hl with | [_, _], _ => rfl
theorem bd_are_parents (X : Fx K mg) : Binds K X.d_are_parents ["many", "thing"] [] := X.F_are_parents.binds (ps := ["many", "thing"]) fun _ _ _ _ _ _ us hl => match us, hl with | [_, _], _ => rfl
theorem bd_is_tied (X : Fx K mg) : Binds K X.d_is_tied ["houses", "parents", "house"] [] := X.F_is_tied.binds (ps := ["houses", "parents", "house"]) fun _ _ _ _ _ _ us hl => match us, hl with | [_, _, _], _ => rfl
theorem bd_check_parents (X : Fx K mg) : Binds K X.d_check_parents ["houses", "thing"] [] := X.F_check_parents.binds (ps := ["houses", "thing"]) fun _ _ _ _ _ _ us hl => match us, hl with | [_, _], _ => rfl
theorem bd_d_law_pool (X : Fx K mg) : Binds K X.d_d_law_pool ["script"] [] := X.F_d_law_pool.binds (ps := ["script"]) fun _ _ _ _ _ _ us hl => match us, hl with | [_], _ => rfl
theorem bd_d_law_draw (X : Fx K mg) : Binds K X.d_d_law_draw ["pool", "many"] [] := X.F_d_law_draw.binds (ps := ["pool", "many"]) fun _ _ _ _ _ _ us hl => match us, hl with | [_, _], _ => rfl
theorem bd_d_law_words (X : Fx K mg) : Binds K X.d_d_law_words ["pool", "many"] [] := X.F_d_law_words.binds (ps := ["pool", "many"]) fun _ _ _ _ _ _ us hl => match us, hl with | [_, _], _ => rfl
theorem bd_d_law_next (X : Fx K mg) : Binds K X.d_d_law_next ["parents", "group"] [] := X.F_d_law_next.binds (ps := ["parents", "group"]) fun _ _ _ _ _ _ us hl => match us, hl with | [_, _], _ => rfl
theorem bd_d_law_members (X : Fx K mg) : Binds K X.d_d_law_members ["pool", "parents", "words"] [] := X.F_d_law_members.binds (ps := ["pool", "parents", "words"]) fun _ _ _ _ _ _ us hl => match us, hl with | [_, _, _], _ => rfl
theorem bd_d_law_houses (X : Fx K mg) : Binds K X.d_d_law_houses ["pool", "members"] [] := X.F_d_law_houses.binds (ps := ["pool", "members"]) fun _ _ _ _ _ _ us hl => match us, hl with | [_, _], _ => rfl
theorem bd_d_law_judge (X : Fx K mg) : Binds K X.d_d_law_judge ["houses", "thing"] [] := X.F_d_law_judge.binds (ps := ["houses", "thing"]) fun _ _ _ _ _ _ us hl => match us, hl with | [_, _], _ => rfl
theorem bd_d_law_ask (X : Fx K mg) : Binds K X.d_d_law_ask ["houses", "thing"] [] := X.F_d_law_ask.binds (ps := ["houses", "thing"]) fun _ _ _ _ _ _ us hl => match us, hl with | [_, _], _ => rfl
theorem bd_d_law_right (X : Fx K mg) : Binds K X.d_d_law_right ["houses", "thing"] [] := X.F_d_law_right.binds (ps := ["houses", "thing"]) fun _ _ _ _ _ _ us hl => match us, hl with | [_, _], _ => rfl
theorem bd_d_law_put (X : Fx K mg) : Binds K X.d_d_law_put ["row", "at", "thing"] [] := X.F_d_law_put.binds (ps := ["row", "at", "thing"]) fun _ _ _ _ _ _ us hl => match us, hl with | [_, _, _], _ => rfl
theorem bd_d_law_bent (X : Fx K mg) : Binds K X.d_d_law_bent ["pool", "parents"] [] := X.F_d_law_bent.binds (ps := ["pool", "parents"]) fun _ _ _ _ _ _ us hl => match us, hl with | [_, _], _ => rfl
theorem bd_law (X : Fx K mg) : Binds K X.d_law ["script"] [] := X.F_law.binds (ps := ["script"]) fun _ _ _ _ _ _ us hl => match us, hl with | [_], _ => rfl
theorem bi_BadParents (X : Fx K mg) : Binds K X.d_BadParents ["self", "at"] [] := X.F_BadParents.binds (ps := ["self", "at"]) fun _ _ _ _ _ _ us hl => match us, hl with | [_, _], _ => rfl
theorem oi_BadParents (X : Fx K mg) : FnOk P w K mg base (L2.CX P w) 1 X.i_BadParents X.d_BadParents ["self", "at"] (spI1 X.c_BadParents "at") := okI1 X.F_BadParents sc_BadParents rfl rfl X.T_BadParents X.no_BadParents_at fun cdv A outer s H E => pss_one (ps_ost (pv 0) (pv 1))
/-! ### mirrors and derivations -/
noncomputable def b_is_integer : MS := sRet (eAnd (e1 (dIsi "int") (eV 0)) (eNot (e1 (dIsi "bool") (eV 0))))
noncomputable def m_is_integer : List D → Store → R D := fnM 1 1 b_is_integer
theorem ok_is_integer (X : Fx K mg) : FnOk P w K mg base (L2.CX P w) 1 X.a_is_integer X.d_is_integer ["thing"] (spM K mg 1 m_is_integer) :=
  okM (k := 0) X.F_is_integer sc_is_integer rfl fun cdv A outer s H E hr tk =>
    (css_one (cs_ret (ce_and (ce_isi (T := "int") (by rfl) X.b_isinstance (by rfl) X.b_int (by decide +kernel) (ce_v 0)) (ce_one (ce_not (ce_isi (T := "bool") (by rfl) X.b_isinstance (by rfl) X.b_bool (by decide +kernel) (ce_v 0)))))) :
      PSs _ _ (Ts _ _ _ b_is_integer))
noncomputable def bl_houses_under_1 : MS := sIf (tV (e2 dIn (e2 dIx (eV 0) (eV 3)) (eV 2))) (sExpr (eMt "list" dAppend (eV 2) (aCons (eV 3) (aNil)))) (sNil)
noncomputable def b_houses_under : MS := sSeq (sSet 2 (eLst (aCons (eV 1) (aNil))))
  (sSeq (sFor (iRange2 (aCons (e2 dAdd (eV 1) (eC (.int 1))) (aCons (eFn dLen (aCons (eV 0) (aNil))) (aNil)))) (gN 3) (bl_houses_under_1))
  (sRet (eV 2)))
noncomputable def m_houses_under : List D → Store → R D := fnM 4 2 b_houses_under
theorem ok_houses_under (X : Fx K mg) : FnOk P w K mg base (L2.CX P w) 1 X.a_houses_under X.d_houses_under ["parents", "house"] (spM K mg 2 m_houses_under) :=
  okM (k := 0) X.F_houses_under sc_houses_under rfl fun cdv A outer s H E hr tk =>
    (css_cons (cs_set (j := 2) sc_houses_under.nd rfl (Or.inl rfl) (ce_lst (ca_cons (ce_v 1) (ca_nil))))
    (css_cons (cs_for (passes_of rfl) rfl (ci_range2 (by rfl) X.b_range (ca_cons (ce_op op_addA ops_add (ce_v 1) (ce_int)) (ca_cons (ce_callB call_len fns_len (by rfl) X.b_len (by decide +kernel) (ca_cons (ce_v 0) (ca_nil))) (ca_nil)))) (cg_name (i := 3) sc_houses_under.nd rfl (by first | exact Or.inl rfl | exact Or.inr rfl)) (css_one (cs_if (ct_cmp (opA_in (un65 hr)) ops_in (ce_ix ix_seq ops_ix (ce_v 0) (ce_v 3) (fun _ _ => rfl)) (ce_v 2) (by with_unfolding_all rfl)) (css_one (cs_expr (ce_bm PySem.F.plainAttrs_list PySem.F.slot_list_append PySem.F.type_list_append mt_append mts_append (ce_v 2) (ca_cons (ce_v 3) (ca_nil))))) (css_nil))))
    (css_one (cs_ret (ce_v 2)))) :
      PSs _ _ (Ts _ _ _ b_houses_under))
noncomputable def le_d_law_pool_1 : ME D := eFn dInt (aCons (eV 2) (aNil))
noncomputable def b_d_law_pool : MS := sSeq (sSet 1 (eLc (iSeq (eV 0)) [2] (gN 2) (tT) (le_d_law_pool_1)))
  (sSeq (sIf (tV (e2 dEq (eV 1) (eLst (aNil)))) (sSet 1 (eLst (aCons (eC (.int 29)) (aNil)))) (sNil))
  (sRet (eLst (aCons (eV 1) (aCons (eC (.int 0)) (aNil))))))
noncomputable def m_d_law_pool : List D → Store → R D := fnM 3 1 b_d_law_pool
theorem ok_d_law_pool (X : Fx K mg) : FnOk P w K mg base (L2.CX P w) 1 X.a_d_law_pool X.d_d_law_pool ["script"] (spM K mg 1 m_d_law_pool) :=
  okM (k := 0) X.F_d_law_pool sc_d_law_pool rfl fun cdv A outer s H E hr tk =>
    (css_cons (cs_setLc (i := 1) (own := [("cell", 2)]) rfl sc_d_law_pool.nd rfl rfl (sw_true rfl rfl rfl (by decide +kernel)) (ci_seq (ce_v 0)) (blkOk_by (N := ["script", "cells", "cell"]) (sc := defScope s_d_law_pool) (by decide +kernel)) (fun _ _ _ _ _ => cg_name (i := 2) sc_d_law_pool.nd rfl (by first | exact Or.inl rfl | exact Or.inr rfl)) (fun _ _ _ _ _ => cts_nil) (fun _ _ _ _ _ => ce_callTy call_int1 fns_int (by rfl) X.b_int (by decide +kernel) (ca_cons (ce_v 2) (ca_nil))))
    (css_cons (cs_if (ct_cmp (opA_eq hr.units) ops_eq (ce_v 1) (ce_lst (ca_nil)) (nomark _)) (css_one (cs_set (j := 1) sc_d_law_pool.nd rfl (Or.inl rfl) (ce_lst (ca_cons (ce_int) (ca_nil))))) (css_nil))
    (css_one (cs_ret (ce_lst (ca_cons (ce_v 1) (ca_cons (ce_int) (ca_nil))))))) :
      PSs _ _ (Ts _ _ _ b_d_law_pool))
noncomputable def b_d_law_draw : MS := sSeq (sSet 2 (e2 dIx (eV 0) (eC (.int 0))))
  (sSeq (sSet 3 (e2 dIx (eV 0) (eC (.int 1))))
  (sSeq (sPut pList (eV 0) (eC (.int 1)) (e2 dAdd (eV 3) (eC (.int 1))))
  (sSeq (sSet 4 (e2 dMod (eV 3) (eFn dLen (aCons (eV 2) (aNil)))))
  (sSeq (sSet 5 (e2 dIx (eV 2) (eV 4)))
  (sSeq (sIf (tV (e2 dGe (eV 5) (eC (.int 1000000000000000000)))) (sSeq (sPut pList (eV 2) (eV 4) (e2 dDiv (eV 5) (eV 1)))
  (sRet (e2 dMod (eFn dInt (aCons (eV 5) (aNil))) (eV 1)))) (sNil))
  (sSeq (sSet 6 (e2 dMod (eFn dInt (aCons (e2 dAdd (e2 dAdd (e2 dMul (eV 5) (eC (.int 36643))) (e2 dMul (eV 3) (eC (.int 8053)))) (eC (.int 331))) (aNil))) (eC (.int 1000121))))
  (sSeq (sSet 7 (e2 dMod (eFn dInt (aCons (e2 dAdd (e2 dAdd (e2 dMul (eV 6) (eV 6)) (e2 dMul (eV 6) (eC (.int 6607)))) (e2 dMul (eV 3) (eC (.int 29)))) (aNil))) (eC (.int 999907))))
  (sRet (e2 dMod (eV 7) (eV 1))))))))))
noncomputable def m_d_law_draw : List D → Store → R D := fnM 8 2 b_d_law_draw
theorem ok_d_law_draw (X : Fx K mg) : FnOk P w K mg base (L2.CX P w) 1 X.a_d_law_draw X.d_d_law_draw ["pool", "many"] (spM K mg 2 m_d_law_draw) :=
  okM (k := 0) X.F_d_law_draw sc_d_law_draw rfl fun cdv A outer s H E hr tk =>
    (css_cons (cs_set (j := 2) sc_d_law_draw.nd rfl (Or.inl rfl) (ce_ix ix_seq ops_ix (ce_v 0) (ce_int) (fun _ _ => rfl)))
    (css_cons (cs_set (j := 3) sc_d_law_draw.nd rfl (Or.inl rfl) (ce_ix ix_seq ops_ix (ce_v 0) (ce_int) (fun _ _ => rfl)))
    (css_cons (cs_put (ce_op op_addA ops_add (ce_v 3) (ce_int)) (ce_v 0) (ce_int) set_list puts_list)
    (css_cons (cs_set (j := 4) sc_d_law_draw.nd rfl (Or.inl rfl) (ce_op op_mod ops_mod (ce_v 3) (ce_callB call_len fns_len (by rfl) X.b_len (by decide +kernel) (ca_cons (ce_v 2) (ca_nil)))))
    (css_cons (cs_set (j := 5) sc_d_law_draw.nd rfl (Or.inl rfl) (ce_ix ix_seq ops_ix (ce_v 2) (ce_v 4) (fun _ _ => rfl)))
    (css_cons (cs_if (ct_cmp opA_ge ops_ge (ce_v 5) (ce_int) (nomark _)) (css_cons (cs_put (ce_op op_fdiv ops_div (ce_v 5) (ce_v 1)) (ce_v 2) (ce_v 4) set_list puts_list)
    (css_one (cs_ret (ce_op op_mod ops_mod (ce_callTy call_int1 fns_int (by rfl) X.b_int (by decide +kernel) (ca_cons (ce_v 5) (ca_nil))) (ce_v 1))))) (css_nil))
    (css_cons (cs_set (j := 6) sc_d_law_draw.nd rfl (Or.inl rfl) (ce_op op_mod ops_mod (ce_callTy call_int1 fns_int (by rfl) X.b_int (by decide +kernel) (ca_cons (ce_op op_addA ops_add (ce_op op_addA ops_add (ce_op op_mul ops_mul (ce_v 5) (ce_int)) (ce_op op_mul ops_mul (ce_v 3) (ce_int))) (ce_int)) (ca_nil))) (ce_int)))
    (css_cons (cs_set (j := 7) sc_d_law_draw.nd rfl (Or.inl rfl) (ce_op op_mod ops_mod (ce_callTy call_int1 fns_int (by rfl) X.b_int (by decide +kernel) (ca_cons (ce_op op_addA ops_add (ce_op op_addA ops_add (ce_op op_mul ops_mul (ce_v 6) (ce_v 6)) (ce_op op_mul ops_mul (ce_v 6) (ce_int))) (ce_op op_mul ops_mul (ce_v 3) (ce_int))) (ca_nil))) (ce_int)))
    (css_one (cs_ret (ce_op op_mod ops_mod (ce_v 7) (ce_v 1))))))))))) :
      PSs _ _ (Ts _ _ _ b_d_law_draw))
noncomputable def bl_d_law_next_1 : MS := sIf (tAnd (tV (e2 dGt (eV 5) (eC (.int 0)))) (tV (e2 dEq (e2 dIx (eV 0) (eV 5)) (eV 3)))) (sSet 4 (eC (.bl true))) (sNil)
noncomputable def bl_d_law_next_2 : MS := sSeq (sSet 4 (eAnd (e2 dGt (eV 3) (eC (.int 0))) (e2 dIn (e2 dIx (eV 0) (eV 3)) (eV 1))))
  (sSeq (sFor (iSeq (eV 1)) (gN 5) (bl_d_law_next_1))
  (sIf (tAnd (tTru (eV 4)) (tV (e2 dNotIn (eV 3) (eV 1)))) (sExpr (eMt "list" dAppend (eV 2) (aCons (eV 3) (aNil)))) (sNil)))
noncomputable def b_d_law_next : MS := sSeq (sSet 2 (eLst (aNil)))
  (sSeq (sFor (iRange1 (aCons (eFn dLen (aCons (eV 0) (aNil))) (aNil))) (gN 3) (bl_d_law_next_2))
  (sRet (eV 2)))
noncomputable def m_d_law_next : List D → Store → R D := fnM 6 2 b_d_law_next
theorem ok_d_law_next (X : Fx K mg) : FnOk P w K mg base (L2.CX P w) 1 X.a_d_law_next X.d_d_law_next ["parents", "group"] (spM K mg 2 m_d_law_next) :=
  okM (k := 0) X.F_d_law_next sc_d_law_next rfl fun cdv A outer s H E hr tk =>
    (css_cons (cs_set (j := 2) sc_d_law_next.nd rfl (Or.inl rfl) (ce_lst (ca_nil)))
    (css_cons (cs_for (passes_of rfl) rfl (ci_range1 (by rfl) X.b_range (ca_cons (ce_callB call_len fns_len (by rfl) X.b_len (by decide +kernel) (ca_cons (ce_v 0) (ca_nil))) (ca_nil))) (cg_name (i := 3) sc_d_law_next.nd rfl (by first | exact Or.inl rfl | exact Or.inr rfl)) (css_cons (cs_set (j := 4) sc_d_law_next.nd rfl (Or.inl rfl) (ce_and (ce_cmp opA_gt ops_gt (ce_v 3) (ce_int) (nomark _)) (ce_one (ce_cmp (opA_in (un65 hr)) ops_in (ce_ix ix_seq ops_ix (ce_v 0) (ce_v 3) (fun _ _ => rfl)) (ce_v 1) (by with_unfolding_all rfl)))))
    (css_cons (cs_for (passes_of rfl) rfl (ci_seq (ce_v 1)) (cg_name (i := 5) sc_d_law_next.nd rfl (by first | exact Or.inl rfl | exact Or.inr rfl)) (css_one (cs_if (PW.pt (cw_and (ct_cmp opA_gt ops_gt (ce_v 5) (ce_int) (nomark _)) (cw_and1 (ct_cmp (opA_eq hr.units) ops_eq (ce_ix ix_seq ops_ix (ce_v 0) (ce_v 5) (fun _ _ => rfl)) (ce_v 3) (nomark _))))) (css_one (cs_set (j := 4) sc_d_law_next.nd rfl (Or.inl rfl) (ce_bl))) (css_nil))))
    (css_one (cs_if (PW.pt (cw_and (ct_tru (ce_v 4)) (cw_and1 (ct_cmp (opA_notin (un65 hr)) ops_notin (ce_v 3) (ce_v 1) (by with_unfolding_all rfl))))) (css_one (cs_expr (ce_bm PySem.F.plainAttrs_list PySem.F.slot_list_append PySem.F.type_list_append mt_append mts_append (ce_v 2) (ca_cons (ce_v 3) (ca_nil))))) (css_nil))))))
    (css_one (cs_ret (ce_v 2)))) :
      PSs _ _ (Ts _ _ _ b_d_law_next))
noncomputable def bl_d_law_judge_1 : MS := sIf (tAnd (tV (e2 dNotIn (eV 7) (eV 4))) (tV (e2 dIn (eV 6) (e2 dIx (e2 dIx (eV 0) (eV 7)) (eC (.int 2)))))) (sIf (tOr (tV (e2 dNotIn (eV 6) (e2 dIx (e2 dIx (eV 0) (eV 2)) (eC (.int 2))))) (tV (e2 dNotIn (eV 6) (e2 dIx (e2 dIx (eV 0) (e2 dIx (eV 1) (eV 2))) (eC (.int 2)))))) (sRet (eTup (aCons (eC (.str "bad")) (aCons (eV 2) (aNil))))) (sNil)) (sNil)
noncomputable def bl_d_law_judge_2 : MS := sFor (iRange1 (aCons (eFn dLen (aCons (eV 0) (aNil))) (aNil))) (gN 7) (bl_d_law_judge_1)
noncomputable def bl_d_law_judge_3 : MS := sFor (iSeq (e2 dIx (e2 dIx (eV 0) (eV 5)) (eC (.int 2)))) (gN 6) (bl_d_law_judge_2)
noncomputable def bl_d_law_judge_4 : MS := sIf (tV (e2 dIn (e2 dIx (eV 1) (eV 5)) (eV 4))) (sExpr (eMt "list" dAppend (eV 4) (aCons (eV 5) (aNil)))) (sNil)
noncomputable def bl_d_law_judge_5 : MS := sSeq (sSet 4 (eLst (aCons (eV 2) (aNil))))
  (sSeq (sFor (iRange2 (aCons (e2 dAdd (eV 2) (eC (.int 1))) (aCons (eFn dLen (aCons (eV 1) (aNil))) (aNil)))) (gN 5) (bl_d_law_judge_4))
  (sFor (iSeq (eV 4)) (gN 5) (bl_d_law_judge_3)))
noncomputable def bl_d_law_judge_6 : MS := sSeq (sSet 3 (e2 dIx (eV 1) (eV 2)))
  (sIf (tOr (tNot (tTru (e1 (dIsi "int") (eV 3)))) (tOr (tTru (e1 (dIsi "bool") (eV 3))) (tOr (tV (e2 dLt (eV 3) (eC (.int 0)))) (tV (e2 dGe (eV 3) (eV 2)))))) (sRet (eTup (aCons (eC (.str "bad")) (aCons (e1 dNeg (eC (.int 1))) (aNil))))) (sNil))
noncomputable def b_d_law_judge : MS := sSeq (sIf (tOr (tNot (tTru (e1 (dIsi "tuple") (eV 1)))) (tOr (tV (e2 dNe (eFn dLen (aCons (eV 1) (aNil))) (eFn dLen (aCons (eV 0) (aNil))))) (tV (e2 dIsNot (e2 dIx (eV 1) (eC (.int 0))) (eC .non))))) (sRet (eTup (aCons (eC (.str "bad")) (aCons (e1 dNeg (eC (.int 1))) (aNil))))) (sNil))
  (sSeq (sFor (iRange2 (aCons (eC (.int 1)) (aCons (eFn dLen (aCons (eV 1) (aNil))) (aNil)))) (gN 2) (bl_d_law_judge_6))
  (sSeq (sFor (iRange2 (aCons (eC (.int 1)) (aCons (eFn dLen (aCons (eV 1) (aNil))) (aNil)))) (gN 2) (bl_d_law_judge_5))
  (sRet (eTup (aCons (eC (.str "good")) (aCons (eFn dLen (aCons (eV 0) (aNil))) (aNil)))))))
noncomputable def m_d_law_judge : List D → Store → R D := fnM 8 2 b_d_law_judge
theorem ok_d_law_judge (X : Fx K mg) : FnOk P w K mg base (L2.CX P w) 1 X.a_d_law_judge X.d_d_law_judge ["houses", "thing"] (spM K mg 2 m_d_law_judge) :=
  okM (k := 0) X.F_d_law_judge sc_d_law_judge rfl fun cdv A outer s H E hr tk =>
    (css_cons (cs_if (PW.pt (cw_or (ct_not (ct_tru (ce_isi (T := "tuple") (by rfl) X.b_isinstance (by rfl) X.b_tuple (by decide +kernel) (ce_v 1)))) (cw_or (ct_cmp (opA_ne hr.units) ops_ne (ce_callB call_len fns_len (by rfl) X.b_len (by decide +kernel) (ca_cons (ce_v 1) (ca_nil))) (ce_callB call_len fns_len (by rfl) X.b_len (by decide +kernel) (ca_cons (ce_v 0) (ca_nil))) (nomark _)) (cw_or1 (ct_cmp opA_isnot ops_isnot (ce_ix ix_seq ops_ix (ce_v 1) (ce_int) (fun _ _ => rfl)) (ce_non) (nomark _)))))) (css_one (cs_ret (ce_tup (ca_cons (ce_str) (ca_cons (ce_un un_neg uns_neg (ce_int)) (ca_nil)))))) (css_nil))
    (css_cons (cs_for (passes_of rfl) rfl (ci_range2 (by rfl) X.b_range (ca_cons (ce_int) (ca_cons (ce_callB call_len fns_len (by rfl) X.b_len (by decide +kernel) (ca_cons (ce_v 1) (ca_nil))) (ca_nil)))) (cg_name (i := 2) sc_d_law_judge.nd rfl (by first | exact Or.inl rfl | exact Or.inr rfl)) (css_cons (cs_set (j := 3) sc_d_law_judge.nd rfl (Or.inl rfl) (ce_ix ix_seq ops_ix (ce_v 1) (ce_v 2) (fun _ _ => rfl)))
    (css_one (cs_if (PW.pt (cw_or (ct_not (ct_tru (ce_isi (T := "int") (by rfl) X.b_isinstance (by rfl) X.b_int (by decide +kernel) (ce_v 3)))) (cw_or (ct_tru (ce_isi (T := "bool") (by rfl) X.b_isinstance (by rfl) X.b_bool (by decide +kernel) (ce_v 3))) (cw_or (ct_cmp opA_lt ops_lt (ce_v 3) (ce_int) (nomark _)) (cw_or1 (ct_cmp opA_ge ops_ge (ce_v 3) (ce_v 2) (nomark _))))))) (css_one (cs_ret (ce_tup (ca_cons (ce_str) (ca_cons (ce_un un_neg uns_neg (ce_int)) (ca_nil)))))) (css_nil)))))
    (css_cons (cs_for (passes_of rfl) rfl (ci_range2 (by rfl) X.b_range (ca_cons (ce_int) (ca_cons (ce_callB call_len fns_len (by rfl) X.b_len (by decide +kernel) (ca_cons (ce_v 1) (ca_nil))) (ca_nil)))) (cg_name (i := 2) sc_d_law_judge.nd rfl (by first | exact Or.inl rfl | exact Or.inr rfl)) (css_cons (cs_set (j := 4) sc_d_law_judge.nd rfl (Or.inl rfl) (ce_lst (ca_cons (ce_v 2) (ca_nil))))
    (css_cons (cs_for (passes_of rfl) rfl (ci_range2 (by rfl) X.b_range (ca_cons (ce_op op_addA ops_add (ce_v 2) (ce_int)) (ca_cons (ce_callB call_len fns_len (by rfl) X.b_len (by decide +kernel) (ca_cons (ce_v 1) (ca_nil))) (ca_nil)))) (cg_name (i := 5) sc_d_law_judge.nd rfl (by first | exact Or.inl rfl | exact Or.inr rfl)) (css_one (cs_if (ct_cmp (opA_in (un65 hr)) ops_in (ce_ix ix_seq ops_ix (ce_v 1) (ce_v 5) (fun _ _ => rfl)) (ce_v 4) (by with_unfolding_all rfl)) (css_one (cs_expr (ce_bm PySem.F.plainAttrs_list PySem.F.slot_list_append PySem.F.type_list_append mt_append mts_append (ce_v 4) (ca_cons (ce_v 5) (ca_nil))))) (css_nil))))
    (css_one (cs_for (passes_of rfl) rfl (ci_seq (ce_v 4)) (cg_name (i := 5) sc_d_law_judge.nd rfl (by first | exact Or.inl rfl | exact Or.inr rfl)) (css_one (cs_for (passes_of rfl) rfl (ci_seq (ce_ix ix_seq ops_ix (ce_ix ix_seq ops_ix (ce_v 0) (ce_v 5) (fun _ _ => rfl)) (ce_int) (fun _ _ => rfl))) (cg_name (i := 6) sc_d_law_judge.nd rfl (by first | exact Or.inl rfl | exact Or.inr rfl)) (css_one (cs_for (passes_of rfl) rfl (ci_range1 (by rfl) X.b_range (ca_cons (ce_callB call_len fns_len (by rfl) X.b_len (by decide +kernel) (ca_cons (ce_v 0) (ca_nil))) (ca_nil))) (cg_name (i := 7) sc_d_law_judge.nd rfl (by first | exact Or.inl rfl | exact Or.inr rfl)) (css_one (cs_if (PW.pt (cw_and (ct_cmp (opA_notin (un65 hr)) ops_notin (ce_v 7) (ce_v 4) (by with_unfolding_all rfl)) (cw_and1 (ct_cmp (opA_in (un65 hr)) ops_in (ce_v 6) (ce_ix ix_seq ops_ix (ce_ix ix_seq ops_ix (ce_v 0) (ce_v 7) (fun _ _ => rfl)) (ce_int) (fun _ _ => rfl)) (by with_unfolding_all rfl))))) (css_one (cs_if (PW.pt (cw_or (ct_cmp (opA_notin (un65 hr)) ops_notin (ce_v 6) (ce_ix ix_seq ops_ix (ce_ix ix_seq ops_ix (ce_v 0) (ce_v 2) (fun _ _ => rfl)) (ce_int) (fun _ _ => rfl)) (by with_unfolding_all rfl)) (cw_or1 (ct_cmp (opA_notin (un65 hr)) ops_notin (ce_v 6) (ce_ix ix_seq ops_ix (ce_ix ix_seq ops_ix (ce_v 0) (ce_ix ix_seq ops_ix (ce_v 1) (ce_v 2) (fun _ _ => rfl)) (fun _ _ => rfl)) (ce_int) (fun _ _ => rfl)) (by with_unfolding_all rfl))))) (css_one (cs_ret (ce_tup (ca_cons (ce_str) (ca_cons (ce_v 2) (ca_nil)))))) (css_nil))) (css_nil))))))))))))
    (css_one (cs_ret (ce_tup (ca_cons (ce_str) (ca_cons (ce_callB call_len fns_len (by rfl) X.b_len (by decide +kernel) (ca_cons (ce_v 0) (ca_nil))) (ca_nil)))))))) :
      PSs _ _ (Ts _ _ _ b_d_law_judge))
noncomputable def b_d_law_put : MS := sRet (e2 dAdd (e2 dAdd (eSl dSl (eV 0) (oNone) (oSome (eV 1))) (eTup (aCons (eV 2) (aNil)))) (eSl dSl (eV 0) (oSome (e2 dAdd (eV 1) (eC (.int 1)))) (oNone)))
noncomputable def m_d_law_put : List D → Store → R D := fnM 3 3 b_d_law_put
theorem ok_d_law_put (X : Fx K mg) : FnOk P w K mg base (L2.CX P w) 1 X.a_d_law_put X.d_d_law_put ["row", "at", "thing"] (spM K mg 3 m_d_law_put) :=
  okM (k := 0) X.F_d_law_put sc_d_law_put rfl fun cdv A outer s H E hr tk =>
    (css_one (cs_ret (ce_op op_addA ops_add (ce_op op_addA ops_add (ce_sl sl_LT sls_LT (ce_v 0) (co_none) (co_some (ce_v 1))) (ce_tup (ca_cons (ce_v 2) (ca_nil)))) (ce_sl sl_LT sls_LT (ce_v 0) (co_some (ce_op op_addA ops_add (ce_v 1) (ce_int))) (co_none)))) :
      PSs _ _ (Ts _ _ _ b_d_law_put))
noncomputable def bl_are_parents_1 : MS := sIf (tOr (tNot (tTru (eCall m_is_integer (aCons (e2 dIx (eV 1) (eV 2)) (aNil))))) (tOr (tV (e2 dLt (e2 dIx (eV 1) (eV 2)) (eC (.int 0)))) (tV (e2 dGe (e2 dIx (eV 1) (eV 2)) (eV 2))))) (sRet (eC (.bl false))) (sNil)
noncomputable def b_are_parents : MS := sSeq (sIf (tOr (tNot (tTru (e1 (dIsi "tuple") (eV 1)))) (tOr (tV (e2 dNe (eFn dLen (aCons (eV 1) (aNil))) (eV 0))) (tV (e2 dIsNot (e2 dIx (eV 1) (eC (.int 0))) (eC .non))))) (sRet (eC (.bl false))) (sNil))
  (sSeq (sFor (iRange2 (aCons (eC (.int 1)) (aCons (eV 0) (aNil)))) (gN 2) (bl_are_parents_1))
  (sRet (eC (.bl true))))
noncomputable def m_are_parents : List D → Store → R D := fnM 3 2 b_are_parents
theorem ok_are_parents (X : Fx K mg) : FnOk P w K mg base (L2.CX P w) 2 X.a_are_parents X.d_are_parents ["many", "thing"] (spM K mg 2 m_are_parents) :=
  okM (k := 1) X.F_are_parents sc_are_parents rfl fun cdv A outer s H E hr tk =>
    (css_cons (cs_if (PW.pt (cw_or (ct_not (ct_tru (ce_isi (T := "tuple") (by rfl) X.b_isinstance (by rfl) X.b_tuple (by decide +kernel) (ce_v 1)))) (cw_or (ct_cmp (opA_ne hr.units) ops_ne (ce_callB call_len fns_len (by rfl) X.b_len (by decide +kernel) (ca_cons (ce_v 1) (ca_nil))) (ce_v 0) (nomark _)) (cw_or1 (ct_cmp opA_isnot ops_isnot (ce_ix ix_seq ops_ix (ce_v 1) (ce_int) (fun _ _ => rfl)) (ce_non) (nomark _)))))) (css_one (cs_ret (ce_bl))) (css_nil))
    (css_cons (cs_for (passes_of rfl) rfl (ci_range2 (by rfl) X.b_range (ca_cons (ce_int) (ca_cons (ce_v 0) (ca_nil)))) (cg_name (i := 2) sc_are_parents.nd rfl (by first | exact Or.inl rfl | exact Or.inr rfl)) (css_one (cs_if (PW.pt (cw_or (ct_not (ct_tru (ce_call (n := 1) (ok_is_integer X) (hr.mono (by decide)) tk (by rfl) X.g_is_integer X.F_is_integer.kp (bd_is_integer X) (an_cons an_nil) (ca_cons (ce_ix ix_seq ops_ix (ce_v 1) (ce_v 2) (fun _ _ => rfl)) (ca_nil))))) (cw_or (ct_cmp opA_lt ops_lt (ce_ix ix_seq ops_ix (ce_v 1) (ce_v 2) (fun _ _ => rfl)) (ce_int) (nomark _)) (cw_or1 (ct_cmp opA_ge ops_ge (ce_ix ix_seq ops_ix (ce_v 1) (ce_v 2) (fun _ _ => rfl)) (ce_v 2) (nomark _)))))) (css_one (cs_ret (ce_bl))) (css_nil))))
    (css_one (cs_ret (ce_bl)))) :
      PSs _ _ (Ts _ _ _ b_are_parents))
noncomputable def bl_is_tied_1 : MS := sIf (tAnd (tV (e2 dIn (eV 7) (eV 4))) (tNot (tAnd (tV (e2 dIn (eV 7) (e2 dIx (e2 dIx (eV 0) (eV 2)) (eC (.int 2))))) (tV (e2 dIn (eV 7) (e2 dIx (e2 dIx (eV 0) (e2 dIx (eV 1) (eV 2))) (eC (.int 2)))))))) (sRet (eC (.bl false))) (sNil)
noncomputable def bl_is_tied_2 : MS := sFor (iSeq (e2 dIx (e2 dIx (eV 0) (eV 5)) (eC (.int 2)))) (gN 7) (bl_is_tied_1)
noncomputable def bl_is_tied_3 : MS := sIf (tV (e2 dNotIn (eV 5) (eV 3))) (sExpr (eMt "list" dExtend (eV 4) (aCons (e2 dIx (eV 6) (eC (.int 2))) (aNil)))) (sNil)
noncomputable def b_is_tied : MS := sSeq (sSet 3 (eCall m_houses_under (aCons (eV 1) (aCons (eV 2) (aNil)))))
  (sSeq (sSet 4 (eLst (aNil)))
  (sSeq (sFor (iEnm (aCons (eV 0) (aNil))) (gT 2 (gsC (gN 5) (gsC (gN 6) (gsN)))) (bl_is_tied_3))
  (sSeq (sFor (iSeq (eV 3)) (gN 5) (bl_is_tied_2))
  (sRet (eC (.bl true))))))
noncomputable def m_is_tied : List D → Store → R D := fnM 8 3 b_is_tied
theorem ok_is_tied (X : Fx K mg) : FnOk P w K mg base (L2.CX P w) 2 X.a_is_tied X.d_is_tied ["houses", "parents", "house"] (spM K mg 3 m_is_tied) :=
  okM (k := 1) X.F_is_tied sc_is_tied rfl fun cdv A outer s H E hr tk =>
    (css_cons (cs_set (j := 3) sc_is_tied.nd rfl (Or.inl rfl) (ce_call (n := 2) (ok_houses_under X) (hr.mono (by decide)) tk (by rfl) X.g_houses_under X.F_houses_under.kp (bd_houses_under X) (an_cons (an_cons an_nil)) (ca_cons (ce_v 1) (ca_cons (ce_v 2) (ca_nil)))))
    (css_cons (cs_set (j := 4) sc_is_tied.nd rfl (Or.inl rfl) (ce_lst (ca_nil)))
    (css_cons (cs_for (passes_of rfl) rfl (ci_enum (by rfl) X.b_enumerate (ca_cons (ce_v 0) (ca_nil))) (cg_tup (n := 2) rfl (cgs_cons (us := [5, 6]) (cg_name (i := 5) sc_is_tied.nd rfl (by first | exact Or.inl rfl | exact Or.inr rfl)) (cgs_cons (us := [6]) (cg_name (i := 6) sc_is_tied.nd rfl (by first | exact Or.inl rfl | exact Or.inr rfl)) (cgs_nil (vs := []))))) (css_one (cs_if (ct_cmp (opA_notin (un65 hr)) ops_notin (ce_v 5) (ce_v 3) (by with_unfolding_all rfl)) (css_one (cs_expr (ce_bm PySem.F.plainAttrs_list PySem.F.slot_list_extend PySem.F.type_list_extend mt_extA mts_extend (ce_v 4) (ca_cons (ce_ix ix_seq ops_ix (ce_v 6) (ce_int) (fun _ _ => rfl)) (ca_nil))))) (css_nil))))
    (css_cons (cs_for (passes_of rfl) rfl (ci_seq (ce_v 3)) (cg_name (i := 5) sc_is_tied.nd rfl (by first | exact Or.inl rfl | exact Or.inr rfl)) (css_one (cs_for (passes_of rfl) rfl (ci_seq (ce_ix ix_seq ops_ix (ce_ix ix_seq ops_ix (ce_v 0) (ce_v 5) (fun _ _ => rfl)) (ce_int) (fun _ _ => rfl))) (cg_name (i := 7) sc_is_tied.nd rfl (by first | exact Or.inl rfl | exact Or.inr rfl)) (css_one (cs_if (PW.pt (cw_and (ct_cmp (opA_in (un65 hr)) ops_in (ce_v 7) (ce_v 4) (by with_unfolding_all rfl)) (cw_and1 (ct_not (PW.pt (cw_and (ct_cmp (opA_in (un65 hr)) ops_in (ce_v 7) (ce_ix ix_seq ops_ix (ce_ix ix_seq ops_ix (ce_v 0) (ce_v 2) (fun _ _ => rfl)) (ce_int) (fun _ _ => rfl)) (by with_unfolding_all rfl)) (cw_and1 (ct_cmp (opA_in (un65 hr)) ops_in (ce_v 7) (ce_ix ix_seq ops_ix (ce_ix ix_seq ops_ix (ce_v 0) (ce_ix ix_seq ops_ix (ce_v 1) (ce_v 2) (fun _ _ => rfl)) (fun _ _ => rfl)) (ce_int) (fun _ _ => rfl)) (by with_unfolding_all rfl))))))))) (css_one (cs_ret (ce_bl))) (css_nil))))))
    (css_one (cs_ret (ce_bl)))))) :
      PSs _ _ (Ts _ _ _ b_is_tied))
noncomputable def bl_d_law_words_1 : MS := sSeq (sSet 7 (eCall m_d_law_draw (aCons (eV 0) (aCons (eFn dLen (aCons (eV 2) (aNil))) (aNil)))))
  (sSeq (sExpr (eMt "list" dAppend (eV 5) (aCons (e2 dIx (eV 2) (eV 7)) (aNil))))
  (sSet 2 (e2 dAdd (eSl dSl (eV 2) (oNone) (oSome (eV 7))) (eSl dSl (eV 2) (oSome (e2 dAdd (eV 7) (eC (.int 1)))) (oNone)))))
noncomputable def bl_d_law_words_2 : MS := sExpr (eMt "list" dAppend (eV 2) (aCons (e2 dAdd (eV 3) (eV 4)) (aNil)))
noncomputable def bl_d_law_words_3 : MS := sFor (iSeq (eLst (aCons (eC (.str "")) (aCons (eC (.str "0")) (aCons (eC (.str "4")) (aCons (eC (.str "6")) (aCons (eC (.str "'")) (aCons (eC (.str "4'")) (aCons (eC (.str "x")) (aCons (eC (.str "ex")) (aCons (eC (.str "17")) (aNil)))))))))))) (gN 4) (bl_d_law_words_2)
noncomputable def b_d_law_words : MS := sSeq (sSet 2 (eLst (aNil)))
  (sSeq (sFor (iSeq (eLst (aCons (eC (.str "r")) (aCons (eC (.str "t")) (aCons (eC (.str "u")) (aCons (eC (.str "v")) (aCons (eC (.str "cut")) (aNil)))))))) (gN 3) (bl_d_law_words_3))
  (sSeq (sSet 5 (eLst (aNil)))
  (sSeq (sFor (iRange1 (aCons (eV 1) (aNil))) (gN 6) (bl_d_law_words_1))
  (sRet (eV 5)))))
noncomputable def m_d_law_words : List D → Store → R D := fnM 8 2 b_d_law_words
theorem ok_d_law_words (X : Fx K mg) : FnOk P w K mg base (L2.CX P w) 2 X.a_d_law_words X.d_d_law_words ["pool", "many"] (spM K mg 2 m_d_law_words) :=
  okM (k := 1) X.F_d_law_words sc_d_law_words rfl fun cdv A outer s H E hr tk =>
    (css_cons (cs_set (j := 2) sc_d_law_words.nd rfl (Or.inl rfl) (ce_lst (ca_nil)))
    (css_cons (cs_for (passes_of rfl) rfl (ci_seq (ce_lst (ca_cons (ce_str) (ca_cons (ce_str) (ca_cons (ce_str) (ca_cons (ce_str) (ca_cons (ce_str) (ca_nil)))))))) (cg_name (i := 3) sc_d_law_words.nd rfl (by first | exact Or.inl rfl | exact Or.inr rfl)) (css_one (cs_for (passes_of rfl) rfl (ci_seq (ce_lst (ca_cons (ce_str) (ca_cons (ce_str) (ca_cons (ce_str) (ca_cons (ce_str) (ca_cons (ce_str) (ca_cons (ce_str) (ca_cons (ce_str) (ca_cons (ce_str) (ca_cons (ce_str) (ca_nil)))))))))))) (cg_name (i := 4) sc_d_law_words.nd rfl (by first | exact Or.inl rfl | exact Or.inr rfl)) (css_one (cs_expr (ce_bm PySem.F.plainAttrs_list PySem.F.slot_list_append PySem.F.type_list_append mt_append mts_append (ce_v 2) (ca_cons (ce_op op_addA ops_add (ce_v 3) (ce_v 4)) (ca_nil))))))))
    (css_cons (cs_set (j := 5) sc_d_law_words.nd rfl (Or.inl rfl) (ce_lst (ca_nil)))
    (css_cons (cs_for (passes_of rfl) rfl (ci_range1 (by rfl) X.b_range (ca_cons (ce_v 1) (ca_nil))) (cg_name (i := 6) sc_d_law_words.nd rfl (by first | exact Or.inl rfl | exact Or.inr rfl)) (css_cons (cs_set (j := 7) sc_d_law_words.nd rfl (Or.inl rfl) (ce_call (n := 2) (ok_d_law_draw X) (hr.mono (by decide)) tk (by rfl) X.g_d_law_draw X.F_d_law_draw.kp (bd_d_law_draw X) (an_cons (an_cons an_nil)) (ca_cons (ce_v 0) (ca_cons (ce_callB call_len fns_len (by rfl) X.b_len (by decide +kernel) (ca_cons (ce_v 2) (ca_nil))) (ca_nil)))))
    (css_cons (cs_expr (ce_bm PySem.F.plainAttrs_list PySem.F.slot_list_append PySem.F.type_list_append mt_append mts_append (ce_v 5) (ca_cons (ce_ix ix_seq ops_ix (ce_v 2) (ce_v 7) (fun _ _ => rfl)) (ca_nil))))
    (css_one (cs_set (j := 2) sc_d_law_words.nd rfl (Or.inl rfl) (ce_op op_addA ops_add (ce_sl sl_LT sls_LT (ce_v 2) (co_none) (co_some (ce_v 7))) (ce_sl sl_LT sls_LT (ce_v 2) (co_some (ce_op op_addA ops_add (ce_v 7) (ce_int))) (co_none))))))))
    (css_one (cs_ret (ce_v 5)))))) :
      PSs _ _ (Ts _ _ _ b_d_law_words))
noncomputable def bl_d_law_members_1 : MS := sExpr (eMt "list" dAppend (e2 dIx (eV 4) (eV 3)) (aCons (eV 5) (aNil)))
noncomputable def bl_d_law_members_2 : MS := sSeq (sSet 8 (eCall m_d_law_next (aCons (eV 1) (aCons (eV 6) (aNil)))))
  (sIf (tV (e2 dNe (eV 8) (eLst (aNil)))) (sExpr (eMt "list" dAppend (eV 6) (aCons (e2 dIx (eV 8) (eCall m_d_law_draw (aCons (eV 0) (aCons (eFn dLen (aCons (eV 8) (aNil))) (aNil))))) (aNil)))) (sNil))
noncomputable def bl_d_law_members_3 : MS := sSeq (sSet 6 (eLst (aCons (eCall m_d_law_draw (aCons (eV 0) (aCons (eFn dLen (aCons (eV 1) (aNil))) (aNil)))) (aNil))))
  (sSeq (sFor (iRange1 (aCons (eCall m_d_law_draw (aCons (eV 0) (aCons (eC (.int 4)) (aNil)))) (aNil))) (gN 7) (bl_d_law_members_2))
  (sFor (iSeq (eV 6)) (gN 3) (bl_d_law_members_1)))
noncomputable def le_d_law_members_4 : ME D := eLst (aNil)
noncomputable def b_d_law_members : MS := sSeq (sSet 4 (eLc (iSeq (eV 1)) [3] (gN 3) (tT) (le_d_law_members_4)))
  (sSeq (sFor (iSeq (eV 2)) (gN 5) (bl_d_law_members_3))
  (sRet (eV 4)))
noncomputable def m_d_law_members : List D → Store → R D := fnM 9 3 b_d_law_members
theorem ok_d_law_members (X : Fx K mg) : FnOk P w K mg base (L2.CX P w) 2 X.a_d_law_members X.d_d_law_members ["pool", "parents", "words"] (spM K mg 3 m_d_law_members) :=
  okM (k := 1) X.F_d_law_members sc_d_law_members rfl fun cdv A outer s H E hr tk =>
    (css_cons (cs_setLc (i := 4) (own := [("house", 3)]) rfl sc_d_law_members.nd rfl rfl (sw_true rfl rfl rfl (by decide +kernel)) (ci_seq (ce_v 1)) (blkOk_by (N := ["pool", "parents", "words", "house", "members", "word", "group", "step", "near"]) (sc := defScope s_d_law_members) (by decide +kernel)) (fun _ _ _ _ _ => cg_name (i := 3) sc_d_law_members.nd rfl (by first | exact Or.inl rfl | exact Or.inr rfl)) (fun _ _ _ _ _ => cts_nil) (fun _ _ _ _ _ => ce_lst (ca_nil)))
    (css_cons (cs_for (passes_of rfl) rfl (ci_seq (ce_v 2)) (cg_name (i := 5) sc_d_law_members.nd rfl (by first | exact Or.inl rfl | exact Or.inr rfl)) (css_cons (cs_set (j := 6) sc_d_law_members.nd rfl (Or.inl rfl) (ce_lst (ca_cons (ce_call (n := 2) (ok_d_law_draw X) (hr.mono (by decide)) tk (by rfl) X.g_d_law_draw X.F_d_law_draw.kp (bd_d_law_draw X) (an_cons (an_cons an_nil)) (ca_cons (ce_v 0) (ca_cons (ce_callB call_len fns_len (by rfl) X.b_len (by decide +kernel) (ca_cons (ce_v 1) (ca_nil))) (ca_nil)))) (ca_nil))))
    (css_cons (cs_for (passes_of rfl) rfl (ci_range1 (by rfl) X.b_range (ca_cons (ce_call (n := 2) (ok_d_law_draw X) (hr.mono (by decide)) tk (by rfl) X.g_d_law_draw X.F_d_law_draw.kp (bd_d_law_draw X) (an_cons (an_cons an_nil)) (ca_cons (ce_v 0) (ca_cons (ce_int) (ca_nil)))) (ca_nil))) (cg_name (i := 7) sc_d_law_members.nd rfl (by first | exact Or.inl rfl | exact Or.inr rfl)) (css_cons (cs_set (j := 8) sc_d_law_members.nd rfl (Or.inl rfl) (ce_call (n := 2) (ok_d_law_next X) (hr.mono (by decide)) tk (by rfl) X.g_d_law_next X.F_d_law_next.kp (bd_d_law_next X) (an_cons (an_cons an_nil)) (ca_cons (ce_v 1) (ca_cons (ce_v 6) (ca_nil)))))
    (css_one (cs_if (ct_cmp (opA_ne hr.units) ops_ne (ce_v 8) (ce_lst (ca_nil)) (nomark _)) (css_one (cs_expr (ce_bm PySem.F.plainAttrs_list PySem.F.slot_list_append PySem.F.type_list_append mt_append mts_append (ce_v 6) (ca_cons (ce_ix ix_seq ops_ix (ce_v 8) (ce_call (n := 2) (ok_d_law_draw X) (hr.mono (by decide)) tk (by rfl) X.g_d_law_draw X.F_d_law_draw.kp (bd_d_law_draw X) (an_cons (an_cons an_nil)) (ca_cons (ce_v 0) (ca_cons (ce_callB call_len fns_len (by rfl) X.b_len (by decide +kernel) (ca_cons (ce_v 8) (ca_nil))) (ca_nil)))) (fun _ _ => rfl)) (ca_nil))))) (css_nil)))))
    (css_one (cs_for (passes_of rfl) rfl (ci_seq (ce_v 6)) (cg_name (i := 3) sc_d_law_members.nd rfl (by first | exact Or.inl rfl | exact Or.inr rfl)) (css_one (cs_expr (ce_bm PySem.F.plainAttrs_list PySem.F.slot_list_append PySem.F.type_list_append mt_append mts_append (ce_ix ix_seq ops_ix (ce_v 4) (ce_v 3) (fun _ _ => rfl)) (ca_cons (ce_v 5) (ca_nil))))))))))
    (css_one (cs_ret (ce_v 4)))) :
      PSs _ _ (Ts _ _ _ b_d_law_members))
noncomputable def bl_d_law_houses_1 : MS := sIf (tV (e2 dGt (eFn dLen (aCons (eV 4) (aNil))) (eC (.int 1)))) (sSeq (sSet 8 (eCall m_d_law_draw (aCons (eV 0) (aCons (eFn dLen (aCons (eV 4) (aNil))) (aNil)))))
  (sSeq (sSet 9 (e2 dMod (eFn dInt (aCons (e2 dAdd (e2 dAdd (eV 8) (eC (.int 1))) (eCall m_d_law_draw (aCons (eV 0) (aCons (e2 dSub (eFn dLen (aCons (eV 4) (aNil))) (eC (.int 1))) (aNil))))) (aNil))) (eFn dLen (aCons (eV 4) (aNil)))))
  (sExpr (eMt "list" dAppend (eV 6) (aCons (eTup (aCons (eC (.str "ann")) (aCons (eTup (aCons (eC (.str "gap")) (aCons (e2 dIx (eV 4) (eV 8)) (aCons (e2 dIx (eV 4) (eV 9)) (aCons (e2 dSub (eCall m_d_law_draw (aCons (eV 0) (aCons (eC (.int 5)) (aNil)))) (eC (.int 3))) (aNil)))))) (aNil)))) (aNil)))))) (sIf (tV (e2 dEq (eFn dLen (aCons (eV 4) (aNil))) (eC (.int 1)))) (sExpr (eMt "list" dAppend (eV 6) (aCons (eTup (aCons (eC (.str "bob")) (aCons (eTup (aCons (eC (.str "years")) (aCons (e2 dIx (eV 4) (eC (.int 0))) (aCons (eTup (aCons (eTup (aCons (eV 5) (aCons (e2 dAdd (eV 5) (eC (.int 9))) (aNil)))) (aNil))) (aNil))))) (aNil)))) (aNil)))) (sNil))
noncomputable def bl_d_law_houses_2 : MS := sSeq (sSet 4 (eFn dTuple (aCons (eFn dSorted (aCons (eV 3) (aNil))) (aNil))))
  (sSeq (sSet 5 (e2 dSub (eCall m_d_law_draw (aCons (eV 0) (aCons (eC (.int 40)) (aNil)))) (eC (.int 20))))
  (sSeq (sSet 6 (eLst (aNil)))
  (sSeq (sFor (iRange1 (aCons (eCall m_d_law_draw (aCons (eV 0) (aCons (eC (.int 4)) (aNil)))) (aNil))) (gN 7) (bl_d_law_houses_1))
  (sExpr (eMt "list" dAppend (eV 2) (aCons (eTup (aCons (eV 5) (aCons (e2 dAdd (e2 dAdd (eV 5) (eC (.int 10))) (eCall m_d_law_draw (aCons (eV 0) (aCons (eC (.int 30)) (aNil))))) (aCons (eV 4) (aCons (eFn dTuple (aCons (eV 6) (aNil))) (aNil)))))) (aNil)))))))
noncomputable def b_d_law_houses : MS := sSeq (sSet 2 (eLst (aNil)))
  (sSeq (sFor (iSeq (eV 1)) (gN 3) (bl_d_law_houses_2))
  (sRet (eFn dTuple (aCons (eV 2) (aNil)))))
noncomputable def m_d_law_houses : List D → Store → R D := fnM 10 2 b_d_law_houses
theorem ok_d_law_houses (X : Fx K mg) : FnOk P w K mg base (L2.CX P w) 2 X.a_d_law_houses X.d_d_law_houses ["pool", "members"] (spM K mg 2 m_d_law_houses) :=
  okM (k := 1) X.F_d_law_houses sc_d_law_houses rfl fun cdv A outer s H E hr tk =>
    (css_cons (cs_set (j := 2) sc_d_law_houses.nd rfl (Or.inl rfl) (ce_lst (ca_nil)))
    (css_cons (cs_for (passes_of rfl) rfl (ci_seq (ce_v 1)) (cg_name (i := 3) sc_d_law_houses.nd rfl (by first | exact Or.inl rfl | exact Or.inr rfl)) (css_cons (cs_set (j := 4) sc_d_law_houses.nd rfl (Or.inl rfl) (ce_callTy call_tuple_of fns_tuple (by rfl) X.b_tuple (by decide +kernel) (ca_cons (ce_callB (cr_sortedB hr.units) fns_sorted (by rfl) X.b_sorted (by decide +kernel) (ca_cons (ce_v 3) (ca_nil))) (ca_nil))))
    (css_cons (cs_set (j := 5) sc_d_law_houses.nd rfl (Or.inl rfl) (ce_op op_sub ops_sub (ce_call (n := 2) (ok_d_law_draw X) (hr.mono (by decide)) tk (by rfl) X.g_d_law_draw X.F_d_law_draw.kp (bd_d_law_draw X) (an_cons (an_cons an_nil)) (ca_cons (ce_v 0) (ca_cons (ce_int) (ca_nil)))) (ce_int)))
    (css_cons (cs_set (j := 6) sc_d_law_houses.nd rfl (Or.inl rfl) (ce_lst (ca_nil)))
    (css_cons (cs_for (passes_of rfl) rfl (ci_range1 (by rfl) X.b_range (ca_cons (ce_call (n := 2) (ok_d_law_draw X) (hr.mono (by decide)) tk (by rfl) X.g_d_law_draw X.F_d_law_draw.kp (bd_d_law_draw X) (an_cons (an_cons an_nil)) (ca_cons (ce_v 0) (ca_cons (ce_int) (ca_nil)))) (ca_nil))) (cg_name (i := 7) sc_d_law_houses.nd rfl (by first | exact Or.inl rfl | exact Or.inr rfl)) (css_one (cs_if (ct_cmp opA_gt ops_gt (ce_callB call_len fns_len (by rfl) X.b_len (by decide +kernel) (ca_cons (ce_v 4) (ca_nil))) (ce_int) (nomark _)) (css_cons (cs_set (j := 8) sc_d_law_houses.nd rfl (Or.inl rfl) (ce_call (n := 2) (ok_d_law_draw X) (hr.mono (by decide)) tk (by rfl) X.g_d_law_draw X.F_d_law_draw.kp (bd_d_law_draw X) (an_cons (an_cons an_nil)) (ca_cons (ce_v 0) (ca_cons (ce_callB call_len fns_len (by rfl) X.b_len (by decide +kernel) (ca_cons (ce_v 4) (ca_nil))) (ca_nil)))))
    (css_cons (cs_set (j := 9) sc_d_law_houses.nd rfl (Or.inl rfl) (ce_op op_mod ops_mod (ce_callTy call_int1 fns_int (by rfl) X.b_int (by decide +kernel) (ca_cons (ce_op op_addA ops_add (ce_op op_addA ops_add (ce_v 8) (ce_int)) (ce_call (n := 2) (ok_d_law_draw X) (hr.mono (by decide)) tk (by rfl) X.g_d_law_draw X.F_d_law_draw.kp (bd_d_law_draw X) (an_cons (an_cons an_nil)) (ca_cons (ce_v 0) (ca_cons (ce_op op_sub ops_sub (ce_callB call_len fns_len (by rfl) X.b_len (by decide +kernel) (ca_cons (ce_v 4) (ca_nil))) (ce_int)) (ca_nil))))) (ca_nil))) (ce_callB call_len fns_len (by rfl) X.b_len (by decide +kernel) (ca_cons (ce_v 4) (ca_nil)))))
    (css_one (cs_expr (ce_bm PySem.F.plainAttrs_list PySem.F.slot_list_append PySem.F.type_list_append mt_append mts_append (ce_v 6) (ca_cons (ce_tup (ca_cons (ce_str) (ca_cons (ce_tup (ca_cons (ce_str) (ca_cons (ce_ix ix_seq ops_ix (ce_v 4) (ce_v 8) (fun _ _ => rfl)) (ca_cons (ce_ix ix_seq ops_ix (ce_v 4) (ce_v 9) (fun _ _ => rfl)) (ca_cons (ce_op op_sub ops_sub (ce_call (n := 2) (ok_d_law_draw X) (hr.mono (by decide)) tk (by rfl) X.g_d_law_draw X.F_d_law_draw.kp (bd_d_law_draw X) (an_cons (an_cons an_nil)) (ca_cons (ce_v 0) (ca_cons (ce_int) (ca_nil)))) (ce_int)) (ca_nil)))))) (ca_nil)))) (ca_nil))))))) (css_one (cs_if (ct_cmp (opA_eq hr.units) ops_eq (ce_callB call_len fns_len (by rfl) X.b_len (by decide +kernel) (ca_cons (ce_v 4) (ca_nil))) (ce_int) (nomark _)) (css_one (cs_expr (ce_bm PySem.F.plainAttrs_list PySem.F.slot_list_append PySem.F.type_list_append mt_append mts_append (ce_v 6) (ca_cons (ce_tup (ca_cons (ce_str) (ca_cons (ce_tup (ca_cons (ce_str) (ca_cons (ce_ix ix_seq ops_ix (ce_v 4) (ce_int) (fun _ _ => rfl)) (ca_cons (ce_tup (ca_cons (ce_tup (ca_cons (ce_v 5) (ca_cons (ce_op op_addA ops_add (ce_v 5) (ce_int)) (ca_nil)))) (ca_nil))) (ca_nil))))) (ca_nil)))) (ca_nil))))) (css_nil))))))
    (css_one (cs_expr (ce_bm PySem.F.plainAttrs_list PySem.F.slot_list_append PySem.F.type_list_append mt_append mts_append (ce_v 2) (ca_cons (ce_tup (ca_cons (ce_v 5) (ca_cons (ce_op op_addA ops_add (ce_op op_addA ops_add (ce_v 5) (ce_int)) (ce_call (n := 2) (ok_d_law_draw X) (hr.mono (by decide)) tk (by rfl) X.g_d_law_draw X.F_d_law_draw.kp (bd_d_law_draw X) (an_cons (an_cons an_nil)) (ca_cons (ce_v 0) (ca_cons (ce_int) (ca_nil))))) (ca_cons (ce_v 4) (ca_cons (ce_callTy call_tuple_of fns_tuple (by rfl) X.b_tuple (by decide +kernel) (ca_cons (ce_v 6) (ca_nil))) (ca_nil)))))) (ca_nil))))))))))
    (css_one (cs_ret (ce_callTy call_tuple_of fns_tuple (by rfl) X.b_tuple (by decide +kernel) (ca_cons (ce_v 2) (ca_nil)))))) :
      PSs _ _ (Ts _ _ _ b_d_law_houses))
noncomputable def b_d_law_bent : MS := sSeq (sSet 2 (eCall m_d_law_draw (aCons (eV 0) (aCons (eC (.int 9)) (aNil)))))
  (sSeq (sSet 3 (eLst (aCons (eC .non) (aCons (eC (.int 0)) (aCons (eC (.bl true)) (aCons (eC (.str "")) (aCons (eTup (aNil)) (aCons (eLst (aNil)) (aCons (eTup (aCons (eC (.int 0)) (aNil))) (aCons (eTup (aCons (eC .non) (aCons (eC .non) (aNil)))) (aCons (eTup (aCons (eTup (aNil)) (aNil))) (aCons (eC (.str "None")) (aCons (eTup (aCons (eLst (aCons (eC .non) (aNil))) (aNil))) (aCons (eTup (aCons (eC (.bl false)) (aNil))) (aNil)))))))))))))))
  (sSeq (sIf (tV (e2 dEq (eV 2) (eC (.int 0)))) (sRet (e2 dIx (eV 3) (eCall m_d_law_draw (aCons (eV 0) (aCons (eFn dLen (aCons (eV 3) (aNil))) (aNil)))))) (sNil))
  (sSeq (sIf (tV (e2 dEq (eV 2) (eC (.int 1)))) (sRet (eFn dList (aCons (eV 1) (aNil)))) (sNil))
  (sSeq (sIf (tV (e2 dEq (eV 2) (eC (.int 2)))) (sRet (e2 dIx (eTup (aCons (eSl dSl (eV 1) (oNone) (oSome (e1 dNeg (eC (.int 1))))) (aCons (e2 dAdd (eV 1) (eTup (aCons (eC (.int 0)) (aNil)))) (aCons (e2 dAdd (eV 1) (eTup (aCons (eC .non) (aNil)))) (aCons (eTup (aCons (eV 1) (aNil))) (aCons (eSl dSl (eV 1) (oSome (eC (.int 1))) (oNone)) (aNil))))))) (eCall m_d_law_draw (aCons (eV 0) (aCons (eC (.int 5)) (aNil)))))) (sNil))
  (sSeq (sSet 4 (eCall m_d_law_draw (aCons (eV 0) (aCons (eFn dLen (aCons (eV 1) (aNil))) (aNil)))))
  (sSeq (sIf (tV (e2 dEq (eV 4) (eC (.int 0)))) (sRet (eCall m_d_law_put (aCons (eV 1) (aCons (eC (.int 0)) (aCons (e2 dIx (eLst (aCons (eC (.int 0)) (aCons (e1 dNeg (eC (.int 1))) (aCons (eC (.bl false)) (aCons (eC (.str "")) (aCons (eTup (aNil)) (aNil))))))) (eCall m_d_law_draw (aCons (eV 0) (aCons (eC (.int 5)) (aNil))))) (aNil)))))) (sNil))
  (sSeq (sIf (tV (e2 dLt (eV 2) (eC (.int 6)))) (sSeq (sSet 5 (eLst (aCons (eC .non) (aCons (e1 dNeg (eC (.int 1))) (aCons (eV 4) (aCons (e2 dAdd (eV 4) (eC (.int 1))) (aCons (eFn dLen (aCons (eV 1) (aNil))) (aCons (eFn dStr (aCons (e2 dIx (eV 1) (eV 4)) (aNil))) (aCons (eTup (aCons (e2 dIx (eV 1) (eV 4)) (aNil))) (aCons (eLst (aCons (e2 dIx (eV 1) (eV 4)) (aNil))) (aCons (e2 dPow (eC (.int 10)) (eC (.int 30))) (aNil))))))))))))
  (sRet (eCall m_d_law_put (aCons (eV 1) (aCons (eV 4) (aCons (e2 dIx (eV 5) (eCall m_d_law_draw (aCons (eV 0) (aCons (eFn dLen (aCons (eV 5) (aNil))) (aNil))))) (aNil))))))) (sNil))
  (sRet (eCall m_d_law_put (aCons (eV 1) (aCons (eV 4) (aCons (eCall m_d_law_draw (aCons (eV 0) (aCons (eV 4) (aNil)))) (aNil)))))))))))))
noncomputable def m_d_law_bent : List D → Store → R D := fnM 6 2 b_d_law_bent
theorem ok_d_law_bent (X : Fx K mg) : FnOk P w K mg base (L2.CX P w) 2 X.a_d_law_bent X.d_d_law_bent ["pool", "parents"] (spM K mg 2 m_d_law_bent) :=
  okM (k := 1) X.F_d_law_bent sc_d_law_bent rfl fun cdv A outer s H E hr tk =>
    (css_cons (cs_set (j := 2) sc_d_law_bent.nd rfl (Or.inl rfl) (ce_call (n := 2) (ok_d_law_draw X) (hr.mono (by decide)) tk (by rfl) X.g_d_law_draw X.F_d_law_draw.kp (bd_d_law_draw X) (an_cons (an_cons an_nil)) (ca_cons (ce_v 0) (ca_cons (ce_int) (ca_nil)))))
    (css_cons (cs_set (j := 3) sc_d_law_bent.nd rfl (Or.inl rfl) (ce_lst (ca_cons (ce_non) (ca_cons (ce_int) (ca_cons (ce_bl) (ca_cons (ce_str) (ca_cons (ce_tup (ca_nil)) (ca_cons (ce_lst (ca_nil)) (ca_cons (ce_tup (ca_cons (ce_int) (ca_nil))) (ca_cons (ce_tup (ca_cons (ce_non) (ca_cons (ce_non) (ca_nil)))) (ca_cons (ce_tup (ca_cons (ce_tup (ca_nil)) (ca_nil))) (ca_cons (ce_str) (ca_cons (ce_tup (ca_cons (ce_lst (ca_cons (ce_non) (ca_nil))) (ca_nil))) (ca_cons (ce_tup (ca_cons (ce_bl) (ca_nil))) (ca_nil)))))))))))))))
    (css_cons (cs_if (ct_cmp (opA_eq hr.units) ops_eq (ce_v 2) (ce_int) (nomark _)) (css_one (cs_ret (ce_ix ix_seq ops_ix (ce_v 3) (ce_call (n := 2) (ok_d_law_draw X) (hr.mono (by decide)) tk (by rfl) X.g_d_law_draw X.F_d_law_draw.kp (bd_d_law_draw X) (an_cons (an_cons an_nil)) (ca_cons (ce_v 0) (ca_cons (ce_callB call_len fns_len (by rfl) X.b_len (by decide +kernel) (ca_cons (ce_v 3) (ca_nil))) (ca_nil)))) (fun _ _ => rfl)))) (css_nil))
    (css_cons (cs_if (ct_cmp (opA_eq hr.units) ops_eq (ce_v 2) (ce_int) (nomark _)) (css_one (cs_ret (ce_callTy call_list_of fns_list (by rfl) X.b_list (by decide +kernel) (ca_cons (ce_v 1) (ca_nil))))) (css_nil))
    (css_cons (cs_if (ct_cmp (opA_eq hr.units) ops_eq (ce_v 2) (ce_int) (nomark _)) (css_one (cs_ret (ce_ix ix_seq ops_ix (ce_tup (ca_cons (ce_sl sl_LT sls_LT (ce_v 1) (co_none) (co_some (ce_un un_neg uns_neg (ce_int)))) (ca_cons (ce_op op_addA ops_add (ce_v 1) (ce_tup (ca_cons (ce_int) (ca_nil)))) (ca_cons (ce_op op_addA ops_add (ce_v 1) (ce_tup (ca_cons (ce_non) (ca_nil)))) (ca_cons (ce_tup (ca_cons (ce_v 1) (ca_nil))) (ca_cons (ce_sl sl_LT sls_LT (ce_v 1) (co_some (ce_int)) (co_none)) (ca_nil))))))) (ce_call (n := 2) (ok_d_law_draw X) (hr.mono (by decide)) tk (by rfl) X.g_d_law_draw X.F_d_law_draw.kp (bd_d_law_draw X) (an_cons (an_cons an_nil)) (ca_cons (ce_v 0) (ca_cons (ce_int) (ca_nil)))) (fun _ _ => rfl)))) (css_nil))
    (css_cons (cs_set (j := 4) sc_d_law_bent.nd rfl (Or.inl rfl) (ce_call (n := 2) (ok_d_law_draw X) (hr.mono (by decide)) tk (by rfl) X.g_d_law_draw X.F_d_law_draw.kp (bd_d_law_draw X) (an_cons (an_cons an_nil)) (ca_cons (ce_v 0) (ca_cons (ce_callB call_len fns_len (by rfl) X.b_len (by decide +kernel) (ca_cons (ce_v 1) (ca_nil))) (ca_nil)))))
    (css_cons (cs_if (ct_cmp (opA_eq hr.units) ops_eq (ce_v 4) (ce_int) (nomark _)) (css_one (cs_ret (ce_call (n := 3) (ok_d_law_put X) (hr.mono (by decide)) tk (by rfl) X.g_d_law_put X.F_d_law_put.kp (bd_d_law_put X) (an_cons (an_cons (an_cons an_nil))) (ca_cons (ce_v 1) (ca_cons (ce_int) (ca_cons (ce_ix ix_seq ops_ix (ce_lst (ca_cons (ce_int) (ca_cons (ce_un un_neg uns_neg (ce_int)) (ca_cons (ce_bl) (ca_cons (ce_str) (ca_cons (ce_tup (ca_nil)) (ca_nil))))))) (ce_call (n := 2) (ok_d_law_draw X) (hr.mono (by decide)) tk (by rfl) X.g_d_law_draw X.F_d_law_draw.kp (bd_d_law_draw X) (an_cons (an_cons an_nil)) (ca_cons (ce_v 0) (ca_cons (ce_int) (ca_nil)))) (fun _ _ => rfl)) (ca_nil))))))) (css_nil))
    (css_cons (cs_if (ct_cmp opA_lt ops_lt (ce_v 2) (ce_int) (nomark _)) (css_cons (cs_set (j := 5) sc_d_law_bent.nd rfl (Or.inl rfl) (ce_lst (ca_cons (ce_non) (ca_cons (ce_un un_neg uns_neg (ce_int)) (ca_cons (ce_v 4) (ca_cons (ce_op op_addA ops_add (ce_v 4) (ce_int)) (ca_cons (ce_callB call_len fns_len (by rfl) X.b_len (by decide +kernel) (ca_cons (ce_v 1) (ca_nil))) (ca_cons (ce_callTy call_strA fns_str (by rfl) X.b_str (by decide +kernel) (ca_cons (ce_ix ix_seq ops_ix (ce_v 1) (ce_v 4) (fun _ _ => rfl)) (ca_nil))) (ca_cons (ce_tup (ca_cons (ce_ix ix_seq ops_ix (ce_v 1) (ce_v 4) (fun _ _ => rfl)) (ca_nil))) (ca_cons (ce_lst (ca_cons (ce_ix ix_seq ops_ix (ce_v 1) (ce_v 4) (fun _ _ => rfl)) (ca_nil))) (ca_cons (ce_op op_pow ops_pow (ce_int) (ce_int)) (ca_nil))))))))))))
    (css_one (cs_ret (ce_call (n := 3) (ok_d_law_put X) (hr.mono (by decide)) tk (by rfl) X.g_d_law_put X.F_d_law_put.kp (bd_d_law_put X) (an_cons (an_cons (an_cons an_nil))) (ca_cons (ce_v 1) (ca_cons (ce_v 4) (ca_cons (ce_ix ix_seq ops_ix (ce_v 5) (ce_call (n := 2) (ok_d_law_draw X) (hr.mono (by decide)) tk (by rfl) X.g_d_law_draw X.F_d_law_draw.kp (bd_d_law_draw X) (an_cons (an_cons an_nil)) (ca_cons (ce_v 0) (ca_cons (ce_callB call_len fns_len (by rfl) X.b_len (by decide +kernel) (ca_cons (ce_v 5) (ca_nil))) (ca_nil)))) (fun _ _ => rfl)) (ca_nil)))))))) (css_nil))
    (css_one (cs_ret (ce_call (n := 3) (ok_d_law_put X) (hr.mono (by decide)) tk (by rfl) X.g_d_law_put X.F_d_law_put.kp (bd_d_law_put X) (an_cons (an_cons (an_cons an_nil))) (ca_cons (ce_v 1) (ca_cons (ce_v 4) (ca_cons (ce_call (n := 2) (ok_d_law_draw X) (hr.mono (by decide)) tk (by rfl) X.g_d_law_draw X.F_d_law_draw.kp (bd_d_law_draw X) (an_cons (an_cons an_nil)) (ca_cons (ce_v 0) (ca_cons (ce_v 4) (ca_nil)))) (ca_nil)))))))))))))) :
      PSs _ _ (Ts _ _ _ b_d_law_bent))
noncomputable def bl_check_parents_1 : MS := sIf (tNot (tTru (eCall m_is_tied (aCons (eV 0) (aCons (eV 1) (aCons (eV 2) (aNil))))))) (sRaise "BadParents" ["at"] (aCons (eV 2) (aNil))) (sNil)
noncomputable def b_check_parents : MS := sSeq (sIf (tNot (tTru (eCall m_are_parents (aCons (eFn dLen (aCons (eV 0) (aNil))) (aCons (eV 1) (aNil)))))) (sRaise "BadParents" ["at"] (aCons (e1 dNeg (eC (.int 1))) (aNil))) (sNil))
  (sSeq (sFor (iRange2 (aCons (eC (.int 1)) (aCons (eFn dLen (aCons (eV 0) (aNil))) (aNil)))) (gN 2) (bl_check_parents_1))
  (sRet (eFn dLen (aCons (eV 0) (aNil)))))
noncomputable def m_check_parents : List D → Store → R D := fnM 3 2 b_check_parents
theorem ok_check_parents (X : Fx K mg) : FnOk P w K mg base (L2.CX P w) 3 X.a_check_parents X.d_check_parents ["houses", "thing"] (spM K mg 2 m_check_parents) :=
  okM (k := 2) X.F_check_parents sc_check_parents rfl fun cdv A outer s H E hr tk =>
    (css_cons (cs_if (ct_not (ct_tru (ce_call (n := 2) (ok_are_parents X) (hr.mono (by decide)) tk (by rfl) X.g_are_parents X.F_are_parents.kp (bd_are_parents X) (an_cons (an_cons an_nil)) (ca_cons (ce_callB call_len fns_len (by rfl) X.b_len (by decide +kernel) (ca_cons (ce_v 0) (ca_nil))) (ca_cons (ce_v 1) (ca_nil)))))) (css_one (cs_raise1 rfl tk X.gc_BadParents X.T_BadParents X.iC_BadParents X.tI_BadParents (oi_BadParents X) (hr.mono (by decide)) (bi_BadParents X) (by rfl) (ca_cons (ce_un un_neg uns_neg (ce_int)) (ca_nil)))) (css_nil))
    (css_cons (cs_for (passes_of rfl) rfl (ci_range2 (by rfl) X.b_range (ca_cons (ce_int) (ca_cons (ce_callB call_len fns_len (by rfl) X.b_len (by decide +kernel) (ca_cons (ce_v 0) (ca_nil))) (ca_nil)))) (cg_name (i := 2) sc_check_parents.nd rfl (by first | exact Or.inl rfl | exact Or.inr rfl)) (css_one (cs_if (ct_not (ct_tru (ce_call (n := 3) (ok_is_tied X) (hr.mono (by decide)) tk (by rfl) X.g_is_tied X.F_is_tied.kp (bd_is_tied X) (an_cons (an_cons (an_cons an_nil))) (ca_cons (ce_v 0) (ca_cons (ce_v 1) (ca_cons (ce_v 2) (ca_nil))))))) (css_one (cs_raise1 rfl tk X.gc_BadParents X.T_BadParents X.iC_BadParents X.tI_BadParents (oi_BadParents X) (hr.mono (by decide)) (bi_BadParents X) (by rfl) (ca_cons (ce_v 2) (ca_nil)))) (css_nil))))
    (css_one (cs_ret (ce_callB call_len fns_len (by rfl) X.b_len (by decide +kernel) (ca_cons (ce_v 0) (ca_nil)))))) :
      PSs _ _ (Ts _ _ _ b_check_parents))
noncomputable def b_d_law_ask : MS := sTryAs 2 ["BadParents"] (sRet (eTup (aCons (eC (.str "good")) (aCons (eCall m_check_parents (aCons (eV 0) (aCons (eV 1) (aNil)))) (aNil))))) (fun g => sRet (eTup (aCons (eC (.str "bad")) (aCons (eFld g 2 "at") (aNil)))))
noncomputable def m_d_law_ask : List D → Store → R D := fnM 3 2 b_d_law_ask
theorem ok_d_law_ask (X : Fx K mg) : FnOk P w K mg base (L2.CX P w) 4 X.a_d_law_ask X.d_d_law_ask ["houses", "thing"] (spM K mg 2 m_d_law_ask) :=
  okM (k := 3) X.F_d_law_ask sc_d_law_ask rfl fun cdv A outer s H E hr tk =>
    (css_one (cs_tryAs (i := 2) (cs := ["BadParents"]) rfl rfl sc_d_law_ask.nd rfl rfl ⟨by rfl, by decide, .inl X.gc_BadParents⟩ tk (hcs1 X.gc_BadParents X.te_BadParents) (fun W pn xe tk => css_one (cs_ret (ce_tup (ca_cons (ce_str) (ca_cons (ce_call (n := 2) (ok_check_parents X) (hr.mono (by decide)) tk (by rfl) X.g_check_parents X.F_check_parents.kp (bd_check_parents X) (an_cons (an_cons an_nil)) (ca_cons (ce_v 0) (ca_cons (ce_v 1) (ca_nil)))) (ca_nil)))))) (fun a oe cls d pn g k hz hf h1 h2 h3 h4 => css_one (cs_ret (ce_tup (ca_cons (ce_str) (ca_cons (ce_fld (hxf1 X.gc_BadParents X.xf_BadParents X.no_BadParents_at h3 h4) hz hf h1 h2 (pv 2)) (ca_nil))))))) :
      PSs _ _ (Ts _ _ _ b_d_law_ask))
noncomputable def b_d_law_right : MS := sSeq (sSet 2 (eCall m_d_law_judge (aCons (eV 0) (aCons (eV 1) (aNil)))))
  (sSeq (sSet 3 (eCall m_d_law_ask (aCons (eV 0) (aCons (eV 1) (aNil)))))
  (sRet (eAnd (e2 dEq (e2 dIx (eV 3) (eC (.int 0))) (e2 dIx (eV 2) (eC (.int 0)))) (eAnd (e1 (dIsi "int") (e2 dIx (eV 3) (eC (.int 1)))) (eAnd (eNot (e1 (dIsi "bool") (e2 dIx (eV 3) (eC (.int 1))))) (e2 dEq (e2 dIx (eV 3) (eC (.int 1))) (e2 dIx (eV 2) (eC (.int 1)))))))))
noncomputable def m_d_law_right : List D → Store → R D := fnM 4 2 b_d_law_right
theorem ok_d_law_right (X : Fx K mg) : FnOk P w K mg base (L2.CX P w) 5 X.a_d_law_right X.d_d_law_right ["houses", "thing"] (spM K mg 2 m_d_law_right) :=
  okM (k := 4) X.F_d_law_right sc_d_law_right rfl fun cdv A outer s H E hr tk =>
    (css_cons (cs_set (j := 2) sc_d_law_right.nd rfl (Or.inl rfl) (ce_call (n := 2) (ok_d_law_judge X) (hr.mono (by decide)) tk (by rfl) X.g_d_law_judge X.F_d_law_judge.kp (bd_d_law_judge X) (an_cons (an_cons an_nil)) (ca_cons (ce_v 0) (ca_cons (ce_v 1) (ca_nil)))))
    (css_cons (cs_set (j := 3) sc_d_law_right.nd rfl (Or.inl rfl) (ce_call (n := 2) (ok_d_law_ask X) (hr.mono (by decide)) tk (by rfl) X.g_d_law_ask X.F_d_law_ask.kp (bd_d_law_ask X) (an_cons (an_cons an_nil)) (ca_cons (ce_v 0) (ca_cons (ce_v 1) (ca_nil)))))
    (css_one (cs_ret (ce_and (ce_cmp (opA_eq hr.units) ops_eq (ce_ix ix_seq ops_ix (ce_v 3) (ce_int) (fun _ _ => rfl)) (ce_ix ix_seq ops_ix (ce_v 2) (ce_int) (fun _ _ => rfl)) (nomark _)) (ce_and (ce_isi (T := "int") (by rfl) X.b_isinstance (by rfl) X.b_int (by decide +kernel) (ce_ix ix_seq ops_ix (ce_v 3) (ce_int) (fun _ _ => rfl))) (ce_and (ce_not (ce_isi (T := "bool") (by rfl) X.b_isinstance (by rfl) X.b_bool (by decide +kernel) (ce_ix ix_seq ops_ix (ce_v 3) (ce_int) (fun _ _ => rfl)))) (ce_one (ce_cmp (opA_eq hr.units) ops_eq (ce_ix ix_seq ops_ix (ce_v 3) (ce_int) (fun _ _ => rfl)) (ce_ix ix_seq ops_ix (ce_v 2) (ce_int) (fun _ _ => rfl)) (nomark _))))))))) :
      PSs _ _ (Ts _ _ _ b_d_law_right))
noncomputable def le_law_1 : ME D := eFn dList (aCons (eV 17) (aNil))
noncomputable def bl_law_2 : MS := sSeq (sSet 12 (eCall m_d_law_draw (aCons (eV 1) (aCons (eV 2) (aNil)))))
  (sSeq (sSet 13 (e2 dIx (eV 6) (eCall m_d_law_draw (aCons (eV 1) (aCons (eV 3) (aNil))))))
  (sIf (tV (e2 dNotIn (eV 13) (e2 dIx (eV 7) (eV 12)))) (sSeq (sSet 14 (eLc (iSeq (eV 7)) [17] (gN 17) (tT) (le_law_1)))
  (sSeq (sExpr (eMt "list" dAppend (e2 dIx (eV 14) (eV 12)) (aCons (eV 13) (aNil))))
  (sSeq (sSet 15 (eCall m_d_law_houses (aCons (eV 1) (aCons (eV 14) (aNil)))))
  (sSeq (sIf (tNot (tTru (eCall m_d_law_right (aCons (eV 15) (aCons (eV 5) (aNil)))))) (sRet (eC (.bl false))) (sNil))
  (sIf (tNot (tTru (eCall m_d_law_right (aCons (eV 15) (aCons (eCall m_d_law_bent (aCons (eV 1) (aCons (eV 5) (aNil)))) (aNil)))))) (sRet (eC (.bl false))) (sNil)))))) (sNil)))
noncomputable def bl_law_3 : MS := sIf (tNot (tTru (eCall m_d_law_right (aCons (eV 8) (aCons (eCall m_d_law_bent (aCons (eV 1) (aCons (eV 5) (aNil)))) (aNil)))))) (sRet (eC (.bl false))) (sNil)
noncomputable def bl_law_4 : MS := sIf (tV (e2 dLt (e2 dIx (eV 5) (eV 4)) (eC (.int 2)))) (sSeq (sSet 10 (eCall m_d_law_ask (aCons (eV 8) (aCons (eCall m_d_law_put (aCons (eV 5) (aCons (eV 4) (aCons (e2 dEq (e2 dIx (eV 5) (eV 4)) (eC (.int 1))) (aNil))))) (aNil)))))
  (sIf (tOr (tV (e2 dNe (e2 dIx (eV 10) (eC (.int 0))) (eC (.str "bad")))) (tOr (tTru (e1 (dIsi "bool") (e2 dIx (eV 10) (eC (.int 1))))) (tV (e2 dNe (e2 dIx (eV 10) (eC (.int 1))) (e1 dNeg (eC (.int 1))))))) (sRet (eC (.bl false))) (sNil))) (sNil)
noncomputable def le_law_5 : ME D := eCall m_d_law_draw (aCons (eV 1) (aCons (eV 4) (aNil)))
noncomputable def b_law : MS := sSeq (sSet 1 (eCall m_d_law_pool (aCons (eV 0) (aNil))))
  (sSeq (sSet 2 (e2 dIx (eLst (aCons (eC (.int 2)) (aCons (eC (.int 3)) (aCons (eC (.int 3)) (aCons (eC (.int 4)) (aCons (eC (.int 5)) (aCons (eC (.int 8)) (aCons (eC (.int 1)) (aNil))))))))) (eCall m_d_law_draw (aCons (eV 1) (aCons (eC (.int 7)) (aNil))))))
  (sSeq (sSet 3 (e2 dAdd (eC (.int 1)) (eCall m_d_law_draw (aCons (eV 1) (aCons (eC (.int 7)) (aNil))))))
  (sSeq (sIf (tV (e2 dEq (eCall m_d_law_draw (aCons (eV 1) (aCons (eC (.int 7)) (aNil)))) (eC (.int 6)))) (sSeq (sSet 2 (e2 dAdd (eC (.int 5)) (eCall m_d_law_draw (aCons (eV 1) (aCons (eC (.int 4)) (aNil))))))
  (sSet 3 (e2 dAdd (eC (.int 25)) (eCall m_d_law_draw (aCons (eV 1) (aCons (eC (.int 16)) (aNil))))))) (sNil))
  (sSeq (sSet 5 (e2 dAdd (eTup (aCons (eC .non) (aNil))) (eFn dTuple (aCons (eLc (iRange2 (aCons (eC (.int 1)) (aCons (eV 2) (aNil)))) [4] (gN 4) (tT) (le_law_5)) (aNil)))))
  (sSeq (sSet 6 (eCall m_d_law_words (aCons (eV 1) (aCons (eV 3) (aNil)))))
  (sSeq (sSet 7 (eCall m_d_law_members (aCons (eV 1) (aCons (eV 5) (aCons (eV 6) (aNil))))))
  (sSeq (sSet 8 (eCall m_d_law_houses (aCons (eV 1) (aCons (eV 7) (aNil)))))
  (sSeq (sSet 9 (eCall m_d_law_ask (aCons (eV 8) (aCons (eV 5) (aNil)))))
  (sSeq (sIf (tOr (tV (e2 dNe (e2 dIx (eV 9) (eC (.int 0))) (eC (.str "good")))) (tNot (tTru (eCall m_d_law_right (aCons (eV 8) (aCons (eV 5) (aNil))))))) (sRet (eC (.bl false))) (sNil))
  (sSeq (sFor (iRange2 (aCons (eC (.int 1)) (aCons (eV 2) (aNil)))) (gN 4) (bl_law_4))
  (sSeq (sFor (iRange1 (aCons (eC (.int 4)) (aNil))) (gN 11) (bl_law_3))
  (sSeq (sFor (iRange1 (aCons (eC (.int 3)) (aNil))) (gN 11) (bl_law_2))
  (sSeq (sSet 16 (eTup (aCons (eTup (aCons (eC (.int 0)) (aCons (eC (.int 9)) (aCons (eTup (aCons (eC (.str "x")) (aNil))) (aCons (eTup (aNil)) (aNil)))))) (aCons (eTup (aCons (eC (.int 0)) (aCons (eC (.int 9)) (aCons (eTup (aNil)) (aCons (eTup (aNil)) (aNil)))))) (aCons (eTup (aCons (eC (.int 0)) (aCons (eC (.int 9)) (aCons (eTup (aCons (eC (.str "x")) (aNil))) (aCons (eTup (aNil)) (aNil)))))) (aNil))))))
  (sSeq (sIf (tNot (tTru (eCall m_d_law_right (aCons (eV 16) (aCons (eTup (aCons (eC .non) (aCons (eC (.int 0)) (aCons (eCall m_d_law_draw (aCons (eV 1) (aCons (eC (.int 2)) (aNil)))) (aNil))))) (aNil)))))) (sRet (eC (.bl false))) (sNil))
  (sRet (eCall m_d_law_right (aCons (eV 8) (aCons (e2 dAdd (eTup (aCons (eC (.int 0)) (aNil))) (eSl dSl (eV 5) (oSome (eC (.int 1))) (oNone))) (aNil)))))))))))))))))))
noncomputable def m_law : List D → Store → R D := fnM 18 1 b_law
theorem ok_law (X : Fx K mg) : FnOk P w K mg base (L2.CX P w) 6 X.a_law X.d_law ["script"] (spM K mg 1 m_law) :=
  okM (k := 5) X.F_law sc_law rfl fun cdv A outer s H E hr tk =>
    (css_cons (cs_set (j := 1) sc_law.nd rfl (Or.inr rfl) (ce_call (n := 1) (ok_d_law_pool X) (hr.mono (by decide)) tk (by rfl) X.g_d_law_pool X.F_d_law_pool.kp (bd_d_law_pool X) (an_cons an_nil) (ca_cons (ce_v 0) (ca_nil))))
    (css_cons (cs_set (j := 2) sc_law.nd rfl (Or.inl rfl) (ce_ix ix_seq ops_ix (ce_lst (ca_cons (ce_int) (ca_cons (ce_int) (ca_cons (ce_int) (ca_cons (ce_int) (ca_cons (ce_int) (ca_cons (ce_int) (ca_cons (ce_int) (ca_nil))))))))) (ce_call (n := 2) (ok_d_law_draw X) (hr.mono (by decide)) tk (by rfl) X.g_d_law_draw X.F_d_law_draw.kp (bd_d_law_draw X) (an_cons (an_cons an_nil)) (ca_cons (ce_v 1) (ca_cons (ce_int) (ca_nil)))) (fun _ _ => rfl)))
    (css_cons (cs_set (j := 3) sc_law.nd rfl (Or.inl rfl) (ce_op op_addA ops_add (ce_int) (ce_call (n := 2) (ok_d_law_draw X) (hr.mono (by decide)) tk (by rfl) X.g_d_law_draw X.F_d_law_draw.kp (bd_d_law_draw X) (an_cons (an_cons an_nil)) (ca_cons (ce_v 1) (ca_cons (ce_int) (ca_nil))))))
    (css_cons (cs_if (ct_cmp (opA_eq hr.units) ops_eq (ce_call (n := 2) (ok_d_law_draw X) (hr.mono (by decide)) tk (by rfl) X.g_d_law_draw X.F_d_law_draw.kp (bd_d_law_draw X) (an_cons (an_cons an_nil)) (ca_cons (ce_v 1) (ca_cons (ce_int) (ca_nil)))) (ce_int) (nomark _)) (css_cons (cs_set (j := 2) sc_law.nd rfl (Or.inl rfl) (ce_op op_addA ops_add (ce_int) (ce_call (n := 2) (ok_d_law_draw X) (hr.mono (by decide)) tk (by rfl) X.g_d_law_draw X.F_d_law_draw.kp (bd_d_law_draw X) (an_cons (an_cons an_nil)) (ca_cons (ce_v 1) (ca_cons (ce_int) (ca_nil))))))
    (css_one (cs_set (j := 3) sc_law.nd rfl (Or.inl rfl) (ce_op op_addA ops_add (ce_int) (ce_call (n := 2) (ok_d_law_draw X) (hr.mono (by decide)) tk (by rfl) X.g_d_law_draw X.F_d_law_draw.kp (bd_d_law_draw X) (an_cons (an_cons an_nil)) (ca_cons (ce_v 1) (ca_cons (ce_int) (ca_nil)))))))) (css_nil))
    (css_cons (cs_set (j := 5) sc_law.nd rfl (Or.inl rfl) (ce_op op_addA ops_add (ce_tup (ca_cons (ce_non) (ca_nil))) (ce_callTy call_tuple_of fns_tuple (by rfl) X.b_tuple (by decide +kernel) (ca_cons (ce_lc (own := [("at", 4)]) rfl sc_law.nd (ci_range2 (by rfl) X.b_range (ca_cons (ce_int) (ca_cons (ce_v 2) (ca_nil)))) (blkOk_by (N := ["script", "pool", "many", "count", "at", "parents", "words", "members", "houses", "told", "odd", "step", "place", "word", "more", "other", "lone", "row"]) (sc := defScope s_law) (by decide +kernel)) (fun _ _ _ _ _ => cg_name (i := 4) sc_law.nd rfl (by first | exact Or.inl rfl | exact Or.inr rfl)) (fun _ _ _ _ _ => cts_nil) (fun _ _ _ _ _ => ce_call (n := 2) (ok_d_law_draw X) (hr.mono (by decide)) takes0 (by rfl) X.g_d_law_draw X.F_d_law_draw.kp (bd_d_law_draw X) (an_cons (an_cons an_nil)) (ca_cons (ce_v 1) (ca_cons (ce_v 4) (ca_nil))))) (ca_nil)))))
    (css_cons (cs_set (j := 6) sc_law.nd rfl (Or.inl rfl) (ce_call (n := 2) (ok_d_law_words X) (hr.mono (by decide)) tk (by rfl) X.g_d_law_words X.F_d_law_words.kp (bd_d_law_words X) (an_cons (an_cons an_nil)) (ca_cons (ce_v 1) (ca_cons (ce_v 3) (ca_nil)))))
    (css_cons (cs_set (j := 7) sc_law.nd rfl (Or.inl rfl) (ce_call (n := 3) (ok_d_law_members X) (hr.mono (by decide)) tk (by rfl) X.g_d_law_members X.F_d_law_members.kp (bd_d_law_members X) (an_cons (an_cons (an_cons an_nil))) (ca_cons (ce_v 1) (ca_cons (ce_v 5) (ca_cons (ce_v 6) (ca_nil))))))
    (css_cons (cs_set (j := 8) sc_law.nd rfl (Or.inl rfl) (ce_call (n := 2) (ok_d_law_houses X) (hr.mono (by decide)) tk (by rfl) X.g_d_law_houses X.F_d_law_houses.kp (bd_d_law_houses X) (an_cons (an_cons an_nil)) (ca_cons (ce_v 1) (ca_cons (ce_v 7) (ca_nil)))))
    (css_cons (cs_set (j := 9) sc_law.nd rfl (Or.inl rfl) (ce_call (n := 2) (ok_d_law_ask X) (hr.mono (by decide)) tk (by rfl) X.g_d_law_ask X.F_d_law_ask.kp (bd_d_law_ask X) (an_cons (an_cons an_nil)) (ca_cons (ce_v 8) (ca_cons (ce_v 5) (ca_nil)))))
    (css_cons (cs_if (PW.pt (cw_or (ct_cmp (opA_ne hr.units) ops_ne (ce_ix ix_seq ops_ix (ce_v 9) (ce_int) (fun _ _ => rfl)) (ce_str) (nomark _)) (cw_or1 (ct_not (ct_tru (ce_call (n := 2) (ok_d_law_right X) (hr.mono (by decide)) tk (by rfl) X.g_d_law_right X.F_d_law_right.kp (bd_d_law_right X) (an_cons (an_cons an_nil)) (ca_cons (ce_v 8) (ca_cons (ce_v 5) (ca_nil))))))))) (css_one (cs_ret (ce_bl))) (css_nil))
    (css_cons (cs_for (passes_of rfl) rfl (ci_range2 (by rfl) X.b_range (ca_cons (ce_int) (ca_cons (ce_v 2) (ca_nil)))) (cg_name (i := 4) sc_law.nd rfl (by first | exact Or.inl rfl | exact Or.inr rfl)) (css_one (cs_if (ct_cmp opA_lt ops_lt (ce_ix ix_seq ops_ix (ce_v 5) (ce_v 4) (fun _ _ => rfl)) (ce_int) (nomark _)) (css_cons (cs_set (j := 10) sc_law.nd rfl (Or.inl rfl) (ce_call (n := 2) (ok_d_law_ask X) (hr.mono (by decide)) tk (by rfl) X.g_d_law_ask X.F_d_law_ask.kp (bd_d_law_ask X) (an_cons (an_cons an_nil)) (ca_cons (ce_v 8) (ca_cons (ce_call (n := 3) (ok_d_law_put X) (hr.mono (by decide)) tk (by rfl) X.g_d_law_put X.F_d_law_put.kp (bd_d_law_put X) (an_cons (an_cons (an_cons an_nil))) (ca_cons (ce_v 5) (ca_cons (ce_v 4) (ca_cons (ce_cmp (opA_eq hr.units) ops_eq (ce_ix ix_seq ops_ix (ce_v 5) (ce_v 4) (fun _ _ => rfl)) (ce_int) (nomark _)) (ca_nil))))) (ca_nil)))))
    (css_one (cs_if (PW.pt (cw_or (ct_cmp (opA_ne hr.units) ops_ne (ce_ix ix_seq ops_ix (ce_v 10) (ce_int) (fun _ _ => rfl)) (ce_str) (nomark _)) (cw_or (ct_tru (ce_isi (T := "bool") (by rfl) X.b_isinstance (by rfl) X.b_bool (by decide +kernel) (ce_ix ix_seq ops_ix (ce_v 10) (ce_int) (fun _ _ => rfl)))) (cw_or1 (ct_cmp (opA_ne hr.units) ops_ne (ce_ix ix_seq ops_ix (ce_v 10) (ce_int) (fun _ _ => rfl)) (ce_un un_neg uns_neg (ce_int)) (nomark _)))))) (css_one (cs_ret (ce_bl))) (css_nil)))) (css_nil))))
    (css_cons (cs_for (passes_of rfl) rfl (ci_range1 (by rfl) X.b_range (ca_cons (ce_int) (ca_nil))) (cg_name (i := 11) sc_law.nd rfl (by first | exact Or.inl rfl | exact Or.inr rfl)) (css_one (cs_if (ct_not (ct_tru (ce_call (n := 2) (ok_d_law_right X) (hr.mono (by decide)) tk (by rfl) X.g_d_law_right X.F_d_law_right.kp (bd_d_law_right X) (an_cons (an_cons an_nil)) (ca_cons (ce_v 8) (ca_cons (ce_call (n := 2) (ok_d_law_bent X) (hr.mono (by decide)) tk (by rfl) X.g_d_law_bent X.F_d_law_bent.kp (bd_d_law_bent X) (an_cons (an_cons an_nil)) (ca_cons (ce_v 1) (ca_cons (ce_v 5) (ca_nil)))) (ca_nil)))))) (css_one (cs_ret (ce_bl))) (css_nil))))
    (css_cons (cs_for (passes_of rfl) rfl (ci_range1 (by rfl) X.b_range (ca_cons (ce_int) (ca_nil))) (cg_name (i := 11) sc_law.nd rfl (by first | exact Or.inl rfl | exact Or.inr rfl)) (css_cons (cs_set (j := 12) sc_law.nd rfl (Or.inl rfl) (ce_call (n := 2) (ok_d_law_draw X) (hr.mono (by decide)) tk (by rfl) X.g_d_law_draw X.F_d_law_draw.kp (bd_d_law_draw X) (an_cons (an_cons an_nil)) (ca_cons (ce_v 1) (ca_cons (ce_v 2) (ca_nil)))))
    (css_cons (cs_set (j := 13) sc_law.nd rfl (Or.inl rfl) (ce_ix ix_seq ops_ix (ce_v 6) (ce_call (n := 2) (ok_d_law_draw X) (hr.mono (by decide)) tk (by rfl) X.g_d_law_draw X.F_d_law_draw.kp (bd_d_law_draw X) (an_cons (an_cons an_nil)) (ca_cons (ce_v 1) (ca_cons (ce_v 3) (ca_nil)))) (fun _ _ => rfl)))
    (css_one (cs_if (ct_cmp (opA_notin (un65 hr)) ops_notin (ce_v 13) (ce_ix ix_seq ops_ix (ce_v 7) (ce_v 12) (fun _ _ => rfl)) (by with_unfolding_all rfl)) (css_cons (cs_setLc (i := 14) (own := [("row", 17)]) rfl sc_law.nd rfl rfl (sw_true rfl rfl rfl (by decide +kernel)) (ci_seq (ce_v 7)) (blkOk_by (N := ["script", "pool", "many", "count", "at", "parents", "words", "members", "houses", "told", "odd", "step", "place", "word", "more", "other", "lone", "row"]) (sc := defScope s_law) (by decide +kernel)) (fun _ _ _ _ _ => cg_name (i := 17) sc_law.nd rfl (by first | exact Or.inl rfl | exact Or.inr rfl)) (fun _ _ _ _ _ => cts_nil) (fun _ _ _ _ _ => ce_callTy call_list_of fns_list (by rfl) X.b_list (by decide +kernel) (ca_cons (ce_v 17) (ca_nil))))
    (css_cons (cs_expr (ce_bm PySem.F.plainAttrs_list PySem.F.slot_list_append PySem.F.type_list_append mt_append mts_append (ce_ix ix_seq ops_ix (ce_v 14) (ce_v 12) (fun _ _ => rfl)) (ca_cons (ce_v 13) (ca_nil))))
    (css_cons (cs_set (j := 15) sc_law.nd rfl (Or.inl rfl) (ce_call (n := 2) (ok_d_law_houses X) (hr.mono (by decide)) tk (by rfl) X.g_d_law_houses X.F_d_law_houses.kp (bd_d_law_houses X) (an_cons (an_cons an_nil)) (ca_cons (ce_v 1) (ca_cons (ce_v 14) (ca_nil)))))
    (css_cons (cs_if (ct_not (ct_tru (ce_call (n := 2) (ok_d_law_right X) (hr.mono (by decide)) tk (by rfl) X.g_d_law_right X.F_d_law_right.kp (bd_d_law_right X) (an_cons (an_cons an_nil)) (ca_cons (ce_v 15) (ca_cons (ce_v 5) (ca_nil)))))) (css_one (cs_ret (ce_bl))) (css_nil))
    (css_one (cs_if (ct_not (ct_tru (ce_call (n := 2) (ok_d_law_right X) (hr.mono (by decide)) tk (by rfl) X.g_d_law_right X.F_d_law_right.kp (bd_d_law_right X) (an_cons (an_cons an_nil)) (ca_cons (ce_v 15) (ca_cons (ce_call (n := 2) (ok_d_law_bent X) (hr.mono (by decide)) tk (by rfl) X.g_d_law_bent X.F_d_law_bent.kp (bd_d_law_bent X) (an_cons (an_cons an_nil)) (ca_cons (ce_v 1) (ca_cons (ce_v 5) (ca_nil)))) (ca_nil)))))) (css_one (cs_ret (ce_bl))) (css_nil))))))) (css_nil))))))
    (css_cons (cs_set (j := 16) sc_law.nd rfl (Or.inl rfl) (ce_tup (ca_cons (ce_tup (ca_cons (ce_int) (ca_cons (ce_int) (ca_cons (ce_tup (ca_cons (ce_str) (ca_nil))) (ca_cons (ce_tup (ca_nil)) (ca_nil)))))) (ca_cons (ce_tup (ca_cons (ce_int) (ca_cons (ce_int) (ca_cons (ce_tup (ca_nil)) (ca_cons (ce_tup (ca_nil)) (ca_nil)))))) (ca_cons (ce_tup (ca_cons (ce_int) (ca_cons (ce_int) (ca_cons (ce_tup (ca_cons (ce_str) (ca_nil))) (ca_cons (ce_tup (ca_nil)) (ca_nil)))))) (ca_nil))))))
    (css_cons (cs_if (ct_not (ct_tru (ce_call (n := 2) (ok_d_law_right X) (hr.mono (by decide)) tk (by rfl) X.g_d_law_right X.F_d_law_right.kp (bd_d_law_right X) (an_cons (an_cons an_nil)) (ca_cons (ce_v 16) (ca_cons (ce_tup (ca_cons (ce_non) (ca_cons (ce_int) (ca_cons (ce_call (n := 2) (ok_d_law_draw X) (hr.mono (by decide)) tk (by rfl) X.g_d_law_draw X.F_d_law_draw.kp (bd_d_law_draw X) (an_cons (an_cons an_nil)) (ca_cons (ce_v 1) (ca_cons (ce_int) (ca_nil)))) (ca_nil))))) (ca_nil)))))) (css_one (cs_ret (ce_bl))) (css_nil))
    (css_one (cs_ret (ce_call (n := 2) (ok_d_law_right X) (hr.mono (by decide)) tk (by rfl) X.g_d_law_right X.F_d_law_right.kp (bd_d_law_right X) (an_cons (an_cons an_nil)) (ca_cons (ce_v 8) (ca_cons (ce_op op_addA ops_add (ce_tup (ca_cons (ce_int) (ca_nil))) (ce_sl sl_LT sls_LT (ce_v 5) (co_some (ce_int)) (co_none))) (ca_nil)))))))))))))))))))) :
      PSs _ _ (Ts _ _ _ b_law))
end Law
namespace Law
open PySem Mi
/-- the pool at p, its cells at c -/
def Pool (c p : Nat) (s : Store) : Prop := ∃ (cs : List Int) (t : Nat), s[p]? = some (.lst [.loc c, .int t]) ∧ s[c]? = some (.lst (cs.map D.int)) ∧ 0 < cs.length ∧ cs.length ≤ 100 ∧ c ≠ p
def Kp2 (c p : Nat) (s s' : Store) : Prop := s.length ≤ s'.length ∧ ∀ l, l < s.length → l ≠ p → l ≠ c → s'[l]? = s[l]?
theorem Kp2.refl (c p : Nat) (s : Store) : Kp2 c p s s := ⟨Nat.le_refl _, fun _ _ _ _ => rfl⟩
theorem Kp2.trans {c p : Nat} {s s1 s2 : Store} (a : Kp2 c p s s1) (b : Kp2 c p s1 s2) : Kp2 c p s s2 :=
  ⟨Nat.le_trans a.1 b.1, fun l h n m => (b.2 l (Nat.lt_of_lt_of_le h a.1) n m).trans (a.2 l h n m)⟩
theorem Kp2.app (c p : Nat) (s r : Store) : Kp2 c p s (s ++ r) := ⟨by simp, fun l h _ _ => List.getElem?_append_left h⟩
theorem Kp2.get {c p : Nat} {s s' : Store} (a : Kp2 c p s s') {l : Nat} {x : Cell} (h : s[l]? = some x) (n : l ≠ p) (m : l ≠ c) : s'[l]? = some x := by
  rw [a.2 l (lt_of_get h) n m]
  exact h
theorem Pool.app {c p : Nat} {s : Store} (h : Pool c p s) (r : Store) : Pool c p (s ++ r) := by
  obtain ⟨cs, t, h1, h2, q⟩ := h
  exact ⟨cs, t, by rw [List.getElem?_append_left (lt_of_get h1)]; exact h1, by rw [List.getElem?_append_left (lt_of_get h2)]; exact h2, q⟩
theorem Pool.set {c p l : Nat} {s : Store} (h : Pool c p s) (n : l ≠ p) (m : l ≠ c) (x : Cell) : Pool c p (s.set l x) := by
  obtain ⟨cs, t, h1, h2, q⟩ := h
  exact ⟨cs, t, by rw [List.getElem?_set_ne n]; exact h1, by rw [List.getElem?_set_ne m]; exact h2, q⟩
theorem Pool.lt {c p : Nat} {s : Store} (h : Pool c p s) : p < s.length ∧ c < s.length := let ⟨_, _, h1, h2, _⟩ := h; ⟨lt_of_get h1, lt_of_get h2⟩
theorem pys_int : ∀ ns : List Int, pys0 (ns.map D.int) = some (ns.map PyData.int)
  | [] => rfl
  | x :: r => by
    show (py0 (.int x)).bind (fun a => (pys0 (r.map D.int)).map fun q => a :: q) = _
    rw [pys_int r]
    rfl
theorem lay_int : ∀ ns : List Int, PyData.canLayAll0 (ns.map PyData.int) = true ∧ PyData.depthAll (ns.map PyData.int) ≤ 10
  | [] => ⟨by simp [PyData.canLayAll0], by simp [PyData.depthAll]⟩
  | x :: r => by
    obtain ⟨a, b⟩ := lay_int r
    constructor
    · simp [PyData.canLayAll0, PyData.canLay0]
      simpa using a
    · simp only [List.map_cons, PyData.depthAll, PyData.depth] at b ⊢
      omega
theorem eq_nil {s : Store} {l k : Nat} {ns : List Int} (h : s[l]? = some (.lst (ns.map D.int))) (h2 : s[k]? = some (.lst [])) : dEq (.loc l) (.loc k) s = some (.bl ns.isEmpty, s) := by
  obtain ⟨a, b⟩ := lay_int ns
  have h1 : py1 s (.loc l) = some (.list (ns.map PyData.int)) := by simp [py1, h, pys_int]
  have h3 : py1 s (.loc k) = some (.list []) := by simp [py1, h2, pys0]
  have h4 : SeqAt.shaped (.list (ns.map PyData.int)) = true := by
    simp [SeqAt.shaped, PyData.canLay0, PyData.depth, a]
    omega
  have h5 : SeqAt.shaped (.list []) = true := by simp [SeqAt.shaped, PyData.canLay0, PyData.canLayAll0, PyData.depth, PyData.depthAll]
  have h6 : PyData.eqv (.list (ns.map PyData.int)) (.list []) = ns.isEmpty := by
    cases ns <;> simp [PyData.eqv, PyData.eqvAll]
  have h7 : dScal (.loc l) (.loc k) = none := rfl
  simp [dEq, dEqB, h7, h1, h3, h4, h5, h6]
theorem pool_spec (ns : List Int) (hn : ns.length ≤ 63) : ∃ c p s, m_d_law_pool [.fl (ns.map D.int)] [] = .ok (.loc p) s ∧ Pool c p s := by
  have e := lcL_map (gd := always) (g := gN 2) (t := tT) (e := le_d_law_pool_1) (env := [some (.fl (ns.map D.int)), none, none]) (s := []) trivial D.int D.int ns (fun x _ => by simp [le_d_law_pool_1]) (by omega)
  have w := eq_nil (s := [.lst (ns.map D.int), .lst []]) (l := 0) (k := 1) (ns := ns) rfl rfl
  cases ns with
  | nil =>
    simp at e w
    simp [m_d_law_pool, b_d_law_pool, e, w]
    exact ⟨2, _, _, ⟨rfl, rfl⟩, [29], 0, rfl, rfl, by simp, by simp, by omega⟩
  | cons n r =>
    simp at e w hn
    simp [m_d_law_pool, b_d_law_pool, e, w]
    exact ⟨0, _, _, ⟨rfl, rfl⟩, n :: r, 0, rfl, rfl, by simp, by simp; omega, by omega⟩
theorem draw_spec {c p : Nat} {s : Store} (h : Pool c p s) {many : Int} (h0 : 0 < many) (h1 : many < 1073741824) :
    ∃ k s', m_d_law_draw [.loc p, .int many] s = .ok (.int k) s' ∧ 0 ≤ k ∧ k < many ∧ Pool c p s' ∧ Kp2 c p s s' := by
  obtain ⟨cs, t, hp, hc, hn, hz, ne⟩ := h
  have w0 : dIx (.loc p) (.int 0) s = some (.loc c, s) := by rw [dIx_loc hp]; simp
  have w1 : dIx (.loc p) (.int 1) s = some (.int t, s) := by rw [dIx_loc hp]; simp
  obtain ⟨s1, hs1⟩ : ∃ s1, s1 = s.set p (.lst [.loc c, .int ((t : Int) + 1)]) := ⟨_, rfl⟩
  have w2 : pList (.loc p) (.int 1) (.int ((t : Int) + 1)) s = some s1 := by
    rw [hs1]
    exact pList_loc hp 1 (by simp) _
  have hc1 : s1[c]? = some (.lst (cs.map D.int)) := by rw [hs1, List.getElem?_set_ne (Ne.symm ne)]; exact hc
  have hp1 : s1[p]? = some (.lst [.loc c, .int ((t + 1 : Nat) : Int)]) := by rw [hs1]; exact get_set hp
  have w3 := dLen_loc hc1
  rw [List.length_map] at w3
  have k1 : Kp2 c p s s1 := by rw [hs1]; exact ⟨by simp, fun l _ n _ => List.getElem?_set_ne (Ne.symm n)⟩
  have hi : t % cs.length < cs.length := Nat.mod_lt _ hn
  have w4 : dIx (.loc c) (.int ((t : Int) % (cs.length : Int))) s1 = some (.int (cs[t % cs.length]'hi), s1) := by
    rw [dIx_loc hc1, show ((t : Int) % (cs.length : Int)) = ((t % cs.length : Nat) : Int) from rfl, L2.atI_nat (v := D.int (cs[t % cs.length]'hi)) (by simp [hi])]
    rfl
  generalize (cs[t % cs.length]'hi) = cell at w4
  have hn' : (0 : Int) < (cs.length : Int) := by omega
  have wm := fun s => dMod_int (t : Int) (cs.length : Int) s hn'
  by_cases hb : (1000000000000000000 : Int) ≤ cell
  · obtain ⟨s2, hs2⟩ : ∃ s2, s2 = s1.set c (.lst ((cs.map D.int).set (t % cs.length) (.int (cell / many)))) := ⟨_, rfl⟩
    have w5 : pList (.loc c) (.int ((t : Int) % (cs.length : Int))) (.int (cell / many)) s1 = some s2 := by
      rw [hs2]
      exact pList_loc hc1 (t % cs.length) (by simpa using hi) _
    refine ⟨cell % many, s2, ?_, Int.emod_nonneg _ (by omega), Int.emod_lt_of_pos _ h0, ⟨cs.set (t % cs.length) (cell / many), t + 1, ?_, ?_, by simpa using hn, by simpa using hz, ne⟩, k1.trans ?_⟩
    · simp [m_d_law_draw, b_d_law_draw, w0, w1, w2, w3, wm, w4, w5, hb, h0, h1]
    · rw [hs2, List.getElem?_set_ne ne]; exact hp1
    · rw [hs2, get_set hc1, List.map_set]
    · rw [hs2]; exact ⟨by simp, fun l _ _ n => List.getElem?_set_ne (Ne.symm n)⟩
  · obtain ⟨one, ho⟩ : ∃ one, one = (cell * 36643 + (t : Int) * 8053 + 331) % 1000121 := ⟨_, rfl⟩
    have o0 : 0 ≤ one := by rw [ho]; exact Int.emod_nonneg _ (by omega)
    have o1 : one < 1000121 := by rw [ho]; exact Int.emod_lt_of_pos _ (by omega)
    have hm := fun s => dMul_r one one s ⟨by omega, by omega⟩
    rw [ho] at hm
    refine ⟨_, s1, ?_, Int.emod_nonneg ((one * one + one * 6607 + (t : Int) * 29) % 999907) (by omega), Int.emod_lt_of_pos _ h0, ⟨cs, t + 1, hp1, hc1, hn, hz, ne⟩, k1⟩
    simp [m_d_law_draw, b_d_law_draw, w0, w1, w2, w3, wm, w4, hb, h0, hm, ho]
end Law
namespace Law
open PySem Mi
/-! ### parents -/
def isT : D → Bool
  | .tup _ => true
  | _ => false
def isI : D → Bool
  | .int _ => true
  | _ => false
def isB : D → Bool
  | .bl _ => true
  | _ => false
def isN : D → Bool
  | .non => true
  | _ => false
def Wf (s : Store) (d : D) : Prop := (tyN s d).isSome = true
theorem isT_spec {s : Store} {d : D} (h : Wf s d) : dIsi "tuple" d s = some (.bl (isT d), s) := by
  unfold Wf at h
  cases d with
  | loc l =>
    cases q : s[l]? with
    | none => simp [tyN, q] at h
    | some c => cases c <;> simp [tyN, q, isT]
  | exv _ _ _ _ => simp [tyN] at h
  | _ => simp [tyN, isT]
theorem isI_spec {s : Store} {d : D} (h : Wf s d) : dIsi "int" d s = some (.bl (isI d || isB d), s) := by
  unfold Wf at h
  cases d with
  | loc l =>
    cases q : s[l]? with
    | none => simp [tyN, q] at h
    | some c => cases c <;> simp [tyN, q, isI, isB]
  | exv _ _ _ _ => simp [tyN] at h
  | _ => simp [tyN, isI, isB]
theorem isB_spec {s : Store} {d : D} (h : Wf s d) : dIsi "bool" d s = some (.bl (isB d), s) := by
  unfold Wf at h
  cases d with
  | loc l =>
    cases q : s[l]? with
    | none => simp [tyN, q] at h
    | some c => cases c <;> simp [tyN, q, isB]
  | exv _ _ _ _ => simp [tyN] at h
  | _ => simp [tyN, isB]
theorem isN_spec (s : Store) (d : D) : dIsNot d .non s = some (.bl (!isN d), s) := by cases d <;> rfl
theorem integer_spec {s : Store} {d : D} (h : Wf s d) : m_is_integer [d] s = .ok (.bl (isI d)) s := by
  have h1 := isI_spec h
  have h2 := isB_spec h
  generalize dIsi "int" d s = a at *
  cases e1 : isI d <;> cases e2 : isB d <;> simp [m_is_integer, b_is_integer, -dIsi_eq, isI_spec h, isB_spec h, e1, e2] <;> (cases d <;> simp [isI, isB] at e1 e2)
/-- the j-th parent is a number below j -/
def okAt (j : Nat) : D → Bool
  | .int v => decide (0 ≤ v) && decide (v < j)
  | _ => false
def isPar (n : Nat) : D → Bool
  | .tup (.non :: xs) => decide (xs.length + 1 = n) && (List.range (n - 1)).all fun k => okAt (k + 1) (xs.getD k .non)
  | _ => false
def Wfs (s : Store) (d : D) : Prop := Wf s d ∧ ∀ xs, d = .tup xs → ∀ x ∈ xs, Wf s x
theorem turnT {I : Sl → Prop} {env : Sl} {s : Store} (h : I env) : ∃ env', RS.nx env s = .nx env' s ∧ I env' := ⟨env, rfl, h⟩
theorem rng2_map (lo : Int) (n : Nat) : rng2 lo n = (List.range n).map fun (k : Nat) => D.int (lo + (k : Nat)) := rfl
theorem parents_loop {n : Nat} {x : D} {xs : List D} {s : Store} (hx : xs.length + 1 = n) (w : ∀ y ∈ xs, Wf s y) (o : Option D) :
    if ((List.range (n - 1)).all fun k => okAt (k + 1) (xs.getD k .non)) = true then ∃ env', forL always (gN 2) bl_are_parents_1 (rng2 1 (n - 1)) [some (.int n), some (.tup (x :: xs)), o] s = .nx env' s
    else forL always (gN 2) bl_are_parents_1 (rng2 1 (n - 1)) [some (.int n), some (.tup (x :: xs)), o] s = .rt (.bl false) s := by
  have q := forL_all (gd := always) (g := gN 2) (b := bl_are_parents_1) (fun k : Nat => D.int (1 + (k : Nat))) (List.range (n - 1)) (fun env => ∃ o, env = [some (.int n), some (.tup (x :: xs)), o]) s (fun k => okAt (k + 1) (xs.getD k .non)) (.bl false) trivial
    (fun k hk env ⟨o, he⟩ => by
      subst he
      have hk' : k < xs.length := by have := List.mem_range.mp hk; omega
      have z : xs.getD k .non = xs[k] := by simp [hk']
      have w1 : dIx (.tup (x :: xs)) (.int (1 + (k : Nat))) s = some (xs[k], s) := by
        rw [dIx_tup, show (1 + (k : Nat) : Int) = ((k + 1 : Nat) : Int) by omega, atI_ofNat _ _ (xs[k]) (by simp [hk'])]
        rfl
      have w2 := integer_spec (w _ (List.getElem_mem hk'))
      simp only [z]
      generalize xs[k] = y at *
      cases y with
      | int v =>
        by_cases c1 : v < 0
        · simp [bl_are_parents_1, w1, w2, isI, c1, okAt]
          intro _; omega
        · by_cases c2 : 1 + (k : Int) ≤ v
          · simp [bl_are_parents_1, w1, w2, isI, c1, c2, okAt]
            intro _; omega
          · simp [bl_are_parents_1, w1, w2, isI, c1, c2, okAt]
            omega
      | _ => simp [bl_are_parents_1, w1, w2, isI, okAt]) (env := [some (.int n), some (.tup (x :: xs)), o]) ⟨o, rfl⟩
  rw [rng2_map]
  split
  · rename_i c
    rw [if_pos c] at q
    obtain ⟨env', e, _⟩ := q
    exact ⟨env', e⟩
  · rename_i c
    rw [if_neg c] at q
    exact q
theorem parents_spec {n : Nat} (hn : 1 ≤ n) (hn2 : n ≤ 1000) {d : D} {s : Store} (w : Wfs s d) : m_are_parents [.int n, d] s = .ok (.bl (isPar n d)) s := by
  have h1 := isT_spec w.1
  cases d with
  | tup xs =>
    cases xs with
    | nil =>
      have : ¬ (0 : Int) = n := by omega
      simp [m_are_parents, b_are_parents, isPar, this]
    | cons x xs =>
      by_cases hl : xs.length + 1 = n
      · have hl' : ((xs.length : Int) + 1) = n := by omega
        have w2 := isN_spec s x
        cases hN : isN x with
        | false =>
          have e : isPar n (.tup (x :: xs)) = false := by cases x <;> first | rfl | cases hN
          rw [e]
          rw [hN] at w2
          simp [m_are_parents, b_are_parents, hl', dIx_tup, w2]
        | true =>
          cases x with
          | non =>
            have q := parents_loop (n := n) (x := .non) (s := s) hl (fun y hy => w.2 _ rfl y (List.mem_cons_of_mem _ hy)) none
            have wr := range2_int 1 n s (by omega) (by omega) (by omega) (by omega)
            rw [show ((n : Int) - 1).toNat = n - 1 by omega] at wr
            have e : isPar n (.tup (.non :: xs)) = (List.range (n - 1)).all fun k => okAt (k + 1) (xs.getD k .non) := by simp [isPar, hl]
            rw [e]
            generalize ((List.range (n - 1)).all fun k => okAt (k + 1) (xs.getD k .non)) = c at *
            cases c with
            | false =>
              simp at q
              simp [m_are_parents, b_are_parents, hl', dIx_tup, wr, q, -rangeOf2_int]
            | true =>
              simp at q
              obtain ⟨env', q⟩ := q
              simp [m_are_parents, b_are_parents, hl', dIx_tup, wr, q, -rangeOf2_int]
          | _ => cases hN
      · have hl' : ¬ ((xs.length : Int) + 1) = n := by omega
        have e : isPar n (.tup (x :: xs)) = false := by cases x <;> simp [isPar, hl]
        rw [e]
        simp [m_are_parents, b_are_parents, hl']
  | _ => simp [m_are_parents, b_are_parents, isPar, h1, isT, -dIsi_eq]
/-- the numbers of right parents -/
theorem isPar_ints {n : Nat} {d : D} (h : isPar n d = true) : ∃ ps : List Int, d = .tup (.non :: ps.map D.int) ∧ ps.length + 1 = n ∧ ∀ k (hk : k < ps.length), 0 ≤ ps[k] ∧ ps[k] < k + 1 := by
  cases d with
  | tup xs =>
    cases xs with
    | nil => cases h
    | cons x xs =>
      cases x with
      | non =>
        simp only [isPar, Bool.and_eq_true, decide_eq_true_iff, List.all_eq_true, List.mem_range] at h
        obtain ⟨hl, h⟩ := h
        have key : ∀ k (hk : k < xs.length), ∃ v, xs[k] = .int v ∧ 0 ≤ v ∧ v < k + 1 := fun k hk => by
          have z := h k (by omega)
          rw [List.getD_eq_getElem?_getD, List.getElem?_eq_getElem hk, Option.getD_some] at z
          generalize xs[k] = y at *
          cases y with
          | int v => simp [okAt] at z; exact ⟨v, rfl, z.1, by omega⟩
          | _ => cases z
        obtain ⟨ps, hps⟩ : ∃ ps : List Int, ps = xs.map fun d => match d with | .int v => v | _ => 0 := ⟨_, rfl⟩
        have hl2 : ps.length = xs.length := by rw [hps]; simp
        have e : xs = ps.map D.int := by
          apply List.ext_getElem (by simp [hl2])
          intro k h1 h2
          obtain ⟨v, hv, _⟩ := key k h1
          simp [hps, hv]
        refine ⟨ps, by rw [← e], by omega, fun k hk => ?_⟩
        obtain ⟨v, hv, a, b⟩ := key k (by omega)
        have : ps[k] = v := by simp [hps, hv]
        rw [this]
        exact ⟨a, b⟩
      | _ => cases h
  | _ => cases h
end Law
namespace Law
open PySem Mi
/-! ### the houses under h -/
def pr (ps : List Int) (k : Nat) : Int := ps.getD k 0
def hs (Hs : List (List Str)) (k : Nat) : List Str := Hs.getD k []
def undL (ps : List Int) (h : Nat) : Nat → List Int
  | 0 => [(h : Int)]
  | k + 1 => if pr ps (h + k) ∈ undL ps h k then undL ps h k ++ [((h + 1 + k : Nat) : Int)] else undL ps h k
theorem undL_len (ps : List Int) (h : Nat) : ∀ k, (undL ps h k).length ≤ k + 1
  | 0 => by simp [undL]
  | k + 1 => by
    have ih := undL_len ps h k
    unfold undL
    split
    · simp; omega
    · omega
def parD (ps : List Int) : D := .tup (.non :: ps.map D.int)
theorem par_ix {ps : List Int} {k : Nat} (hk : k < ps.length) (s : Store) {i : Int} (hi : i = ((k + 1 : Nat) : Int)) : dIx (parD ps) (.int i) s = some (.int (pr ps k), s) := by
  subst hi
  rw [parD, dIx_tup, atI_ofNat _ _ (.int (pr ps k)) (by simp [pr, hk])]
  rfl
theorem under_loop {ps : List Int} {h : Nat} (hh : h ≤ ps.length) (hn : ps.length ≤ 1000) (s : Store) (o : Option D) :
    ∃ env', forL always (gN 3) bl_houses_under_1 (rng2 (h + 1) (ps.length - h)) [some (parD ps), some (.int h), some (.loc s.length), o] (s ++ [.lst ((undL ps h 0).map D.int)]) = .nx env' (s ++ [.lst ((undL ps h (ps.length - h)).map D.int)]) ∧ ∃ o, env' = [some (parD ps), some (.int h), some (.loc s.length), o] := by
  obtain ⟨env', s', e, ⟨o', he⟩, hs⟩ := forL_atT (gd := always) (g := gN 3) (b := bl_houses_under_1) (rng2 (h + 1) (ps.length - h)) (fun k env s' => (∃ o, env = [some (parD ps), some (.int h), some (.loc s.length), o]) ∧ s' = s ++ [.lst ((undL ps h k).map D.int)]) (fun _ _ _ _ => trivial)
    (fun k d env s' hk ⟨⟨o, he⟩, hs⟩ => by
      subst he hs
      obtain ⟨hk, rfl⟩ := rng2_get hk
      have w1 : ∀ s, dIx (parD ps) (.int ((h : Int) + 1 + (k : Nat))) s = some (.int (pr ps (h + k)), s) := fun s => par_ix (by omega) s (by omega)
      have w2 := dIn_of (dInB_locI (get_new s (.lst ((undL ps h k).map D.int))) (pr ps (h + k)))
      have hl := undL_len ps h k
      have w3 := app_new s ((undL ps h k).map D.int) (.int ((h : Int) + 1 + (k : Nat))) (by simp; omega)
      have w4 := ty_new s ((undL ps h k).map D.int)
      have e : (undL ps h (k + 1)).map D.int = if pr ps (h + k) ∈ undL ps h k then (undL ps h k).map D.int ++ [.int ((h : Int) + 1 + (k : Nat))] else (undL ps h k).map D.int := by
        show (if _ then _ else _ : List Int).map D.int = _
        split
        · simp
        · rfl
      rw [e]
      generalize (undL ps h k).map D.int = L at *
      by_cases c : pr ps (h + k) ∈ undL ps h k
      · simp only [c, decide_true, if_true] at w2 ⊢
        generalize s ++ [Cell.lst L] = s1 at *
        simp [bl_houses_under_1, w1, w2, w3, w4]
      · simp only [c, decide_false, if_false] at w2 ⊢
        generalize s ++ [Cell.lst L] = s1 at *
        simp [bl_houses_under_1, w1, w2]) (env := [some (parD ps), some (.int h), some (.loc s.length), o]) (s := s ++ [.lst ((undL ps h 0).map D.int)]) ⟨⟨o, rfl⟩, rfl⟩
  rw [rng2_len] at hs
  subst hs
  exact ⟨env', e, o', he⟩
theorem under_spec {ps : List Int} {h : Nat} (hh : h ≤ ps.length) (hn : ps.length ≤ 1000) (s : Store) : m_houses_under [parD ps, .int h] s = .ok (.loc s.length) (s ++ [.lst ((undL ps h (ps.length - h)).map D.int)]) := by
  obtain ⟨env', e, o, rfl⟩ := under_loop hh hn s none
  have wl : dLen [parD ps] (s ++ [.lst ((undL ps h 0).map D.int)]) = some (.int ((ps.length : Int) + 1), s ++ [.lst ((undL ps h 0).map D.int)]) := by simp [parD]
  have wr := range2_int ((h : Int) + 1) ((ps.length : Int) + 1) (s ++ [.lst ((undL ps h 0).map D.int)]) (by omega) (by omega) (by omega) (by omega)
  rw [show ((ps.length : Int) + 1 - ((h : Int) + 1)).toNat = ps.length - h by omega] at wr
  generalize (undL ps h (ps.length - h)).map D.int = L at *
  have e0 : (undL ps h 0).map D.int = [.int h] := rfl
  rw [e0] at e wl wr
  simp [m_houses_under, b_houses_under, wl, wr, e, -rangeOf2_int]
/-! ### books and what stands outside -/
def BookOk (b : D) (ds : List Str) : Prop := ∃ x y z, b = .tup [x, y, .tup (ds.map D.str), z]
structure Hou (hd : D) (Hs : List (List Str)) : Prop where
  bs : ∃ bs, hd = .tup bs ∧ bs.length = Hs.length ∧ ∀ i (h : i < bs.length) (h2 : i < Hs.length), BookOk bs[i] Hs[i]
  few : Hs.length ≤ 100
  pos : 1 ≤ Hs.length
  short : ∀ ds ∈ Hs, ds.length ≤ 1000
theorem Hou.ix {hd : D} {Hs : List (List Str)} (w : Hou hd Hs) {i : Nat} (hi : i < Hs.length) : ∃ b, (∀ s, dIx hd (.int (i : Nat)) s = some (b, s)) ∧ ∀ s, dIx b (.int 2) s = some (.tup ((hs Hs i).map D.str), s) := by
  obtain ⟨bs, rfl, hl, h⟩ := w.bs
  obtain ⟨x, y, z, e⟩ := h i (by omega) hi
  refine ⟨bs[i], fun s => ?_, fun s => ?_⟩
  · rw [dIx_tup, atI_ofNat _ _ bs[i] (by simp)]
    rfl
  · rw [e]
    have : hs Hs i = Hs[i] := by simp [hs, hi]
    rw [this]
    simp [dIx_tup]
theorem Hou.len {hd : D} {Hs : List (List Str)} (w : Hou hd Hs) (s : Store) : dLen [hd] s = some (.int Hs.length, s) := by
  obtain ⟨bs, rfl, hl, h⟩ := w.bs
  simp [hl]
theorem Hou.getD {hd : D} {Hs : List (List Str)} (w : Hou hd Hs) (i : Nat) : (hs Hs i).length ≤ 1000 := by
  by_cases h : i < Hs.length
  · have : hs Hs i = Hs[i] := by simp [hs, h]
    rw [this]
    exact w.short _ (List.getElem_mem h)
  · simp [hs, List.getD_eq_getElem?_getD, List.getElem?_eq_none (Nat.le_of_not_lt h)]
def outL (Hs : List (List Str)) (F : List Int) : Nat → List Str
  | 0 => []
  | k + 1 => if (k : Int) ∈ F then outL Hs F k else outL Hs F k ++ hs Hs k
theorem outL_len {hd : D} {Hs : List (List Str)} (w : Hou hd Hs) (F : List Int) : ∀ k, (outL Hs F k).length ≤ 1000 * k
  | 0 => by simp [outL]
  | k + 1 => by
    have ih := outL_len w F k
    have := w.getD k
    unfold outL
    split
    · omega
    · simp only [List.length_append]; omega
theorem mem_outL {Hs : List (List Str)} {F : List Int} {d : Str} : ∀ {n : Nat}, d ∈ outL Hs F n ↔ ∃ k, k < n ∧ (k : Int) ∉ F ∧ d ∈ hs Hs k
  | 0 => by simp [outL]
  | n + 1 => by
    unfold outL
    split
    · rename_i c
      rw [mem_outL]
      exact ⟨fun ⟨k, h, q⟩ => ⟨k, by omega, q⟩, fun ⟨k, h, q1, q2⟩ => ⟨k, by
        rcases Nat.lt_or_ge k n with u | u
        · exact u
        · have : k = n := by omega
          subst this; exact (q1 c).elim, q1, q2⟩⟩
    · rename_i c
      rw [List.mem_append, mem_outL]
      constructor
      · rintro (⟨k, h, q⟩ | h)
        · exact ⟨k, by omega, q⟩
        · exact ⟨n, by omega, c, h⟩
      · rintro ⟨k, h, q1, q2⟩
        rcases Nat.lt_or_ge k n with u | u
        · exact .inl ⟨k, u, q1, q2⟩
        · have : k = n := by omega
          subst this; exact .inr q2
/-- the deed d is not torn by the cut above h -/
def tiedD (Hs : List (List Str)) (ps : List Int) (h : Nat) (F : List Int) (d : Str) : Bool :=
  !decide (d ∈ outL Hs F Hs.length) || (decide (d ∈ hs Hs h) && decide (d ∈ hs Hs (pr ps (h - 1)).toNat))
def tiedB (Hs : List (List Str)) (ps : List Int) (h : Nat) : Bool :=
  let F := undL ps h (ps.length - h)
  F.all fun a => (hs Hs a.toNat).all fun d => tiedD Hs ps h F d
theorem undL_rng {ps : List Int} {h : Nat} : ∀ {k : Nat} {a : Int}, a ∈ undL ps h k → (h : Int) ≤ a ∧ a < h + 1 + k
  | 0, a, m => by simp [undL] at m; omega
  | k + 1, a, m => by
    unfold undL at m
    split at m
    · rcases List.mem_append.mp m with q | q
      · have := undL_rng q; omega
      · simp at q; omega
    · have := undL_rng m; omega
def RightPs (ps : List Int) : Prop := ∀ k (hk : k < ps.length), 0 ≤ ps[k] ∧ ps[k] < k + 1
theorem RightPs.get {ps : List Int} (r : RightPs ps) {k : Nat} (hk : k < ps.length) : 0 ≤ pr ps k ∧ pr ps k < k + 1 := by
  have : pr ps k = ps[k] := by simp [pr, hk]
  rw [this]
  exact r k hk
end Law
namespace Law
open PySem Mi
theorem out_loop {hd : D} {Hs : List (List Str)} (w : Hou hd Hs) {bs : List D} (hb : hd = .tup bs) (F : List Int) (p e : D) (s : Store) (o5 o6 o7 : Option D) :
    ∃ env', forL always (gT 2 (gsC (gN 5) (gsC (gN 6) (gsN)))) bl_is_tied_3 (enm bs) [some hd, some p, some e, some (.loc s.length), some (.loc (s.length + 1)), o5, o6, o7] (s ++ [.lst (F.map D.int)] ++ [.lst ((outL Hs F 0).map D.str)]) = .nx env' (s ++ [.lst (F.map D.int)] ++ [.lst ((outL Hs F Hs.length).map D.str)]) ∧
      ∃ o5 o6 o7, env' = [some hd, some p, some e, some (.loc s.length), some (.loc (s.length + 1)), o5, o6, o7] := by
  obtain ⟨bs', rfl, hl, hbk⟩ := w.bs
  cases hb
  have hs1 : (s ++ [Cell.lst (F.map D.int)]).length = s.length + 1 := by simp
  obtain ⟨env', s', e, ⟨o5, o6, o7, he⟩, hs'⟩ := forL_atT (gd := always) (g := gT 2 (gsC (gN 5) (gsC (gN 6) (gsN)))) (b := bl_is_tied_3) (enm bs) (fun k env s' => (∃ o5 o6 o7, env = [some (.tup bs), some p, some e, some (.loc s.length), some (.loc (s.length + 1)), o5, o6, o7]) ∧ s' = s ++ [.lst (F.map D.int)] ++ [.lst ((outL Hs F k).map D.str)]) (fun _ _ _ _ => trivial)
    (fun k d env s' hk ⟨⟨o5, o6, o7, he⟩, hs'⟩ => by
      subst he hs'
      obtain ⟨x, hx, rfl⟩ := enm_get hk
      obtain ⟨hk', hxe⟩ := List.getElem?_eq_some_iff.mp hx
      have hk2 : k < Hs.length := by omega
      obtain ⟨b, _, hb2⟩ := w.ix hk2
      have hbx : ∀ s, dIx x (.int 2) s = some (.tup ((hs Hs k).map D.str), s) := fun s => by
        obtain ⟨x1, y1, z1, e1⟩ := hbk k hk' hk2
        rw [← hxe, e1]
        have : hs Hs k = Hs[k] := by simp [hs, hk2]
        rw [this]
        simp [dIx_tup]
      have hl2 := outL_len w F k
      have hl3 := w.getD k
      have hfew := w.few
      obtain ⟨s1, hs1'⟩ : ∃ s1, s1 = s ++ [Cell.lst (F.map D.int)] := ⟨_, rfl⟩
      have wF : (s1 ++ [Cell.lst ((outL Hs F k).map D.str)])[s.length]? = some (.lst (F.map D.int)) := by rw [hs1']; simp
      have w2 := dNotIn_of (dInB_locI wF (k : Nat))
      have lO := get_new s1 (.lst ((outL Hs F k).map D.str))
      have l1 : s1.length = s.length + 1 := by rw [hs1']; simp
      rw [l1] at lO
      have w3 := dExtend_tup lO ((hs Hs k).map D.str) (by simp; omega)
      have w4 := tyOk_list lO
      have e0 : (s1 ++ [Cell.lst ((outL Hs F k).map D.str)]).set (s.length + 1) (.lst ((outL Hs F k).map D.str ++ (hs Hs k).map D.str)) = s1 ++ [.lst ((outL Hs F k).map D.str ++ (hs Hs k).map D.str)] := by rw [← l1]; simp
      rw [e0] at w3
      have e : (outL Hs F (k + 1)).map D.str = if (k : Int) ∈ F then (outL Hs F k).map D.str else (outL Hs F k).map D.str ++ (hs Hs k).map D.str := by
        show (if _ then _ else _ : List Str).map D.str = _
        split
        · rfl
        · simp
      rw [e]
      rw [← hs1']
      generalize (outL Hs F k).map D.str = L at *
      generalize (hs Hs k).map D.str = L2 at *
      clear hs1'
      by_cases c : (k : Int) ∈ F
      · simp only [c, decide_true, if_true] at w2 ⊢
        generalize s1 ++ [Cell.lst L] = s2 at *
        simp [bl_is_tied_3, w2, w3, w4]
      · simp only [c, decide_false, if_false] at w2 ⊢
        generalize s1 ++ [Cell.lst L] = s2 at *
        generalize s1 ++ [Cell.lst (L ++ L2)] = s3 at *
        simp [bl_is_tied_3, w2, w3, w4, hbx]) (env := [some (.tup bs), some p, some e, some (.loc s.length), some (.loc (s.length + 1)), o5, o6, o7]) (s := s ++ [.lst (F.map D.int)] ++ [.lst ((outL Hs F 0).map D.str)]) ⟨⟨o5, o6, o7, rfl⟩, rfl⟩
  rw [enm_len, hl] at hs'
  subst hs'
  exact ⟨env', e, o5, o6, o7, he⟩
/-- houses[parents[h]][2] -/
theorem Hou.par {hd : D} {Hs : List (List Str)} (w : Hou hd Hs) {ps : List Int} (r : RightPs ps) (hl : ps.length + 1 = Hs.length) {h : Nat} (h1 : 1 ≤ h) (h2 : h ≤ ps.length) :
    ∃ b, (∀ s, dIx hd (.int (pr ps (h - 1))) s = some (b, s)) ∧ ∀ s, dIx b (.int 2) s = some (.tup ((hs Hs (pr ps (h - 1)).toNat).map D.str), s) := by
  obtain ⟨a, b⟩ := r.get (k := h - 1) (by omega)
  have := w.ix (i := (pr ps (h - 1)).toNat) (by omega)
  rw [Int.toNat_of_nonneg a] at this
  exact this
theorem tied_loop {hd : D} {Hs : List (List Str)} (w : Hou hd Hs) {ps : List Int} (r : RightPs ps) (hl : ps.length + 1 = Hs.length) {h : Nat} (h1 : 1 ≤ h) (h2 : h ≤ ps.length) {F : List Int} (hF : ∀ a ∈ F, 0 ≤ a ∧ a < Hs.length) (l1 l2 : Nat) {s : Store} (hs1 : s[l1]? = some (.lst (F.map D.int))) (hs2 : s[l2]? = some (.lst ((outL Hs F Hs.length).map D.str))) (o5 o6 o7 : Option D) :
    if (F.all fun a => (hs Hs a.toNat).all fun d => tiedD Hs ps h F d) = true then ∃ env', forL (fun s2 => s2[l1]? = some (.lst (F.map D.int))) (gN 5) bl_is_tied_2 (F.map D.int) [some hd, some (parD ps), some (.int h), some (.loc l1), some (.loc l2), o5, o6, o7] s = .nx env' s
    else forL (fun s2 => s2[l1]? = some (.lst (F.map D.int))) (gN 5) bl_is_tied_2 (F.map D.int) [some hd, some (parD ps), some (.int h), some (.loc l1), some (.loc l2), o5, o6, o7] s = .rt (.bl false) s := by
  have q := forL_all (gd := fun s2 => s2[l1]? = some (.lst (F.map D.int))) (g := gN 5) (b := bl_is_tied_2) D.int F (fun env => ∃ o5 o6 o7, env = [some hd, some (parD ps), some (.int h), some (.loc l1), some (.loc l2), o5, o6, o7]) s (fun a => (hs Hs a.toNat).all fun d => tiedD Hs ps h F d) (.bl false) hs1
    (fun a ha env ⟨o5, o6, o7, he⟩ => by
      subst he
      obtain ⟨ha1, ha2⟩ := hF a ha
      obtain ⟨ba, wa1, wa2⟩ := w.ix (i := a.toNat) (by omega)
      rw [Int.toNat_of_nonneg ha1] at wa1
      have q := forL_all (gd := always) (g := gN 7) (b := bl_is_tied_1) D.str (hs Hs a.toNat) (fun env => ∃ o6 o7, env = [some hd, some (parD ps), some (.int h), some (.loc l1), some (.loc l2), some (.int a), o6, o7]) s (fun d => tiedD Hs ps h F d) (.bl false) trivial
        (fun d hd' env ⟨o6, o7, he⟩ => by
          subst he
          obtain ⟨bh, wh1, wh2⟩ := w.ix (i := h) (by omega)
          obtain ⟨bp, wp1, wp2⟩ := w.par r hl h1 h2
          have wpx := par_ix (ps := ps) (k := h - 1) (by omega) s (i := h) (by omega)
          have i1 := dIn_of (dInB_locS hs2 d)
          have i2 := dIn_of (dInB_tupS d (hs Hs h) s)
          have i3 := dIn_of (dInB_tupS d (hs Hs (pr ps (h - 1)).toNat) s)
          unfold tiedD
          generalize decide (d ∈ outL Hs F Hs.length) = c1 at *
          generalize decide (d ∈ hs Hs h) = c2 at *
          generalize decide (d ∈ hs Hs (pr ps (h - 1)).toNat) = c3 at *
          cases c1 <;> cases c2 <;> cases c3 <;> simp [bl_is_tied_1, i1, i2, i3, wh1, wh2, wp1, wp2, wpx]) (env := [some hd, some (parD ps), some (.int h), some (.loc l1), some (.loc l2), some (.int a), o6, o7]) ⟨o6, o7, rfl⟩
      generalize ((hs Hs a.toNat).all fun d => tiedD Hs ps h F d) = c at *
      cases c with
      | false => simp at q; simp [bl_is_tied_2, wa1, wa2, q]
      | true =>
        simp at q
        obtain ⟨env', q1, o6', o7', rfl⟩ := q
        simp [bl_is_tied_2, wa1, wa2, q1]) (env := [some hd, some (parD ps), some (.int h), some (.loc l1), some (.loc l2), o5, o6, o7]) ⟨o5, o6, o7, rfl⟩
  split
  · rename_i c
    rw [if_pos c] at q
    obtain ⟨env', e, _⟩ := q
    exact ⟨env', e⟩
  · rename_i c
    rw [if_neg c] at q
    exact q
theorem tied_spec {hd : D} {Hs : List (List Str)} (w : Hou hd Hs) {ps : List Int} (r : RightPs ps) (hl : ps.length + 1 = Hs.length) {h : Nat} (h1 : 1 ≤ h) (h2 : h ≤ ps.length) (s : Store) :
    ∃ t, m_is_tied [hd, parD ps, .int h] s = .ok (.bl (tiedB Hs ps h)) (s ++ t) := by
  have hfew := w.few
  have hu := under_spec (ps := ps) (h := h) h2 (by omega) s
  obtain ⟨F, hF⟩ : ∃ F, F = undL ps h (ps.length - h) := ⟨_, rfl⟩
  rw [← hF] at hu
  obtain ⟨bs, hb, _, _⟩ := w.bs
  obtain ⟨env1, e1, o5, o6, o7, rfl⟩ := out_loop w hb F (parD ps) (.int h) s none none none
  have q := tied_loop w r hl h1 h2 (F := F) (fun a ha => by rw [hF] at ha; have := undL_rng ha; omega) s.length (s.length + 1) (s := s ++ [.lst (F.map D.int)] ++ [.lst ((outL Hs F Hs.length).map D.str)]) (by simp) (by simp) o5 o6 o7
  have eq : tiedB Hs ps h = F.all fun a => (hs Hs a.toNat).all fun d => tiedD Hs ps h F d := by rw [hF]; rfl
  rw [eq]
  have l1 : (s ++ [Cell.lst (F.map D.int)]).length = s.length + 1 := by simp
  have gF : (s ++ [.lst (F.map D.int)] ++ [.lst ((outL Hs F Hs.length).map D.str)])[s.length]? = some (.lst (F.map D.int)) := by simp
  have eO : (outL Hs F 0).map D.str = [] := rfl
  rw [eO] at e1
  refine ⟨[.lst (F.map D.int), .lst ((outL Hs F Hs.length).map D.str)], ?_⟩
  rw [show s ++ [Cell.lst (F.map D.int), .lst ((outL Hs F Hs.length).map D.str)] = s ++ [.lst (F.map D.int)] ++ [.lst ((outL Hs F Hs.length).map D.str)] by simp]
  generalize (outL Hs F Hs.length).map D.str = L at *
  generalize F.map D.int = Fd at *
  generalize s ++ [Cell.lst Fd] ++ [Cell.lst L] = s2 at *
  generalize s ++ [Cell.lst Fd] = s1 at *
  subst hb
  generalize (F.all fun a => (hs Hs a.toNat).all fun d => tiedD Hs ps h F d) = c at *
  cases c with
  | false => simp at q; simp [m_is_tied, b_is_tied, hu, l1, e1, gF, q]
  | true => simp at q; obtain ⟨env', q⟩ := q; simp [m_is_tied, b_is_tied, hu, l1, e1, gF, q]
end Law
namespace Law
open PySem Mi
/-- the first house that is not tied -/
def FirstBad (Hs : List (List Str)) (ps : List Int) (k : Nat) : Prop := k < ps.length ∧ tiedB Hs ps (k + 1) = false ∧ ∀ j, j < k → tiedB Hs ps (j + 1) = true
def AllTied (Hs : List (List Str)) (ps : List Int) : Prop := ∀ j, j < ps.length → tiedB Hs ps (j + 1) = true
theorem first_one {Hs : List (List Str)} {ps : List Int} {k k' : Nat} (a : FirstBad Hs ps k) (b : FirstBad Hs ps k') : k = k' := by
  rcases Nat.lt_trichotomy k k' with h | h | h
  · have := b.2.2 k h; rw [a.2.1] at this; cases this
  · exact h
  · have := a.2.2 k' h; rw [b.2.1] at this; cases this
theorem first_all {Hs : List (List Str)} {ps : List Int} {k : Nat} (a : FirstBad Hs ps k) (b : AllTied Hs ps) : False := by
  have := b k a.1
  rw [a.2.1] at this; cases this
def exAt (v : Int) : Ex := ⟨"BadParents", [("at", .int v)]⟩
theorem check_bad {hd : D} {Hs : List (List Str)} (w : Hou hd Hs) {d : D} {s : Store} (wd : Wfs s d) (h : isPar Hs.length d = false) : m_check_parents [hd, d] s = .ex (exAt (-1)) s := by
  have hfew := w.few
  have hp := parents_spec w.pos (by omega) wd
  rw [h] at hp
  have wl := w.len s
  simp [m_check_parents, b_check_parents, wl, hp, exAt]
theorem check_loop {hd : D} {Hs : List (List Str)} (w : Hou hd Hs) {ps : List Int} (r : RightPs ps) (hl : ps.length + 1 = Hs.length) (s : Store) (o : Option D) :
    (AllTied Hs ps ∧ ∃ env' s', forL always (gN 2) bl_check_parents_1 (rng2 1 ps.length) [some hd, some (parD ps), o] s = .nx env' s' ∧ (∃ o, env' = [some hd, some (parD ps), o]) ∧ Ext s s') ∨
      ∃ k, FirstBad Hs ps k ∧ ∃ env' s', forL always (gN 2) bl_check_parents_1 (rng2 1 ps.length) [some hd, some (parD ps), o] s = .ex (exAt ((k : Int) + 1)) env' s' ∧ Ext s s' := by
  refine forL_at (gd := always) (g := gN 2) (b := bl_check_parents_1) (rng2 1 ps.length) (fun k env s' => (∃ o, env = [some hd, some (parD ps), o]) ∧ Ext s s' ∧ ∀ j, j < k → tiedB Hs ps (j + 1) = true)
    (fun res => (AllTied Hs ps ∧ ∃ env' s', res = .nx env' s' ∧ (∃ o, env' = [some hd, some (parD ps), o]) ∧ Ext s s') ∨ ∃ k, FirstBad Hs ps k ∧ ∃ env' s', res = .ex (exAt ((k : Int) + 1)) env' s' ∧ Ext s s') (fun _ _ _ _ => trivial) (fun k d env s' hk ⟨⟨o, he⟩, x, ht⟩ => ?_) (fun env s' ⟨⟨o, he⟩, x, ht⟩ => ?_) ⟨⟨o, rfl⟩, Ext.refl _, fun j hj => absurd hj (Nat.not_lt_zero j)⟩
  · subst he
    obtain ⟨hlt, rfl⟩ := rng2_get hk
    obtain ⟨t, e⟩ := tied_spec w r hl (h := k + 1) (by omega) (by omega) s'
    have x2 := x.trans (Ext.mk s' t)
    rw [show ((k + 1 : Nat) : Int) = 1 + (k : Nat) by omega] at e
    generalize s' ++ t = s2 at *
    cases c : tiedB Hs ps (k + 1) with
    | true =>
      rw [c] at e
      simp [bl_check_parents_1, e]
      exact ⟨x2, fun j hj => by
        rcases Nat.lt_or_ge j k with u | u
        · exact ht j u
        · have : j = k := by omega
          subst this; exact c⟩
    | false =>
      rw [c] at e
      simp [bl_check_parents_1, e]
      exact ⟨k, ⟨hlt, c, ht⟩, _, s2, ⟨by rw [exAt, Int.add_comm 1 (k : Int)], rfl, rfl⟩, x2⟩
  · rw [rng2_len] at ht
    exact .inl ⟨ht, env, s', rfl, ⟨o, he⟩, x⟩
theorem isPar_parD {Hs : List (List Str)} {ps : List Int} (r : RightPs ps) (hl : ps.length + 1 = Hs.length) : isPar Hs.length (parD ps) = true := by
  simp only [isPar, parD, Bool.and_eq_true, decide_eq_true_iff, List.all_eq_true, List.mem_range, List.length_map]
  refine ⟨hl, fun k hk => ?_⟩
  have hk' : k < ps.length := by omega
  obtain ⟨a, b⟩ := r k hk'
  rw [List.getD_eq_getElem?_getD, List.getElem?_eq_getElem (by simp; omega), Option.getD_some, List.getElem_map]
  simp only [okAt, Bool.and_eq_true, decide_eq_true_iff]
  exact ⟨a, by omega⟩
theorem wfs_par (ps : List Int) (s : Store) : Wfs s (parD ps) := ⟨rfl, fun xs e x hx => by
  cases e
  rcases List.mem_cons.mp hx with rfl | hx
  · rfl
  · obtain ⟨v, _, rfl⟩ := List.mem_map.mp hx
    rfl⟩
theorem check_spec {hd : D} {Hs : List (List Str)} (w : Hou hd Hs) {ps : List Int} (r : RightPs ps) (hl : ps.length + 1 = Hs.length) (s : Store) :
    (AllTied Hs ps ∧ ∃ s', m_check_parents [hd, parD ps] s = .ok (.int Hs.length) s' ∧ Ext s s') ∨ ∃ k, FirstBad Hs ps k ∧ ∃ s', m_check_parents [hd, parD ps] s = .ex (exAt ((k : Int) + 1)) s' ∧ Ext s s' := by
  have hfew := w.few
  have hp := parents_spec w.pos (by omega) (wfs_par ps s)
  rw [isPar_parD r hl] at hp
  have wl := w.len
  have wr := range2_int 1 Hs.length s (by omega) (by omega) (by omega) (by omega)
  rw [show ((Hs.length : Int) - 1).toNat = ps.length by omega] at wr
  rcases check_loop w r hl s none with ⟨ha, env', s', e, ⟨o, rfl⟩, x⟩ | ⟨k, hk, env', s', e, x⟩
  · refine .inl ⟨ha, s', ?_, x⟩
    simp [m_check_parents, b_check_parents, wl, hp, wr, e, -rangeOf2_int]
  · refine .inr ⟨k, hk, s', ?_, x⟩
    simp [m_check_parents, b_check_parents, wl, hp, wr, e, -rangeOf2_int]
def outD (good : Bool) (v : Int) : D := .tup [.str (if good then "good" else "bad"), .int v]
theorem ask_bad {hd : D} {d : D} {s s' : Store} {v : Int} (h : m_check_parents [hd, d] s = .ex (exAt v) s') : m_d_law_ask [hd, d] s = .ok (outD false v) s' := by
  have e2 : sTryAs 2 ["BadParents"] (sRet (eTup (aCons (eC (.str "good")) (aCons (eCall m_check_parents (aCons (eV 0) (aCons (eV 1) (aNil)))) (aNil))))) (fun g => sRet (eTup (aCons (eC (.str "bad")) (aCons (eFld g 2 "at") (aNil))))) [some hd, some d, none] s = .rt (outD false v) s' := by
    refine tryAs_ex (e := exAt v) (env2 := [some hd, some d, none]) (s2 := s') (by simp [h]) (by simp [exAt]) (by simp [exAt]) fun g => ?_
    have f : eFld g 2 "at" [some hd, some d, some (.exv g.1 g.2 (exAt v).cls (exAt v).fs)] s' = .ok (.int v) s' := by simp [eFld, List.lookup, exAt]
    simp [f, clr, outD]
  simp [m_d_law_ask, b_d_law_ask, e2]
theorem ask_good {hd : D} {d : D} {s s' : Store} {v : Int} (h : m_check_parents [hd, d] s = .ok (.int v) s') : m_d_law_ask [hd, d] s = .ok (outD true v) s' := by
  simp [m_d_law_ask, b_d_law_ask, sTryAs, h, outD, clr]
end Law
namespace Law
open PySem Mi
/-! ### the law's own judging -/
theorem j6_loop {hd : D} {n : Nat} {x : D} {xs : List D} {s : Store} (hx : xs.length + 1 = n) (w : ∀ y ∈ xs, Wf s y) (o2 o3 o4 o5 o6 o7 : Option D) :
    if ((List.range (n - 1)).all fun k => okAt (k + 1) (xs.getD k .non)) = true then ∃ env', forL always (gN 2) bl_d_law_judge_6 (rng2 1 (n - 1)) [some hd, some (.tup (x :: xs)), o2, o3, o4, o5, o6, o7] s = .nx env' s ∧ ∃ o2 o3, env' = [some hd, some (.tup (x :: xs)), o2, o3, o4, o5, o6, o7]
    else forL always (gN 2) bl_d_law_judge_6 (rng2 1 (n - 1)) [some hd, some (.tup (x :: xs)), o2, o3, o4, o5, o6, o7] s = .rt (outD false (-1)) s := by
  rw [rng2_map]
  exact forL_all (gd := always) (g := gN 2) (b := bl_d_law_judge_6) (fun k : Nat => D.int (1 + (k : Nat))) (List.range (n - 1)) (fun env => ∃ o2 o3, env = [some hd, some (.tup (x :: xs)), o2, o3, o4, o5, o6, o7]) s (fun k => okAt (k + 1) (xs.getD k .non)) (outD false (-1)) trivial
    (fun k hk env ⟨o2, o3, he⟩ => by
      subst he
      have hk' : k < xs.length := by have := List.mem_range.mp hk; omega
      have z : xs.getD k .non = xs[k] := by simp [hk']
      have w1 : dIx (.tup (x :: xs)) (.int (1 + (k : Nat))) s = some (xs[k], s) := by
        rw [dIx_tup, show (1 + (k : Nat) : Int) = ((k + 1 : Nat) : Int) by omega, atI_ofNat _ _ (xs[k]) (by simp [hk'])]
        rfl
      have w2 := isI_spec (w _ (List.getElem_mem hk'))
      have w3 := isB_spec (w _ (List.getElem_mem hk'))
      simp only [z]
      generalize xs[k] = y at *
      cases y with
      | int v =>
        by_cases c1 : v < 0
        · simp [bl_d_law_judge_6, w1, c1, okAt, outD]
          intro _; omega
        · by_cases c2 : 1 + (k : Int) ≤ v
          · simp [bl_d_law_judge_6, w1, c1, c2, okAt, outD]
            intro _; omega
          · simp [bl_d_law_judge_6, w1, c1, c2, okAt, outD]
            omega
      | _ => simp [bl_d_law_judge_6, w1, w2, w3, isI, isB, okAt, outD, -dIsi_eq]) ⟨o2, o3, rfl⟩
theorem j4_loop {hd : D} {ps : List Int} {h : Nat} (hh : h ≤ ps.length) (hn : ps.length ≤ 1000) (s : Store) (o3 o5 o6 o7 : Option D) :
    ∃ env', forL always (gN 5) bl_d_law_judge_4 (rng2 (h + 1) (ps.length - h)) [some hd, some (parD ps), some (.int h), o3, some (.loc s.length), o5, o6, o7] (s ++ [.lst ((undL ps h 0).map D.int)]) = .nx env' (s ++ [.lst ((undL ps h (ps.length - h)).map D.int)]) ∧ ∃ o5, env' = [some hd, some (parD ps), some (.int h), o3, some (.loc s.length), o5, o6, o7] := by
  obtain ⟨env', s', e, ⟨o', he⟩, hs⟩ := forL_atT (gd := always) (g := gN 5) (b := bl_d_law_judge_4) (rng2 (h + 1) (ps.length - h)) (fun k env s' => (∃ o5, env = [some hd, some (parD ps), some (.int h), o3, some (.loc s.length), o5, o6, o7]) ∧ s' = s ++ [.lst ((undL ps h k).map D.int)]) (fun _ _ _ _ => trivial)
    (fun k d env s' hk ⟨⟨o, he⟩, hs⟩ => by
      subst he hs
      obtain ⟨hk, rfl⟩ := rng2_get hk
      have w1 : ∀ s, dIx (parD ps) (.int ((h : Int) + 1 + (k : Nat))) s = some (.int (pr ps (h + k)), s) := fun s => par_ix (by omega) s (by omega)
      have w2 := dIn_of (dInB_locI (get_new s (.lst ((undL ps h k).map D.int))) (pr ps (h + k)))
      have hl := undL_len ps h k
      have w3 := app_new s ((undL ps h k).map D.int) (.int ((h : Int) + 1 + (k : Nat))) (by simp; omega)
      have w4 := ty_new s ((undL ps h k).map D.int)
      have e : (undL ps h (k + 1)).map D.int = if pr ps (h + k) ∈ undL ps h k then (undL ps h k).map D.int ++ [.int ((h : Int) + 1 + (k : Nat))] else (undL ps h k).map D.int := by
        show (if _ then _ else _ : List Int).map D.int = _
        split
        · simp
        · rfl
      rw [e]
      generalize (undL ps h k).map D.int = L at *
      by_cases c : pr ps (h + k) ∈ undL ps h k
      · simp only [c, decide_true, if_true] at w2 ⊢
        generalize s ++ [Cell.lst L] = s1 at *
        simp [bl_d_law_judge_4, w1, w2, w3, w4]
      · simp only [c, decide_false, if_false] at w2 ⊢
        generalize s ++ [Cell.lst L] = s1 at *
        simp [bl_d_law_judge_4, w1, w2]) (env := [some hd, some (parD ps), some (.int h), o3, some (.loc s.length), o5, o6, o7]) (s := s ++ [.lst ((undL ps h 0).map D.int)]) ⟨⟨o5, rfl⟩, rfl⟩
  rw [rng2_len] at hs
  subst hs
  exact ⟨env', e, o', he⟩
theorem torn_eq {Hs : List (List Str)} {ps : List Int} {h : Nat} {F : List Int} (d : Str) :
    ((List.range Hs.length).all fun k => !(!decide ((k : Int) ∈ F) && decide (d ∈ hs Hs k)) || (decide (d ∈ hs Hs h) && decide (d ∈ hs Hs (pr ps (h - 1)).toNat))) = tiedD Hs ps h F d := by
  rw [Bool.eq_iff_iff, List.all_eq_true]
  unfold tiedD
  by_cases c : d ∈ hs Hs h ∧ d ∈ hs Hs (pr ps (h - 1)).toNat
  · simp [c.1, c.2]
  · have c' : (decide (d ∈ hs Hs h) && decide (d ∈ hs Hs (pr ps (h - 1)).toNat)) = false := by
      rw [Bool.and_eq_false_iff]
      by_cases q : d ∈ hs Hs h
      · exact .inr (decide_eq_false fun z => c ⟨q, z⟩)
      · exact .inl (decide_eq_false q)
    rw [c']
    simp only [Bool.or_false, Bool.not_eq_true', List.mem_range, decide_eq_false_iff_not, mem_outL]
    constructor
    · rintro a ⟨k, hk, h1, h2⟩
      have := a k hk
      simp [h1, h2] at this
    · intro a k hk
      by_cases h1 : (k : Int) ∈ F
      · simp [h1]
      · by_cases h2 : d ∈ hs Hs k
        · exact (a ⟨k, hk, h1, h2⟩).elim
        · simp [h2]
theorem j3_loop {hd : D} {Hs : List (List Str)} (w : Hou hd Hs) {ps : List Int} (r : RightPs ps) (hl : ps.length + 1 = Hs.length) {h : Nat} (h1 : 1 ≤ h) (h2 : h ≤ ps.length) {F : List Int} (hF : ∀ a ∈ F, 0 ≤ a ∧ a < Hs.length) (l1 : Nat) {s : Store} (hs1 : s[l1]? = some (.lst (F.map D.int))) (o3 o5 o6 o7 : Option D) :
    if (F.all fun a => (hs Hs a.toNat).all fun d => tiedD Hs ps h F d) = true then ∃ env', forL (fun s2 => s2[l1]? = some (.lst (F.map D.int))) (gN 5) bl_d_law_judge_3 (F.map D.int) [some hd, some (parD ps), some (.int h), o3, some (.loc l1), o5, o6, o7] s = .nx env' s ∧ ∃ o5 o6 o7, env' = [some hd, some (parD ps), some (.int h), o3, some (.loc l1), o5, o6, o7]
    else forL (fun s2 => s2[l1]? = some (.lst (F.map D.int))) (gN 5) bl_d_law_judge_3 (F.map D.int) [some hd, some (parD ps), some (.int h), o3, some (.loc l1), o5, o6, o7] s = .rt (outD false h) s := by
  have hfew := w.few
  exact forL_all (gd := fun s2 => s2[l1]? = some (.lst (F.map D.int))) (g := gN 5) (b := bl_d_law_judge_3) D.int F (fun env => ∃ o5 o6 o7, env = [some hd, some (parD ps), some (.int h), o3, some (.loc l1), o5, o6, o7]) s (fun a => (hs Hs a.toNat).all fun d => tiedD Hs ps h F d) (outD false h) hs1
    (fun a ha env ⟨o5, o6, o7, he⟩ => by
      subst he
      obtain ⟨ha1, ha2⟩ := hF a ha
      obtain ⟨ba, wa1, wa2⟩ := w.ix (i := a.toNat) (by omega)
      rw [Int.toNat_of_nonneg ha1] at wa1
      have q := forL_all (gd := always) (g := gN 6) (b := bl_d_law_judge_2) D.str (hs Hs a.toNat) (fun env => ∃ o6 o7, env = [some hd, some (parD ps), some (.int h), o3, some (.loc l1), some (.int a), o6, o7]) s (fun d => tiedD Hs ps h F d) (outD false h) trivial
        (fun d hd' env ⟨o6, o7, he⟩ => by
          subst he
          have q := forL_all (gd := always) (g := gN 7) (b := bl_d_law_judge_1) (fun k : Nat => D.int ((0 : Int) + (k : Nat))) (List.range Hs.length) (fun env => ∃ o7, env = [some hd, some (parD ps), some (.int h), o3, some (.loc l1), some (.int a), some (.str d), o7]) s (fun k => !(!decide ((k : Int) ∈ F) && decide (d ∈ hs Hs k)) || (decide (d ∈ hs Hs h) && decide (d ∈ hs Hs (pr ps (h - 1)).toNat))) (outD false h) trivial
            (fun k hk env ⟨o7, he⟩ => by
              subst he
              obtain ⟨bh, wh1, wh2⟩ := w.ix (i := h) (by omega)
              obtain ⟨bk, wk1, wk2⟩ := w.ix (i := k) (List.mem_range.mp hk)
              obtain ⟨bp, wp1, wp2⟩ := w.par r hl h1 h2
              have wpx := par_ix (ps := ps) (k := h - 1) (by omega) s (i := h) (by omega)
              have i1 := dNotIn_of (dInB_locI hs1 (k : Nat))
              have i2 := dIn_of (dInB_tupS d (hs Hs k) s)
              have i3 := dNotIn_of (dInB_tupS d (hs Hs h) s)
              have i4 := dNotIn_of (dInB_tupS d (hs Hs (pr ps (h - 1)).toNat) s)
              rw [Int.zero_add]
              generalize decide ((k : Int) ∈ F) = c1 at *
              generalize decide (d ∈ hs Hs k) = c2 at *
              generalize decide (d ∈ hs Hs h) = c3 at *
              generalize decide (d ∈ hs Hs (pr ps (h - 1)).toNat) = c4 at *
              cases c1 <;> cases c2 <;> cases c3 <;> cases c4 <;> simp [bl_d_law_judge_1, i1, i2, i3, i4, wh1, wh2, wp1, wp2, wk1, wk2, wpx, outD]) (env := [some hd, some (parD ps), some (.int h), o3, some (.loc l1), some (.int a), some (.str d), o7]) ⟨o7, rfl⟩
          rw [torn_eq] at q
          have wl := w.len s
          have wr := rangeOf_int s (Hs.length : Int) (by omega) (by omega)
          rw [Int.toNat_natCast] at wr
          change if _ then (∃ env', forL always (gN 7) bl_d_law_judge_1 (rng Hs.length) _ s = _ ∧ _) else forL always (gN 7) bl_d_law_judge_1 (rng Hs.length) _ s = _ at q
          generalize tiedD Hs ps h F d = c at *
          cases c with
          | false => simp at q; simp [bl_d_law_judge_2, wl, wr, q, -rangeOf_int]
          | true =>
            simp at q
            obtain ⟨env', q1, o7', rfl⟩ := q
            simp [bl_d_law_judge_2, wl, wr, q1, -rangeOf_int]) (env := [some hd, some (parD ps), some (.int h), o3, some (.loc l1), some (.int a), o6, o7]) ⟨o6, o7, rfl⟩
      generalize ((hs Hs a.toNat).all fun d => tiedD Hs ps h F d) = c at *
      cases c with
      | false => simp at q; simp [bl_d_law_judge_3, wa1, wa2, q]
      | true =>
        simp at q
        obtain ⟨env', q1, o6', o7', rfl⟩ := q
        simp [bl_d_law_judge_3, wa1, wa2, q1]) ⟨o5, o6, o7, rfl⟩
theorem j5_turn {hd : D} {Hs : List (List Str)} (w : Hou hd Hs) {ps : List Int} (r : RightPs ps) (hl : ps.length + 1 = Hs.length) {h : Nat} (h1 : 1 ≤ h) (h2 : h ≤ ps.length) (s : Store) (o3 o4 o5 o6 o7 : Option D) :
    ∃ s', Ext s s' ∧ if tiedB Hs ps h = true then ∃ env', bl_d_law_judge_5 [some hd, some (parD ps), some (.int h), o3, o4, o5, o6, o7] s = .nx env' s' ∧ ∃ o3 o4 o5 o6 o7, env' = [some hd, some (parD ps), some (.int h), o3, o4, o5, o6, o7]
      else bl_d_law_judge_5 [some hd, some (parD ps), some (.int h), o3, o4, o5, o6, o7] s = .rt (outD false h) s' := by
  have hfew := w.few
  obtain ⟨env1, e1, o5', rfl⟩ := j4_loop (hd := hd) h2 (by omega) s o3 o5 o6 o7
  obtain ⟨F, hF⟩ : ∃ F, F = undL ps h (ps.length - h) := ⟨_, rfl⟩
  rw [← hF] at e1
  have q := j3_loop w r hl h1 h2 (F := F) (fun a ha => by rw [hF] at ha; have := undL_rng ha; omega) s.length (s := s ++ [.lst (F.map D.int)]) (get_new _ _) o3 o5' o6 o7
  have eq : tiedB Hs ps h = F.all fun a => (hs Hs a.toNat).all fun d => tiedD Hs ps h F d := by rw [hF]; rfl
  rw [eq]
  refine ⟨s ++ [.lst (F.map D.int)], Ext.mk _ _, ?_⟩
  have wl : ∀ s, dLen [parD ps] s = some (.int ((ps.length : Int) + 1), s) := fun s => by simp [parD]
  have wr := range2_int ((h : Int) + 1) ((ps.length : Int) + 1) (s ++ [.lst ((undL ps h 0).map D.int)]) (by omega) (by omega) (by omega) (by omega)
  rw [show ((ps.length : Int) + 1 - ((h : Int) + 1)).toNat = ps.length - h by omega] at wr
  have e0 : (undL ps h 0).map D.int = [.int h] := rfl
  rw [e0] at e1 wr
  have gF : (s ++ [Cell.lst (F.map D.int)])[s.length]? = some (.lst (F.map D.int)) := get_new _ _
  generalize (F.all fun a => (hs Hs a.toNat).all fun d => tiedD Hs ps h F d) = c at *
  generalize F.map D.int = Fd at *
  generalize s ++ [Cell.lst Fd] = s2 at *
  cases c with
  | false => simp at q; simp [bl_d_law_judge_5, wl, wr, e1, gF, q, -rangeOf2_int]
  | true =>
    simp at q
    obtain ⟨env', q1, a, b, c, rfl⟩ := q
    simp [bl_d_law_judge_5, wl, wr, e1, gF, q1, -rangeOf2_int]
end Law
namespace Law
open PySem Mi
theorem j5_loop {hd : D} {Hs : List (List Str)} (w : Hou hd Hs) {ps : List Int} (r : RightPs ps) (hl : ps.length + 1 = Hs.length) (s : Store) (o2 o3 o4 o5 o6 o7 : Option D) :
    (AllTied Hs ps ∧ ∃ env' s', forL always (gN 2) bl_d_law_judge_5 (rng2 1 ps.length) [some hd, some (parD ps), o2, o3, o4, o5, o6, o7] s = .nx env' s' ∧ (∃ o2 o3 o4 o5 o6 o7, env' = [some hd, some (parD ps), o2, o3, o4, o5, o6, o7]) ∧ Ext s s') ∨
      ∃ k, FirstBad Hs ps k ∧ ∃ s', forL always (gN 2) bl_d_law_judge_5 (rng2 1 ps.length) [some hd, some (parD ps), o2, o3, o4, o5, o6, o7] s = .rt (outD false ((k : Int) + 1)) s' ∧ Ext s s' := by
  refine forL_at (gd := always) (g := gN 2) (b := bl_d_law_judge_5) (rng2 1 ps.length) (fun k env s' => (∃ o2 o3 o4 o5 o6 o7, env = [some hd, some (parD ps), o2, o3, o4, o5, o6, o7]) ∧ Ext s s' ∧ ∀ j, j < k → tiedB Hs ps (j + 1) = true)
    (fun res => (AllTied Hs ps ∧ ∃ env' s', res = .nx env' s' ∧ (∃ o2 o3 o4 o5 o6 o7, env' = [some hd, some (parD ps), o2, o3, o4, o5, o6, o7]) ∧ Ext s s') ∨ ∃ k, FirstBad Hs ps k ∧ ∃ s', res = .rt (outD false ((k : Int) + 1)) s' ∧ Ext s s') (fun _ _ _ _ => trivial) (fun k d env s' hk ⟨⟨o2, o3, o4, o5, o6, o7, he⟩, x, ht⟩ => ?_) (fun env s' ⟨o, x, ht⟩ => ?_) ⟨⟨o2, o3, o4, o5, o6, o7, rfl⟩, Ext.refl _, fun j hj => absurd hj (Nat.not_lt_zero j)⟩
  · subst he
    obtain ⟨hlt, rfl⟩ := rng2_get hk
    obtain ⟨s2, x2, e⟩ := j5_turn w r hl (h := k + 1) (by omega) (by omega) s' o3 o4 o5 o6 o7
    rw [show ((k + 1 : Nat) : Int) = 1 + (k : Nat) by omega] at e
    cases c : tiedB Hs ps (k + 1) with
    | true =>
      rw [c, if_pos rfl] at e
      obtain ⟨env', e, a3, a4, a5, a6, a7, rfl⟩ := e
      rw [turn_gN]
      show Turns _ _ (bl_d_law_judge_5 [some hd, some (parD ps), some (.int (1 + (k : Nat))), o3, o4, o5, o6, o7] s')
      rw [e]
      exact ⟨⟨_, _, _, _, _, _, rfl⟩, x.trans x2, fun j hj => by
        rcases Nat.lt_or_ge j k with u | u
        · exact ht j u
        · have : j = k := by omega
          subst this; exact c⟩
    | false =>
      rw [c, if_neg (by simp)] at e
      rw [turn_gN]
      show Turns _ _ (bl_d_law_judge_5 [some hd, some (parD ps), some (.int (1 + (k : Nat))), o3, o4, o5, o6, o7] s')
      rw [e]
      exact .inr ⟨k, ⟨hlt, c, ht⟩, s2, by rw [Int.add_comm], x.trans x2⟩
  · rw [rng2_len] at ht
    exact .inl ⟨ht, env, s', rfl, o, x⟩
theorem judge_bad {hd : D} {Hs : List (List Str)} (w : Hou hd Hs) {d : D} {s : Store} (wd : Wfs s d) (h : isPar Hs.length d = false) : m_d_law_judge [hd, d] s = .ok (outD false (-1)) s := by
  have hfew := w.few
  have hpos := w.pos
  have h1 := isT_spec wd.1
  have wl := w.len s
  cases d with
  | tup xs =>
    cases xs with
    | nil =>
      have : ¬ (0 : Int) = Hs.length := by omega
      simp [m_d_law_judge, b_d_law_judge, wl, this, outD]
    | cons x xs =>
      by_cases hl : xs.length + 1 = Hs.length
      · have hl' : ((xs.length : Int) + 1) = Hs.length := by omega
        have w2 := isN_spec s x
        cases hN : isN x with
        | false =>
          rw [hN] at w2
          simp [m_d_law_judge, b_d_law_judge, wl, hl', dIx_tup, w2, outD]
        | true =>
          cases x with
          | non =>
            have q := j6_loop (hd := hd) (n := Hs.length) (x := .non) (s := s) hl (fun y hy => wd.2 _ rfl y (List.mem_cons_of_mem _ hy)) none none none none none none
            have wr := range2_int 1 Hs.length s (by omega) (by omega) (by omega) (by omega)
            rw [show ((Hs.length : Int) - 1).toNat = Hs.length - 1 by omega] at wr
            have e : isPar Hs.length (.tup (.non :: xs)) = (List.range (Hs.length - 1)).all fun k => okAt (k + 1) (xs.getD k .non) := by simp [isPar, hl]
            rw [e] at h
            rw [h, if_neg (by simp)] at q
            simp [m_d_law_judge, b_d_law_judge, wl, hl', dIx_tup, wr, q, outD, -rangeOf2_int]
          | _ => cases hN
      · have hl' : ¬ ((xs.length : Int) + 1) = Hs.length := by omega
        simp [m_d_law_judge, b_d_law_judge, wl, hl', outD]
  | _ => simp [m_d_law_judge, b_d_law_judge, h1, isT, outD, -dIsi_eq]
theorem judge_spec {hd : D} {Hs : List (List Str)} (w : Hou hd Hs) {ps : List Int} (r : RightPs ps) (hl : ps.length + 1 = Hs.length) (s : Store) :
    (AllTied Hs ps ∧ ∃ s', m_d_law_judge [hd, parD ps] s = .ok (outD true Hs.length) s' ∧ Ext s s') ∨ ∃ k, FirstBad Hs ps k ∧ ∃ s', m_d_law_judge [hd, parD ps] s = .ok (outD false ((k : Int) + 1)) s' ∧ Ext s s' := by
  have hfew := w.few
  have wl := w.len
  have wr := range2_int 1 Hs.length s (by omega) (by omega) (by omega) (by omega)
  rw [show ((Hs.length : Int) - 1).toNat = Hs.length - 1 by omega] at wr
  have q := j6_loop (hd := hd) (n := Hs.length) (x := .non) (xs := ps.map D.int) (s := s) (by simpa using hl) (fun y hy => (wfs_par ps s).2 _ rfl y (List.mem_cons_of_mem _ hy)) none none none none none none
  have e := isPar_parD r hl
  have e' : isPar Hs.length (parD ps) = (List.range (Hs.length - 1)).all fun k => okAt (k + 1) ((ps.map D.int).getD k .non) := by simp [isPar, parD, hl]
  rw [e'] at e
  rw [e, if_pos rfl] at q
  obtain ⟨env1, q, o2, o3, rfl⟩ := q
  have en : Hs.length - 1 = ps.length := by omega
  rw [en] at q wr
  have t1 : dIsi "tuple" (parD ps) s = some (.bl true, s) := by simp [parD]
  have t2 : ∀ s, dLen [parD ps] s = some (.int Hs.length, s) := fun s => by simp [parD]; omega
  have t3 : ∀ s, dIx (parD ps) (.int 0) s = some (.non, s) := fun s => by simp [parD, dIx_tup]
  have q' : forL always (gN 2) bl_d_law_judge_6 (rng2 1 ps.length) [some hd, some (parD ps), none, none, none, none, none, none] s = .nx [some hd, some (parD ps), o2, o3, none, none, none, none] s := q
  rcases j5_loop w r hl s o2 o3 none none none none with ⟨ha, env', s', e, ⟨a2, a3, a4, a5, a6, a7, rfl⟩, x⟩ | ⟨k, hk, s', e, x⟩
  · refine .inl ⟨ha, s', ?_, x⟩
    simp [m_d_law_judge, b_d_law_judge, wl, t1, t2, t3, wr, q', e, outD, -rangeOf2_int, -dIsi_eq]
  · refine .inr ⟨k, hk, s', ?_, x⟩
    simp [m_d_law_judge, b_d_law_judge, wl, t1, t2, t3, wr, q', e, outD, -rangeOf2_int, -dIsi_eq]
theorem ask_spec {hd : D} {Hs : List (List Str)} (w : Hou hd Hs) {ps : List Int} (r : RightPs ps) (hl : ps.length + 1 = Hs.length) (s : Store) :
    (AllTied Hs ps ∧ ∃ s', m_d_law_ask [hd, parD ps] s = .ok (outD true Hs.length) s' ∧ Ext s s') ∨ ∃ k, FirstBad Hs ps k ∧ ∃ s', m_d_law_ask [hd, parD ps] s = .ok (outD false ((k : Int) + 1)) s' ∧ Ext s s' := by
  rcases check_spec w r hl s with ⟨ha, s', e, x⟩ | ⟨k, hk, s', e, x⟩
  · exact .inl ⟨ha, s', ask_good e, x⟩
  · exact .inr ⟨k, hk, s', ask_bad e, x⟩
theorem same {hd d : D} {g : Bool} {v : Int} {s s1 s2 : Store} (h1 : m_d_law_judge [hd, d] s = .ok (outD g v) s1) (h2 : m_d_law_ask [hd, d] s1 = .ok (outD g v) s2) : m_d_law_right [hd, d] s = .ok (.bl true) s2 := by
  have t0 : ∀ s, dIx (outD g v) (.int 0) s = some (.str (if g then "good" else "bad"), s) := fun s => by simp [outD, dIx_tup]
  have t1 : ∀ s, dIx (outD g v) (.int 1) s = some (.int v, s) := fun s => by simp [outD, dIx_tup]
  simp [m_d_law_right, b_d_law_right, h1, h2, t0, t1]
theorem right_spec {hd : D} {Hs : List (List Str)} (w : Hou hd Hs) {d : D} {s : Store} (wd : Wfs s d) : ∃ s', m_d_law_right [hd, d] s = .ok (.bl true) s' ∧ Ext s s' := by
  cases c : isPar Hs.length d with
  | false =>
    exact ⟨s, same (judge_bad w wd c) (ask_bad (check_bad w wd c)), Ext.refl _⟩
  | true =>
    obtain ⟨ps, rfl, hl, r⟩ := isPar_ints c
    rcases judge_spec w r hl s with ⟨ha, s1, e1, x1⟩ | ⟨k, hk, s1, e1, x1⟩
    · rcases ask_spec w r hl s1 with ⟨hb, s2, e2, x2⟩ | ⟨k, hk, s2, e2, x2⟩
      · exact ⟨s2, same e1 e2, x1.trans x2⟩
      · exact (first_all hk ha).elim
    · rcases ask_spec w r hl s1 with ⟨hb, s2, e2, x2⟩ | ⟨k', hk', s2, e2, x2⟩
      · exact (first_all hk hb).elim
      · have := first_one hk hk'
        subst this
        exact ⟨s2, same e1 e2, x1.trans x2⟩
theorem bad_spec {hd : D} {Hs : List (List Str)} (w : Hou hd Hs) {d : D} {s : Store} (wd : Wfs s d) (h : isPar Hs.length d = false) : m_d_law_ask [hd, d] s = .ok (outD false (-1)) s := ask_bad (check_bad w wd h)
end Law
namespace Law
open PySem Mi
theorem Ext.pool {c p : Nat} {s t : Store} (h : Ext s t) (e : Pool c p s) : Pool c p t := by
  obtain ⟨r, rfl⟩ := h
  exact e.app r
theorem Ext.kp {s t : Store} (h : Ext s t) (c p : Nat) : Kp2 c p s t := by
  obtain ⟨r, rfl⟩ := h
  exact Kp2.app c p s r
def tails : List Str := ["", "0", "4", "6", "'", "4'", "x", "ex", "17"]
def letters : List Str := ["r", "t", "u", "v", "cut"]
def allW : List Str := letters.flatMap fun a => tails.map fun t => a ++ t
theorem tails_len : ∀ t ∈ tails, t.length ≤ 10 := by decide +kernel
theorem letters_len : ∀ t ∈ letters, t.length ≤ 10 := by decide +kernel
theorem allW_nodup : allW.Nodup := by decide +kernel
theorem allW_len : allW.length = 45 := by decide +kernel
def InnI (c p lw lt ll : Nat) (n : D) (x : Str) (s0 : Store) (B : List Str) (rest : List D) (env : Sl) (s : Store) : Prop := ∃ (R T ws : List Str) (o4 : Option D), rest = R.map D.str ∧ tails = T ++ R ∧ env = [some (.loc p), some n, some (.loc lw), some (.str x), o4, none, none, none] ∧
  s[lw]? = some (.lst (ws.map D.str)) ∧ ws = B ++ T.map (fun t => x ++ t) ∧ s[lt]? = some (.lst (tails.map D.str)) ∧ s[ll]? = some (.lst (letters.map D.str)) ∧ Pool c p s ∧ Kp2 c p s0 s
theorem inner {c p lw lt ll : Nat} {n : D} {x : Str} {s0 s : Store} {B : List Str} (hN : B.length ≤ 1000) (hx : x.length ≤ 10) (n1 : lw ≠ p) (n2 : lw ≠ c) (n3 : lt ≠ lw) (n4 : ll ≠ lw) (n5 : s0.length ≤ lw) {env : Sl} (h : InnI c p lw lt ll n x s0 B (tails.map D.str) env s) :
    ∃ env' s', forL (fun s2 => s2[lt]? = some (.lst (tails.map D.str))) (gN 4) bl_d_law_words_2 (tails.map D.str) env s = .nx env' s' ∧ InnI c p lw lt ll n x s0 B [] env' s' := by
  refine forL_thru (InnI c p lw lt ll n x s0 B) (fun _ _ _ ⟨_, _, _, _, _, _, _, _, _, h, _⟩ => h) (fun d xs env s ⟨R, T, ws, o4, hr, hR, he, h1, h2, h3, h4, h5, h6⟩ => ?_) h
  subst he
  cases R with
  | nil => cases hr
  | cons t R =>
    obtain ⟨rfl, rfl⟩ := List.cons.inj hr
    have ht : t.length ≤ 10 := tails_len t (by rw [hR]; simp)
    have hT : T.length ≤ 9 := by
      have := congrArg List.length hR
      simp [tails] at this
      omega
    have a1 := dAdd_s (a := x) (b := t) (by omega) s
    have hl : ws.length ≤ 2000 := by rw [h2]; simp; omega
    have a2 := dAppend_loc h1 (by simp; omega) (.str (x ++ t))
    have t1 := tyOk_list h1
    simp [bl_d_law_words_2, t1, a1, a2]
    exact ⟨R, T ++ [t], ws ++ [x ++ t], _, rfl, by rw [hR]; simp, rfl, by rw [get_set h1]; simp, by rw [h2]; simp, by rw [List.getElem?_set_ne (Ne.symm n3)]; exact h3, by rw [List.getElem?_set_ne (Ne.symm n4)]; exact h4, h5.set n1 n2 _,
      ⟨by simp; exact h6.1, fun l hl a b => by rw [List.getElem?_set_ne (by omega)]; exact h6.2 l hl a b⟩⟩
def OutW (c p lw ll : Nat) (n : D) (s0 : Store) (rest : List D) (env : Sl) (s : Store) : Prop := ∃ (R T ws : List Str) (o3 o4 : Option D), rest = R.map D.str ∧ letters = T ++ R ∧ env = [some (.loc p), some n, some (.loc lw), o3, o4, none, none, none] ∧
  s[lw]? = some (.lst (ws.map D.str)) ∧ ws = (T.flatMap fun a => tails.map fun t => a ++ t) ∧ s[ll]? = some (.lst (letters.map D.str)) ∧ Pool c p s ∧ Kp2 c p s0 s
def PickI (c p lo : Nat) (n : D) (s0 : Store) (i : Nat) (env : Sl) (s : Store) : Prop := ∃ (lw : Nat) (ws os : List Str) (o3 o4 o6 o7 : Option D), env = [some (.loc p), some n, some (.loc lw), o3, o4, some (.loc lo), o6, o7] ∧ s[lw]? = some (.lst (ws.map D.str)) ∧ ws.length + i = 45 ∧ s[lo]? = some (.lst (os.map D.str)) ∧ os.length = i ∧ lw ≠ lo ∧ lw ≠ p ∧ lw ≠ c ∧ Pool c p s ∧ Kp2 c p s0 s ∧ (os ++ ws).Perm allW
theorem fm_len (T : List Str) : (T.flatMap fun a => tails.map fun t => a ++ t).length = 9 * T.length := by
  induction T with
  | nil => rfl
  | cons a T ih => rw [List.flatMap_cons, List.length_append, ih]; simp [tails]; omega
theorem words_spec {c p : Nat} {s : Store} (h : Pool c p s) {n : Nat} (hn : n ≤ 41) :
    ∃ (l : Nat) (s' : Store) (os : List Str), m_d_law_words [.loc p, .int n] s = .ok (.loc l) s' ∧ s'[l]? = some (.lst (os.map D.str)) ∧ os.length = n ∧ os.Nodup ∧ s.length ≤ l ∧ Pool c p s' ∧ Kp2 c p s s' := by
  obtain ⟨env1, s1, e1, R, T, ws, o3, o4, hr, hRT, rfl, w1, w2, _, w4, w5⟩ := forL_thru (gd := fun s2 => s2[s.length + 1]? = some (Cell.lst (letters.map D.str))) (g := gN 3) (b := bl_d_law_words_3) (OutW c p s.length (s.length + 1) (.int n) s) (fun _ _ _ ⟨_, _, _, _, _, _, _, _, _, _, h, _⟩ => h) (xs := letters.map D.str)
    (env := [some (.loc p), some (.int n), some (.loc s.length), none, none, none, none, none]) (s := s ++ [.lst []] ++ [.lst (letters.map D.str)]) (fun d xs env s1 ⟨R, T, ws, o3, o4, hr, hR, he, w1, w2, w3, w4, w5⟩ => by
      subst he
      cases R with
      | nil => cases hr
      | cons x R =>
        obtain ⟨rfl, rfl⟩ := List.cons.inj hr
        have hT : T.length ≤ 5 := by
          have := congrArg List.length hR
          simp [letters] at this
          omega
        have hws : ws.length ≤ 100 := by rw [w2, fm_len]; omega
        have g1 : (s1 ++ [Cell.lst (tails.map D.str)])[s.length]? = some (.lst (ws.map D.str)) := by rw [List.getElem?_append_left (lt_of_get w1)]; exact w1
        have g2 : (s1 ++ [Cell.lst (tails.map D.str)])[s.length + 1]? = some (.lst (letters.map D.str)) := by rw [List.getElem?_append_left (lt_of_get w3)]; exact w3
        have lt1 := lt_of_get w3
        obtain ⟨env2, s2, e2, R2, T2, ws2, o42, hr2, ht2, rfl, v1, v2, v3, v4, v5, v6⟩ := inner (c := c) (p := p) (lw := s.length) (lt := s1.length) (ll := s.length + 1) (n := .int n) (x := x) (s0 := s) (B := ws) (by omega) (letters_len x (by rw [hR]; simp)) (Nat.ne_of_gt h.lt.1) (Nat.ne_of_gt h.lt.2) (by omega) (by omega) (Nat.le_refl _)
          (env := [some (.loc p), some (.int n), some (.loc s.length), some (.str x), o4, none, none, none]) (s := s1 ++ [.lst (tails.map D.str)]) ⟨tails, [], ws, o4, rfl, rfl, rfl, g1, by simp, get_new _ _, g2, w4.app _, w5.trans (Kp2.app c p s1 _)⟩
        have hr2' : R2 = [] := by
          cases R2 with
          | nil => rfl
          | cons _ _ => cases hr2
        subst hr2'
        rw [List.append_nil] at ht2
        subst ht2
        have fin : OutW c p s.length (s.length + 1) (.int n) s (R.map D.str) [some (.loc p), some (.int n), some (.loc s.length), some (.str x), o42, none, none, none] s2 :=
          ⟨R, T ++ [x], ws2, _, _, rfl, by rw [hR]; simp, rfl, v1, by rw [v2, w2, List.flatMap_append]; simp, v4, v5, v6⟩
        have et : tails.map D.str = [.str "", .str "0", .str "4", .str "6", .str "'", .str "4'", .str "x", .str "ex", .str "17"] := rfl
        rw [et] at e2
        simp [bl_d_law_words_3, e2]
        exact fin)
    ⟨letters, [], [], none, none, rfl, rfl, rfl, by simp, rfl, by
      have q := get_new (s ++ [Cell.lst []]) (.lst (letters.map D.str))
      rw [show (s ++ [Cell.lst []]).length = s.length + 1 by simp] at q
      exact q, (h.app _).app _, (Kp2.app c p s _).trans (Kp2.app c p _ _)⟩
  have hR : R = [] := by
    cases R with
    | nil => rfl
    | cons _ _ => cases hr
  subst hR
  rw [List.append_nil] at hRT
  subst hRT
  have w2' : ws = allW := w2
  have wl := allW_len
  rw [← w2'] at wl
  have lt1 := lt_of_get w1
  obtain ⟨env2, s2, e2, lw, ws2, os, q3, q4, q6, q7, rfl, _, _, v3, v4, _, _, _, v8, v9, vp⟩ := forL_rangeT (gd := always) (g := gN 6) (b := bl_d_law_words_1) n (PickI c p s1.length (.int n) s) (fun _ _ _ _ _ => trivial)
    (env := [some (.loc p), some (.int n), some (.loc s.length), o3, o4, some (.loc s1.length), none, none]) (s := s1 ++ [.lst []]) (fun i env s2 hi ⟨lw, ws, os, o3, o4, o6, o7, he, v1, v2, v3, v4, v5, v6, v7, v8, v9, vp⟩ => by
      subst he
      have l1 := dLen_loc v1
      rw [List.length_map] at l1
      obtain ⟨k, s3, e3, k0, k1, h3, kp3⟩ := draw_spec v8 (many := ws.length) (by omega) (by omega)
      obtain ⟨j, rfl⟩ := Int.eq_ofNat_of_zero_le k0
      have hj : j < ws.length := by omega
      have lolt := lt_of_get v3
      have g1 := kp3.get v1 v6 v7
      have nlo : s1.length ≠ p ∧ s1.length ≠ c := ⟨Nat.ne_of_gt (Nat.lt_of_lt_of_le h.lt.1 (by omega)), Nat.ne_of_gt (Nat.lt_of_lt_of_le h.lt.2 (by omega))⟩
      have g2 := kp3.get v3 nlo.1 nlo.2
      have z1 : dIx (.loc lw) (.int (j : Nat)) s3 = some (.str ws[j], s3) := by
        rw [dIx_loc g1, L2.atI_nat (v := D.str ws[j]) (by simp [hj])]
        rfl
      have a1 := dAppend_loc g2 (by simp; omega) (.str ws[j])
      have t1 := tyOk_list g2
      obtain ⟨s4, hs4⟩ : ∃ s4, s4 = s3.set s1.length (.lst (os.map D.str ++ [.str ws[j]])) := ⟨_, rfl⟩
      rw [← hs4] at a1
      have g3 : s4[lw]? = some (.lst (ws.map D.str)) := by rw [hs4, List.getElem?_set_ne (Ne.symm v5)]; exact g1
      have g4 : s4[s1.length]? = some (.lst ((os ++ [ws[j]]).map D.str)) := by rw [hs4, get_set g2]; simp
      have h4 : Pool c p s4 := by rw [hs4]; exact h3.set nlo.1 nlo.2 _
      have k4 : Kp2 c p s s4 := by
        have z := v9.trans kp3
        rw [hs4]
        exact ⟨by simp; exact z.1, fun l hl a b => by rw [List.getElem?_set_ne (by omega)]; exact z.2 l hl a b⟩
      have y1 : dSl (.loc lw) none (some (j : Int)) s4 = some (.loc s4.length, s4 ++ [.lst ((ws.take j).map D.str)]) := by simp [dSl, lstOf_loc g3, cutS1 ws (Nat.le_of_lt hj)]
      have g5 : (s4 ++ [Cell.lst ((ws.take j).map D.str)])[lw]? = some (.lst (ws.map D.str)) := by rw [List.getElem?_append_left (lt_of_get g3)]; exact g3
      have y2 : dSl (.loc lw) (some ((j : Int) + 1)) none (s4 ++ [.lst ((ws.take j).map D.str)]) = some (.loc (s4.length + 1), s4 ++ [.lst ((ws.take j).map D.str)] ++ [.lst ((ws.drop (j + 1)).map D.str)]) := by
        have q : dSl (.loc lw) (some ((j : Int) + 1)) none (s4 ++ [.lst ((ws.take j).map D.str)]) = (lstOf (s4 ++ [.lst ((ws.take j).map D.str)]) (.loc lw)).map fun xs => (D.loc (s4 ++ [Cell.lst ((ws.take j).map D.str)]).length, s4 ++ [.lst ((ws.take j).map D.str)] ++ [.lst (Mi.cutD xs (some ((j : Int) + 1)) none)]) := rfl
        rw [q, lstOf_loc g5, Option.map_some, cutS2 ws hj, show (s4 ++ [Cell.lst ((ws.take j).map D.str)]).length = s4.length + 1 by simp]
      have y3 := dAdd_loc (s := s4 ++ [.lst ((ws.take j).map D.str)] ++ [.lst ((ws.drop (j + 1)).map D.str)]) (l := s4.length) (k := s4.length + 1) (xs := (ws.take j).map D.str) (ys := (ws.drop (j + 1)).map D.str) (by simp) (by simp) (by simp; omega)
      have e5 : (ws.take j).map D.str ++ (ws.drop (j + 1)).map D.str = (ws.take j ++ ws.drop (j + 1)).map D.str := by simp
      rw [e5] at y3
      have ll : (ws.take j ++ ws.drop (j + 1)).length = ws.length - 1 := by simp; omega
      have s4l : s1.length < s4.length := lt_of_get g4
      have pm : (os ++ [ws[j]] ++ (ws.take j ++ ws.drop (j + 1))).Perm allW := by
        refine List.Perm.trans ?_ vp
        have e : ws = ws.take j ++ ws[j] :: ws.drop (j + 1) := by rw [List.getElem_cons_drop, List.take_append_drop]
        rw [List.append_assoc]
        refine List.Perm.append_left os ?_
        conv => rhs; rw [e]
        exact (show (ws[j] :: (ws.take j ++ ws.drop (j + 1))).Perm _ from List.perm_middle.symm)
      have fin : PickI c p s1.length (.int n) s (i + 1) [some (.loc p), some (.int n), some (.loc (s4 ++ [Cell.lst ((ws.take j).map D.str)] ++ [Cell.lst ((ws.drop (j + 1)).map D.str)]).length), o3, o4, some (.loc s1.length), some (.int (i : Nat)), some (.int (j : Nat))] (s4 ++ [.lst ((ws.take j).map D.str)] ++ [.lst ((ws.drop (j + 1)).map D.str)] ++ [.lst ((ws.take j ++ ws.drop (j + 1)).map D.str)]) :=
        ⟨_, ws.take j ++ ws.drop (j + 1), os ++ [ws[j]], _, _, _, _, rfl, get_new _ _, by omega, by
          rw [List.getElem?_append_left (by simp; omega), List.getElem?_append_left (by simp; omega), List.getElem?_append_left s4l]
          exact g4, by simp; omega, by simp; omega, Nat.ne_of_gt (Nat.lt_of_lt_of_le h4.lt.1 (by simp)), Nat.ne_of_gt (Nat.lt_of_lt_of_le h4.lt.2 (by simp)), ((h4.app _).app _).app _, ((k4.trans (Kp2.app c p _ _)).trans (Kp2.app c p _ _)).trans (Kp2.app c p _ _), pm⟩
      clear pm vp
      generalize (ws.take j ++ ws.drop (j + 1)).map D.str = l3 at *
      generalize (ws.take j).map D.str = l4 at *
      generalize (ws.drop (j + 1)).map D.str = l5 at *
      generalize ws[j] = wj at *
      simp only [List.append_assoc, List.cons_append, List.nil_append] at y2 y3
      simp [bl_d_law_words_1, l1, e3, z1, a1, t1, y1, y2, y3]
      simpa using fin)
    ⟨_, ws, [], _, _, _, _, rfl, by rw [List.getElem?_append_left lt1]; exact w1, by omega, get_new _ _, rfl, by omega, Nat.ne_of_gt h.lt.1, Nat.ne_of_gt h.lt.2, w4.app _, w5.trans (Kp2.app c p _ _), by rw [List.nil_append, w2']⟩
  have wr := rangeOf_int (s1 ++ [.lst []]) (n : Int) (by omega) (by omega)
  simp only [Int.toNat_natCast] at wr
  have el : letters.map D.str = [.str "r", .str "t", .str "u", .str "v", .str "cut"] := rfl
  rw [el] at e1
  have nd : os.Nodup := by
    have := vp.nodup_iff.mpr allW_nodup
    exact (List.nodup_append.mp this).1
  refine ⟨s1.length, s2, os, ?_, v3, v4, nd, by omega, v8, v9⟩
  simp only [List.append_assoc, List.cons_append, List.nil_append] at e1
  simp [m_d_law_words, b_d_law_words, e1, wr, e2]
end Law
namespace Law
open PySem Mi
theorem und_succ {ps : List Int} {h k : Nat} {a : Int} : a ∈ undL ps h (k + 1) ↔ a ∈ undL ps h k ∨ (a = ((h + 1 + k : Nat) : Int) ∧ pr ps (h + k) ∈ undL ps h k) := by
  conv => lhs; unfold undL
  split
  · rename_i c
    simp [c]
  · rename_i c
    simp [c]
theorem und_mono {ps : List Int} {h : Nat} {a : Int} {j : Nat} : ∀ {k : Nat}, j ≤ k → a ∈ undL ps h j → a ∈ undL ps h k
  | 0, hk, m => by
    have : j = 0 := by omega
    subst this; exact m
  | k + 1, hk, m => by
    rcases Nat.lt_or_ge k j with u | u
    · have : j = k + 1 := by omega
      subst this; exact m
    · exact und_succ.mpr (.inl (und_mono u m))
theorem und_back {ps : List Int} {h : Nat} {a : Int} {j : Nat} (ha : a < h + 1 + j) : ∀ {k : Nat}, j ≤ k → a ∈ undL ps h k → a ∈ undL ps h j
  | 0, hk, m => by
    have : j = 0 := by omega
    subst this; exact m
  | k + 1, hk, m => by
    rcases Nat.lt_or_ge k j with u | u
    · have : j = k + 1 := by omega
      subst this; exact m
    · rcases und_succ.mp m with q | ⟨q, _⟩
      · exact und_back ha u q
      · omega
theorem und_self {ps : List Int} {h k : Nat} : (h : Int) ∈ undL ps h k := und_mono (Nat.zero_le k) (by simp [undL])
/-- the parent of a house under h, other than h, is under h -/
theorem und_up {ps : List Int} {h : Nat} {y : Nat} : ∀ {k : Nat}, (y : Int) ∈ undL ps h k → y ≠ h → pr ps (y - 1) ∈ undL ps h k
  | 0, m, n => by simp [undL] at m; omega
  | k + 1, m, n => by
    rcases und_succ.mp m with q | ⟨q, r⟩
    · exact und_succ.mpr (.inl (und_up q n))
    · have : y - 1 = h + k := by omega
      rw [this]
      exact und_succ.mpr (.inl r)
theorem und_down {ps : List Int} (r : RightPs ps) {h y k : Nat} (hy : h < y) (hk : y ≤ h + k) (hn : y ≤ ps.length) (m : pr ps (y - 1) ∈ undL ps h k) : (y : Int) ∈ undL ps h k := by
  obtain ⟨_, b⟩ := r.get (k := y - 1) (by omega)
  have q := und_back (j := y - 1 - h) (by omega) (by omega) m
  have : (y : Int) ∈ undL ps h (y - 1 - h + 1) := und_succ.mpr (.inr ⟨by omega, by rw [show h + (y - 1 - h) = y - 1 by omega]; exact q⟩)
  exact und_mono (by omega) this
abbrev und (ps : List Int) (h : Nat) : List Int := undL ps h (ps.length - h)
/-- x and g are next to one another -/
def adj (ps : List Int) (x g : Int) : Prop := (1 ≤ x ∧ pr ps (x.toNat - 1) = g) ∨ (1 ≤ g ∧ pr ps (g.toNat - 1) = x)
def Linked (ps : List Int) (S : Int → Prop) : Prop := ∀ h : Nat, 1 ≤ h → h ≤ ps.length → (∃ a, S a ∧ a ∈ und ps h) → (∃ b, S b ∧ b ∉ und ps h) → S h ∧ S (pr ps (h - 1))
theorem cross {ps : List Int} (r : RightPs ps) {h y : Nat} (h1 : 1 ≤ h) (h2 : h ≤ ps.length) (y1 : 1 ≤ y) (y2 : y ≤ ps.length) (n : y ≠ h) : (y : Int) ∈ und ps h ↔ pr ps (y - 1) ∈ und ps h := by
  refine ⟨fun m => und_up m n, fun m => ?_⟩
  have a := undL_rng m
  obtain ⟨_, b⟩ := r.get (k := y - 1) (by omega)
  exact und_down r (by omega) (by omega) y2 m
theorem linked_add {ps : List Int} (r : RightPs ps) {S : Int → Prop} (L : Linked ps S) {x g : Int} (hg : S g) (a : adj ps x g) (hx : 0 ≤ x ∧ x ≤ ps.length) (hg' : 0 ≤ g ∧ g ≤ ps.length) : Linked ps fun z => S z ∨ z = x := by
  intro h h1 h2 ⟨a1, ha1, ma⟩ ⟨b1, hb1, mb⟩
  by_cases cA : ∃ a, S a ∧ a ∈ und ps h
  · by_cases cB : ∃ b, S b ∧ b ∉ und ps h
    · obtain ⟨q1, q2⟩ := L h h1 h2 cA cB
      exact ⟨.inl q1, .inl q2⟩
    · have hb : b1 = x := by
        rcases hb1 with q | q
        · exact (cB ⟨b1, q, mb⟩).elim
        · exact q
      subst hb
      have gU : g ∈ und ps h := Classical.byContradiction fun z => cB ⟨g, hg, z⟩
      rcases a with ⟨x1, e⟩ | ⟨g1, e⟩
      · -- x is the child
        by_cases c : b1.toNat = h
        · exfalso; apply mb
          rw [show b1 = (h : Int) by omega]
          exact und_self
        · have := (cross r h1 h2 (y := b1.toNat) (by omega) (by omega) c).mpr (by rw [e]; exact gU)
          rw [Int.toNat_of_nonneg hx.1] at this
          exact (mb this).elim
      · by_cases c : g.toNat = h
        · refine ⟨.inl ?_, .inr ?_⟩
          · rw [← c, Int.toNat_of_nonneg hg'.1]; exact hg
          · rw [← c]; exact e
        · have := (cross r h1 h2 (y := g.toNat) (by omega) (by omega) c).mp (by rw [Int.toNat_of_nonneg hg'.1]; exact gU)
          rw [e] at this
          exact (mb this).elim
  · have ha : a1 = x := by
      rcases ha1 with q | q
      · exact (cA ⟨a1, q, ma⟩).elim
      · exact q
    subst ha
    have gU : g ∉ und ps h := fun z => cA ⟨g, hg, z⟩
    rcases a with ⟨x1, e⟩ | ⟨g1, e⟩
    · by_cases c : a1.toNat = h
      · refine ⟨.inr (by omega), .inl ?_⟩
        rw [← c, e]; exact hg
      · have := (cross r h1 h2 (y := a1.toNat) (by omega) (by omega) c).mp (by rw [Int.toNat_of_nonneg hx.1]; exact ma)
        rw [e] at this
        exact (gU this).elim
    · by_cases c : g.toNat = h
      · exfalso; apply gU
        rw [show g = (h : Int) by omega]
        exact und_self
      · have := (cross r h1 h2 (y := g.toNat) (by omega) (by omega) c).mpr (by rw [e]; exact ma)
        rw [Int.toNat_of_nonneg hg'.1] at this
        exact (gU this).elim
theorem linked_one {ps : List Int} (x : Int) : Linked ps fun z => z = x := by
  intro h h1 h2 ⟨a, ha, ma⟩ ⟨b, hb, mb⟩
  subst ha hb
  exact (mb ma).elim
theorem allTied_of {Hs : List (List Str)} {ps : List Int} (hl : ps.length + 1 = Hs.length) (r : RightPs ps) (L : ∀ d : Str, Linked ps fun i => 0 ≤ i ∧ i < Hs.length ∧ d ∈ hs Hs i.toNat) : AllTied Hs ps := by
  intro j hj
  unfold tiedB
  rw [List.all_eq_true]
  intro a ha
  rw [List.all_eq_true]
  intro d hd
  have hr := undL_rng ha
  unfold tiedD
  by_cases c : d ∈ outL Hs (undL ps (j + 1) (ps.length - (j + 1))) Hs.length
  · obtain ⟨k, hk, k1, k2⟩ := mem_outL.mp c
    obtain ⟨⟨_, _, q1⟩, _, _, q2⟩ := L d (j + 1) (by omega) (by omega) ⟨a, ⟨by omega, by omega, hd⟩, ha⟩ ⟨(k : Int), ⟨by omega, by omega, k2⟩, k1⟩
    have e : ((j + 1 : Nat) : Int).toNat = j + 1 := by omega
    rw [e] at q1
    simp only [Bool.or_eq_true, Bool.and_eq_true, decide_eq_true_iff]
    exact .inr ⟨q1, q2⟩
  · simp [c]
end Law
namespace Law
open PySem Mi
def nearP (ps G : List Int) (x : Int) : Prop := ∃ g ∈ G, adj ps x g
theorem nx1_loop {ps G : List Int} (hG : ∀ g ∈ G, 0 ≤ g ∧ g ≤ ps.length) {lg lo x : Nat} {s : Store} (hs : s[lg]? = some (.lst (G.map D.int))) (b : Bool) (hb : b = true → nearP ps G x) (o5 : Option D) :
    ∃ env', forL (fun s2 => s2[lg]? = some (.lst (G.map D.int))) (gN 5) bl_d_law_next_1 (G.map D.int) [some (parD ps), some (.loc lg), some (.loc lo), some (.int x), some (.bl b), o5] s = .nx env' s ∧
      ∃ b o5, env' = [some (parD ps), some (.loc lg), some (.loc lo), some (.int x), some (.bl b), o5] ∧ (b = true → nearP ps G x) := by
  obtain ⟨env', s', e, ⟨b', o', he, hb'⟩, hs'⟩ := forL_atT (gd := fun s2 => s2[lg]? = some (.lst (G.map D.int))) (g := gN 5) (b := bl_d_law_next_1) (G.map D.int) (fun _ env s' => (∃ b o5, env = [some (parD ps), some (.loc lg), some (.loc lo), some (.int x), some (.bl b), o5] ∧ (b = true → nearP ps G x)) ∧ s' = s) (fun _ _ _ ⟨_, h⟩ => by subst h; exact hs)
    (fun k d env s' hk ⟨⟨b, o5, he, hb⟩, hs'⟩ => by
      subst he hs'
      obtain ⟨g, hg, rfl⟩ := map_get hk
      have hm := List.mem_of_getElem? hg
      obtain ⟨g0, g1⟩ := hG g hm
      by_cases c : 0 < g
      · have w := par_ix (ps := ps) (k := g.toNat - 1) (by omega) s' (i := g) (by omega)
        by_cases c2 : pr ps (g.toNat - 1) = x
        · simp [bl_d_law_next_1, c, w, c2]
          exact ⟨g, hm, .inr ⟨by omega, c2⟩⟩
        · simp [bl_d_law_next_1, c, w, c2]
          exact (by cases b with | false => exact .inl rfl | true => exact .inr ⟨rfl, hb rfl⟩)
      · simp [bl_d_law_next_1, c]
        exact (by cases b with | false => exact .inl rfl | true => exact .inr ⟨rfl, hb rfl⟩)) (env := [some (parD ps), some (.loc lg), some (.loc lo), some (.int x), some (.bl b), o5]) (s := s) ⟨⟨b, o5, rfl, hb⟩, rfl⟩
  subst hs'
  exact ⟨env', e, b', o', he, hb'⟩
theorem next_spec {ps G : List Int} (r : RightPs ps) (hn : ps.length ≤ 100) (hG : ∀ g ∈ G, 0 ≤ g ∧ g ≤ ps.length) {lg : Nat} {s : Store} (hs : s[lg]? = some (.lst (G.map D.int))) :
    ∃ N : List Int, m_d_law_next [parD ps, .loc lg] s = .ok (.loc s.length) (s ++ [.lst (N.map D.int)]) ∧ N.length ≤ 101 ∧ ∀ x ∈ N, 0 ≤ x ∧ x ≤ ps.length ∧ x ∉ G ∧ nearP ps G x := by
  obtain ⟨env', s', e, N, o3, o4, o5, rfl, rfl, hN, hl⟩ := forL_atT (gd := always) (g := gN 3) (b := bl_d_law_next_2) (rng (ps.length + 1)) (fun k env s' => ∃ (N : List Int) (o3 o4 o5 : Option D), env = [some (parD ps), some (.loc lg), some (.loc s.length), o3, o4, o5] ∧ s' = s ++ [.lst (N.map D.int)] ∧ (∀ x ∈ N, 0 ≤ x ∧ x ≤ ps.length ∧ x ∉ G ∧ nearP ps G x) ∧ N.length ≤ k) (fun _ _ _ _ => trivial)
    (fun k d env s' hk ⟨N, o3, o4, o5, he, hs', hN, hl⟩ => by
      subst he hs'
      obtain ⟨hk, rfl⟩ := rng_get hk
      have gG : (s ++ [Cell.lst (N.map D.int)])[lg]? = some (.lst (G.map D.int)) := by rw [List.getElem?_append_left (lt_of_get hs)]; exact hs
      have wa := app_new s (N.map D.int) (.int (k : Nat)) (by simp; omega)
      have wt := ty_new s (N.map D.int)
      have wn := dNotIn_of (dInB_locI gG (k : Nat))
      have fin : ∀ b : Bool, (b = true → nearP ps G k) → ∀ o5, (∃ env', forL (fun s2 => s2[lg]? = some (.lst (G.map D.int))) (gN 5) bl_d_law_next_1 (G.map D.int) [some (parD ps), some (.loc lg), some (.loc s.length), some (.int (k : Nat)), some (.bl b), o5] (s ++ [Cell.lst (N.map D.int)]) = .nx env' (s ++ [Cell.lst (N.map D.int)]) ∧
          ∃ b o5, env' = [some (parD ps), some (.loc lg), some (.loc s.length), some (.int (k : Nat)), some (.bl b), o5] ∧ (b = true → nearP ps G k)) := fun b hb o5 => nx1_loop hG gG b hb o5
      have tail : ∀ b : Bool, (b = true → nearP ps G k) → ∀ o5, bl_d_law_next_2 [some (parD ps), some (.loc lg), some (.loc s.length), some (.int (k : Nat)), o4, o5] (s ++ [Cell.lst (N.map D.int)]) = (sSeq (sFor (iSeq (eV 1)) (gN 5) (bl_d_law_next_1)) (sIf (tAnd (tTru (eV 4)) (tV (e2 dNotIn (eV 3) (eV 1)))) (sExpr (eMt "list" dAppend (eV 2) (aCons (eV 3) (aNil)))) (sNil))) [some (parD ps), some (.loc lg), some (.loc s.length), some (.int (k : Nat)), some (.bl b), o5] (s ++ [Cell.lst (N.map D.int)]) →
          Turns (fun env s' => ∃ (N : List Int) (o3 o4 o5 : Option D), env = [some (parD ps), some (.loc lg), some (.loc s.length), o3, o4, o5] ∧ s' = s ++ [.lst (N.map D.int)] ∧ (∀ x ∈ N, 0 ≤ x ∧ x ≤ ps.length ∧ x ∉ G ∧ nearP ps G x) ∧ N.length ≤ k + 1) (fun _ => False) (bl_d_law_next_2 [some (parD ps), some (.loc lg), some (.loc s.length), some (.int (k : Nat)), o4, o5] (s ++ [Cell.lst (N.map D.int)])) := by
        intro b hb o5 e
        rw [e]
        obtain ⟨env', q, b', o5', rfl, hb'⟩ := fin b hb o5
        have yes : b' = true → (k : Int) ∉ G → ∃ (N2 : List Int) (o3 o4 o5 : Option D), [some (parD ps), some (D.loc lg), some (.loc s.length), some (.int (k : Nat)), some (.bl b'), o5'] = [some (parD ps), some (.loc lg), some (.loc s.length), o3, o4, o5] ∧ s ++ [Cell.lst (N.map D.int ++ [.int (k : Nat)])] = s ++ [.lst (N2.map D.int)] ∧ (∀ x ∈ N2, 0 ≤ x ∧ x ≤ ps.length ∧ x ∉ G ∧ nearP ps G x) ∧ N2.length ≤ k + 1 := fun h1 h2 =>
          ⟨N ++ [(k : Int)], _, _, _, rfl, by simp, fun x hx => by
            rcases List.mem_append.mp hx with hx | hx
            · exact hN x hx
            · simp at hx; subst hx; exact ⟨by omega, by omega, h2, hb' h1⟩, by simp; omega⟩
        have no : ∃ (N2 : List Int) (o3 o4 o5 : Option D), [some (parD ps), some (D.loc lg), some (.loc s.length), some (.int (k : Nat)), some (.bl b'), o5'] = [some (parD ps), some (.loc lg), some (.loc s.length), o3, o4, o5] ∧ s ++ [Cell.lst (N.map D.int)] = s ++ [.lst (N2.map D.int)] ∧ (∀ x ∈ N2, 0 ≤ x ∧ x ≤ ps.length ∧ x ∉ G ∧ nearP ps G x) ∧ N2.length ≤ k + 1 :=
          ⟨N, _, _, _, rfl, rfl, hN, by omega⟩
        clear fin e
        generalize N.map D.int = Nd at *
        generalize s ++ [Cell.lst Nd] = s1 at *
        cases b' with
        | false =>
          simp [gG, q]
          simpa using no
        | true =>
          by_cases c : (k : Int) ∈ G
          · simp [gG, q, wn, c]
            simpa using no
          · simp [gG, q, wn, c, wt, wa]
            simpa using yes rfl c
      rw [turn_gN]
      show Turns _ _ (bl_d_law_next_2 [some (parD ps), some (.loc lg), some (.loc s.length), some (.int (k : Nat)), o4, o5] _)
      by_cases c : 0 < k
      · have w := par_ix (ps := ps) (k := k - 1) (by omega) (s ++ [Cell.lst (N.map D.int)]) (i := (k : Nat)) (by omega)
        have wi := dIn_of (dInB_locI gG (pr ps (k - 1)))
        have c' : (0 : Int) < (k : Nat) := by omega
        refine tail (decide (pr ps (k - 1) ∈ G)) (fun h => ⟨pr ps (k - 1), of_decide_eq_true h, .inl ⟨by omega, by simp⟩⟩) o5 ?_
        generalize s ++ [Cell.lst (N.map D.int)] = s1 at *
        simp [bl_d_law_next_2, c, c', w, wi]
      · have c' : ¬ (0 : Int) < (k : Nat) := by omega
        refine tail false (fun h => by cases h) o5 ?_
        generalize s ++ [Cell.lst (N.map D.int)] = s1 at *
        simp [bl_d_law_next_2, c, c']) (env := [some (parD ps), some (.loc lg), some (.loc s.length), none, none, none]) (s := s ++ [.lst ([].map D.int)]) ⟨[], none, none, none, rfl, rfl, by simp, by simp⟩
  rw [rng_len] at hl
  refine ⟨N, ?_, by omega, hN⟩
  have wl : ∀ s, dLen [parD ps] s = some (.int ((ps.length : Int) + 1), s) := fun s => by simp [parD]
  have wr := rangeOf_int (s ++ [.lst []]) ((ps.length : Int) + 1) (by omega) (by omega)
  rw [show ((ps.length : Int) + 1).toNat = ps.length + 1 by omega] at wr
  rw [List.map_nil] at e
  generalize N.map D.int = Nd at *
  simp [m_d_law_next, b_d_law_next, wl, wr, e, -rangeOf_int]
end Law
namespace Law
open PySem Mi
theorem ne_nil {s : Store} {l k : Nat} {ns : List Int} (h : s[l]? = some (.lst (ns.map D.int))) (h2 : s[k]? = some (.lst [])) : dNe (.loc l) (.loc k) s = some (.bl !ns.isEmpty, s) := by
  have e := eq_nil h h2
  unfold dEq at e
  unfold dNe
  cases q : dEqB (.loc l) (.loc k) s with
  | none => rw [q] at e; cases e
  | some b =>
    rw [q] at e
    have : b = ns.isEmpty := by simpa using e
    rw [this]
    rfl
/-- the rows of members -/
structure Rows (c p M : Nat) (ls : List Nat) (R : List (List Str)) (s : Store) : Prop where
  top : s[M]? = some (.lst (ls.map D.loc))
  len : ls.length = R.length
  row : ∀ i (h : i < ls.length), s[ls[i]]? = some (.lst ((hs R i).map D.str))
  nd : ls.Nodup
  off : M ∉ ls ∧ p ∉ ls ∧ c ∉ ls
  mp : M ≠ p ∧ M ≠ c
theorem Rows.kp {c p M : Nat} {ls : List Nat} {R : List (List Str)} {s s' : Store} (h : Rows c p M ls R s) (k : Kp2 c p s s') : Rows c p M ls R s' :=
  ⟨k.get h.top h.mp.1 h.mp.2, h.len, fun i hi => k.get (h.row i hi) (fun e => h.off.2.1 (e ▸ List.getElem_mem hi)) (fun e => h.off.2.2 (e ▸ List.getElem_mem hi)), h.nd, h.off, h.mp⟩
def addW (R : List (List Str)) (i : Nat) (w : Str) : List (List Str) := R.set i (hs R i ++ [w])
theorem hs_set {R : List (List Str)} {i j : Nat} {x : List Str} (hi : i < R.length) : hs (R.set i x) j = if j = i then x else hs R j := by
  unfold hs
  rw [List.getD_eq_getElem?_getD, List.getD_eq_getElem?_getD, List.getElem?_set]
  by_cases c : i = j
  · subst c; simp [hi]
  · simp [c, Ne.symm c]
theorem Rows.add {c p M : Nat} {ls : List Nat} {R : List (List Str)} {s : Store} (h : Rows c p M ls R s) {i : Nat} (hi : i < ls.length) (w : Str) : Rows c p M ls (addW R i w) (s.set ls[i] (.lst ((hs R i).map D.str ++ [.str w]))) := by
  refine ⟨?_, by simp [addW, h.len], fun j hj => ?_, h.nd, h.off, h.mp⟩
  · rw [List.getElem?_set_ne (fun e : ls[i] = M => h.off.1 (e ▸ List.getElem_mem hi))]; exact h.top
  · rw [addW, hs_set (by rw [← h.len]; exact hi)]
    by_cases q : j = i
    · subst q
      rw [if_pos rfl, get_set (h.row j hi)]; simp
    · rw [if_neg q, List.getElem?_set_ne (fun e : ls[i] = ls[j] => q (L2.nd_ix h.nd (List.getElem?_eq_getElem hj) (by rw [← e]; exact List.getElem?_eq_getElem hi)))]
      exact h.row j hj
theorem Rows.ix {c p M : Nat} {ls : List Nat} {R : List (List Str)} {s : Store} (h : Rows c p M ls R s) {i : Int} (h0 : 0 ≤ i) (h1 : i < R.length) : ∃ hi : i.toNat < ls.length, dIx (.loc M) (.int i) s = some (.loc ls[i.toNat], s) := by
  have hi : i.toNat < ls.length := by rw [h.len]; omega
  refine ⟨hi, ?_⟩
  obtain ⟨n, rfl⟩ := Int.eq_ofNat_of_zero_le h0
  have hn : n < ls.length := hi
  rw [dIx_loc h.top, L2.atI_nat (v := D.loc ls[n]) (by simp [hn])]
  rfl
/-- the group put into the rows -/
def addG (R : List (List Str)) (w : Str) : List Int → List (List Str)
  | [] => R
  | g :: G => addG (addW R g.toNat w) w G
theorem addG_snoc (w : Str) : ∀ (R : List (List Str)) (G : List Int) (g : Int), addG R w (G ++ [g]) = addW (addG R w G) g.toNat w
  | R, [], g => rfl
  | R, a :: G, g => addG_snoc w _ G g
theorem addW_len (R : List (List Str)) (i : Nat) (w : Str) : (addW R i w).length = R.length := by simp [addW]
theorem addG_len (w : Str) : ∀ (R : List (List Str)) (G : List Int), (addG R w G).length = R.length
  | R, [] => rfl
  | R, a :: G => by rw [addG, addG_len w, addW_len]
theorem mem_addG {w : Str} {d : Str} {j : Nat} : ∀ {G : List Int} {R : List (List Str)}, (∀ g ∈ G, 0 ≤ g ∧ g < R.length) → (d ∈ hs (addG R w G) j ↔ d ∈ hs R j ∨ (d = w ∧ (j : Int) ∈ G))
  | [], R, _ => by simp [addG]
  | g :: G, R, hG => by
    obtain ⟨g0, g1⟩ := hG g (by simp)
    rw [addG, mem_addG (fun x hx => by rw [addW_len]; exact hG x (by simp [hx])), addW, hs_set (by omega)]
    by_cases c : j = g.toNat
    · have c' : (j : Int) = g := by omega
      subst c
      rw [if_pos rfl]
      simp [c']
      intro h _
      exact .inr h
    · have c' : ¬ (j : Int) = g := by omega
      rw [if_neg c]
      simp [c']
theorem len_addG {w : Str} {j : Nat} : ∀ {G : List Int} {R : List (List Str)}, (∀ g ∈ G, 0 ≤ g ∧ g < R.length) → (hs (addG R w G) j).length ≤ (hs R j).length + G.length
  | [], R, _ => by simp [addG]
  | g :: G, R, hG => by
    obtain ⟨g0, g1⟩ := hG g (by simp)
    have q := len_addG (w := w) (j := j) (G := G) (R := addW R g.toNat w) (fun x hx => by rw [addW_len]; exact hG x (by simp [hx]))
    have q2 : hs (addW R g.toNat w) j = if j = g.toNat then hs R g.toNat ++ [w] else hs R j := hs_set (by omega)
    rw [q2] at q
    rw [addG, List.length_cons]
    split at q
    · rename_i c; subst c; rw [List.length_append, List.length_singleton] at q; omega
    · omega
/-- the last loop of a word: the word goes into the group's rows -/
theorem mem1_loop {c p M lg : Nat} {ls : List Nat} {R : List (List Str)} {ps G : List Int} {s0 s : Store} (h : Rows c p M ls R s) (hp : Pool c p s) (hG : ∀ g ∈ G, 0 ≤ g ∧ g < R.length) (hg : s[lg]? = some (.lst (G.map D.int))) (n1 : lg ∉ ls) (hR : ∀ i, (hs R i).length ≤ 900) (hGl : G.length ≤ 100) (w : Str) (a2 : D) (o3 o7 o8 : Option D) :
    ∃ env' s', forL (fun s2 => s2[lg]? = some (.lst (G.map D.int))) (gN 3) bl_d_law_members_1 (G.map D.int) [some (.loc p), some (parD ps), some a2, o3, some (.loc M), some (.str w), some (.loc lg), o7, o8] s = .nx env' s' ∧ (∃ o3, env' = [some (.loc p), some (parD ps), some a2, o3, some (.loc M), some (.str w), some (.loc lg), o7, o8]) ∧
      Rows c p M ls (addG R w G) s' ∧ Pool c p s' ∧ s.length = s'.length ∧ ∀ l, l ∉ ls → s'[l]? = s[l]? := by
  obtain ⟨env', s', e, he, h', hp', hlen, hk⟩ := forL_atT (gd := fun s2 => s2[lg]? = some (.lst (G.map D.int))) (g := gN 3) (b := bl_d_law_members_1) (G.map D.int) (fun k env s' => (∃ o3, env = [some (.loc p), some (parD ps), some a2, o3, some (.loc M), some (.str w), some (.loc lg), o7, o8]) ∧ Rows c p M ls (addG R w (G.take k)) s' ∧ Pool c p s' ∧ s.length = s'.length ∧ ∀ l, l ∉ ls → s'[l]? = s[l]?)
    (fun _ _ _ ⟨_, _, _, _, q⟩ => by rw [q lg n1]; exact hg)
    (fun k d env s' hk ⟨⟨o3, he⟩, h, hp, hlen, q⟩ => by
      subst he
      obtain ⟨g, hgk, rfl⟩ := map_get hk
      have hm := List.mem_of_getElem? hgk
      obtain ⟨g0, g1⟩ := hG g hm
      have hkl := (List.getElem?_eq_some_iff.mp hgk).1
      obtain ⟨hi, wi⟩ := h.ix (i := g) g0 (by rw [addG_len]; exact g1)
      have hle := len_addG (w := w) (j := g.toNat) (G := G.take k) (R := R) (fun x hx => hG x (List.mem_of_mem_take hx))
      have hr := hR g.toNat
      have htk : (G.take k).length ≤ 100 := by rw [List.length_take]; omega
      have wa := dAppend_loc (h.row _ hi) (by rw [List.length_map]; omega) (.str w)
      have wt := tyOk_list (h.row _ hi)
      have h2 := h.add hi w
      have et : G.take (k + 1) = G.take k ++ [g] := by rw [List.take_add_one, hgk]; rfl
      have nl : ls[g.toNat] ∈ ls := List.getElem_mem hi
      have fin : (∃ o3', [some (D.loc p), some (parD ps), some a2, some (.int g), some (.loc M), some (.str w), some (.loc lg), o7, o8] = [some (.loc p), some (parD ps), some a2, o3', some (.loc M), some (.str w), some (.loc lg), o7, o8]) ∧ Rows c p M ls (addG R w (G.take (k + 1))) (s'.set ls[g.toNat] (.lst ((hs (addG R w (G.take k)) g.toNat).map D.str ++ [.str w]))) ∧ Pool c p (s'.set ls[g.toNat] (.lst ((hs (addG R w (G.take k)) g.toNat).map D.str ++ [.str w]))) ∧ s.length = (s'.set ls[g.toNat] (.lst ((hs (addG R w (G.take k)) g.toNat).map D.str ++ [.str w]))).length ∧ ∀ l, l ∉ ls → (s'.set ls[g.toNat] (.lst ((hs (addG R w (G.take k)) g.toNat).map D.str ++ [.str w])))[l]? = s[l]? :=
        ⟨⟨_, rfl⟩, by rw [et, addG_snoc]; exact h2, hp.set (fun e => h.off.2.1 (e ▸ nl)) (fun e => h.off.2.2 (e ▸ nl)) _, by simp [hlen], fun l hl => by rw [List.getElem?_set_ne (fun e : ls[g.toNat] = l => hl (e ▸ nl))]; exact q l hl⟩
      clear h2
      generalize s'.set ls[g.toNat] (.lst ((hs (addG R w (G.take k)) g.toNat).map D.str ++ [.str w])) = s2 at *
      generalize ls[g.toNat] = lr at *
      simp [bl_d_law_members_1, wi, wt, wa]
      exact ⟨fin.2.1, fin.2.2.1, fin.2.2.2.1, fin.2.2.2.2⟩)
    (env := [some (.loc p), some (parD ps), some a2, o3, some (.loc M), some (.str w), some (.loc lg), o7, o8]) (s := s) ⟨⟨o3, rfl⟩, h, hp, rfl, fun _ _ => rfl⟩
  rw [List.length_map, List.take_length] at h'
  exact ⟨env', s', e, he, h', hp', hlen, hk⟩
/-- the loop that lets the group grow -/
theorem mem2_loop {c p M lg : Nat} {ps : List Int} (r : RightPs ps) (hn : ps.length ≤ 100) {s0 s : Store} (hp : Pool c p s) {x : Int} (hx : 0 ≤ x ∧ x ≤ ps.length) (hg : s[lg]? = some (.lst [.int x])) (n1 : lg ≠ p ∧ lg ≠ c) (n2 : s0.length ≤ lg) (kp : Kp2 c p s0 s) (k : Nat) (hk : k ≤ 4) (a2 a5 : D) (o3 o7 o8 : Option D) :
    ∃ env' s', ∃ G : List Int, forL always (gN 7) bl_d_law_members_2 (rng k) [some (.loc p), some (parD ps), some a2, o3, some (.loc M), some a5, some (.loc lg), o7, o8] s = .nx env' s' ∧ (∃ o7 o8, env' = [some (.loc p), some (parD ps), some a2, o3, some (.loc M), some a5, some (.loc lg), o7, o8]) ∧
      s'[lg]? = some (.lst (G.map D.int)) ∧ G.length ≤ 5 ∧ (∀ g ∈ G, 0 ≤ g ∧ g ≤ ps.length) ∧ Linked ps (fun z => z ∈ G) ∧ Pool c p s' ∧ Kp2 c p s0 s' := by
  obtain ⟨env', s', e, he, G, hG, hGl, hGr, hL, hp', kp'⟩ := forL_atT (gd := always) (g := gN 7) (b := bl_d_law_members_2) (rng k) (fun i env s' => (∃ o7 o8, env = [some (.loc p), some (parD ps), some a2, o3, some (.loc M), some a5, some (.loc lg), o7, o8]) ∧ ∃ G : List Int, s'[lg]? = some (.lst (G.map D.int)) ∧ G.length ≤ i + 1 ∧ (∀ g ∈ G, 0 ≤ g ∧ g ≤ ps.length) ∧ Linked ps (fun z => z ∈ G) ∧ Pool c p s' ∧ Kp2 c p s0 s') (fun _ _ _ _ => trivial)
    (fun i d env s' hi ⟨⟨o7, o8, he⟩, G, hG, hGl, hGr, hL, hp, kp⟩ => by
      subst he
      obtain ⟨hi, rfl⟩ := rng_get hi
      obtain ⟨N, e, hNl, hN⟩ := next_spec r hn hGr hG
      have x1 := Ext.mk s' [Cell.lst (N.map D.int)]
      have gN := get_new s' (.lst (N.map D.int))
      have gG := x1.get hG
      have p1 := Ext.pool x1 hp
      have k1 := kp.trans (Ext.kp x1 c p)
      have ltg := lt_of_get hG
      have nln : s'.length ≠ p ∧ s'.length ≠ c := ⟨Nat.ne_of_gt hp.lt.1, Nat.ne_of_gt hp.lt.2⟩
      generalize hs1 : s' ++ [Cell.lst (N.map D.int)] = s1 at *
      have x2 := Ext.mk s1 [Cell.lst []]
      have wn := ne_nil (x2.get gN) (get_new s1 (.lst []))
      have gN2 := x2.get gN
      have gG2 := x2.get gG
      have p2 := Ext.pool x2 p1
      have k2 := k1.trans (Ext.kp x2 c p)
      generalize hs2 : s1 ++ [Cell.lst []] = s2 at *
      cases hN0 : N.isEmpty with
      | true =>
        rw [hN0] at wn
        simp [bl_d_law_members_2, e, hs2, wn]
        exact ⟨G, gG2, by omega, hGr, hL, p2, k2⟩
      | false =>
        have hN1 : 0 < N.length := by cases N <;> simp at hN0 ⊢
        obtain ⟨j, s3, e3, j0, j1, p3, k3⟩ := draw_spec p2 (many := N.length) (by omega) (by omega)
        have gN3 := k3.get gN2 nln.1 nln.2
        have gG3 := k3.get gG2 n1.1 n1.2
        have wl := dLen_loc gN2
        rw [List.length_map] at wl
        obtain ⟨y, hy, _, wy⟩ := ixL_map gN3 j0 j1
        have wa := dAppend_loc gG3 (by simp; omega) (.int y)
        have wt := tyOk_list gG2
        obtain ⟨q0, q1, _, g, hgm, hadj⟩ := hN y hy
        rw [hN0] at wn
        simp [bl_d_law_members_2, e, hs2, wn, wl, e3, wt, wy, wa]
        refine ⟨G ++ [y], by rw [get_set gG3]; simp, by simp; omega, fun z hz => ?_, ?_, p3.set n1.1 n1.2 _, ?_⟩
        · rcases List.mem_append.mp hz with hz | hz
          · exact hGr z hz
          · simp at hz; subst hz; exact ⟨q0, q1⟩
        · have := linked_add r hL hgm hadj ⟨q0, q1⟩ (hGr g hgm)
          simpa using this
        · have z := k2.trans k3
          exact ⟨by simp; exact z.1, fun l hl a b => by rw [List.getElem?_set_ne (by omega)]; exact z.2 l hl a b⟩) (env := [some (.loc p), some (parD ps), some a2, o3, some (.loc M), some a5, some (.loc lg), o7, o8]) (s := s) ⟨⟨o7, o8, rfl⟩, [x], hg, by simp, by simpa using hx, by simpa using linked_one x, hp, kp⟩
  rw [rng_len] at hGl
  exact ⟨env', s', G, e, he, hG, by omega, hGr, hL, hp', kp'⟩
end Law
namespace Law
open PySem Mi
structure MemI (c p M lw : Nat) (ps : List Int) (W : List Str) (s0 : Store) (k : Nat) (s : Store) (R : List (List Str)) : Prop where
  rows : Rows c p M (List.range' s0.length (ps.length + 1)) R s
  pool : Pool c p s
  kp : Kp2 c p s0 s
  short : ∀ i, (hs R i).length ≤ 5 * k
  sub : ∀ i d, d ∈ hs R i → d ∈ W.take k
  linked : ∀ d : Str, Linked ps fun z => 0 ≤ z ∧ z < R.length ∧ d ∈ hs R z.toNat
theorem members_turn {c p M lw k : Nat} {ps : List Int} (r : RightPs ps) (hn : ps.length ≤ 90) {W : List Str} (hW : W.Nodup) (hWl : W.length ≤ 100) {s0 s : Store} {R : List (List Str)} (h : MemI c p M lw ps W s0 k s R) {w : Str} (hw : W[k]? = some w) (o3 o5 o6 o7 o8 : Option D) :
    ∃ env' s' R', bl_d_law_members_3 [some (.loc p), some (parD ps), some (.loc lw), o3, some (.loc M), some (.str w), o6, o7, o8] s = .nx env' s' ∧ (∃ o3 o5 o6 o7 o8, env' = [some (.loc p), some (parD ps), some (.loc lw), o3, some (.loc M), o5, o6, o7, o8]) ∧ MemI c p M lw ps W s0 (k + 1) s' R' := by
  obtain ⟨hkl, hke⟩ := List.getElem?_eq_some_iff.mp hw
  have hRl : R.length = ps.length + 1 := by rw [← h.rows.len]; simp
  obtain ⟨x, s1, e1, x0, x1, p1, k1⟩ := draw_spec h.pool (many := (ps.length : Int) + 1) (by omega) (by omega)
  have wl : ∀ s, dLen [parD ps] s = some (.int ((ps.length : Int) + 1), s) := fun s => by simp [parD]
  have p1' := p1.app [.lst [.int x]]
  have k1' := k1.trans (Kp2.app c p s1 [.lst [.int x]])
  have g1 := get_new s1 (.lst [D.int x])
  have nlg : s1.length ≠ p ∧ s1.length ≠ c := ⟨Nat.ne_of_gt p1.lt.1, Nat.ne_of_gt p1.lt.2⟩
  have hlt : ∀ l ∈ List.range' s0.length (ps.length + 1), l < s1.length := fun l hl => by
    obtain ⟨i, hi, e⟩ := List.mem_iff_getElem.mp hl
    have := lt_of_get (h.rows.row i hi)
    have := k1.1
    omega
  have nls : s1.length ∉ List.range' s0.length (ps.length + 1) := fun z => Nat.lt_irrefl _ (hlt _ z)
  obtain ⟨kk, s2, e2, kk0, kk1, p2, k2⟩ := draw_spec p1' (many := 4) (by omega) (by omega)
  have g2 := k2.get g1 nlg.1 nlg.2
  obtain ⟨kn, rfl⟩ := Int.eq_ofNat_of_zero_le kk0
  obtain ⟨env3, s3, G, e3, ⟨o7', o8', rfl⟩, g3, hGl, hGr, hL, p3, k3⟩ := mem2_loop (M := M) r (by omega) (s0 := s1) p2 (x := x) ⟨x0, by omega⟩ g2 nlg (Nat.le_refl _) ((Kp2.app c p s1 [.lst [.int x]]).trans k2) kn (by omega) (.loc lw) (.str w) o3 o7 o8
  have kAll := k1.trans k3
  have h3 := h.rows.kp kAll
  have hshort : ∀ i, (hs R i).length ≤ 900 := fun i => by have := h.short i; omega
  obtain ⟨env4, s4, e4, ⟨o3', rfl⟩, h4, p4, l4, q4⟩ := mem1_loop (s0 := s3) h3 p3 (fun g hg => by have := hGr g hg; omega) g3 nls hshort (by omega) w (.loc lw) (ps := ps) o3 o7' o8'
  refine ⟨[some (.loc p), some (parD ps), some (.loc lw), o3', some (.loc M), some (.str w), some (.loc s1.length), o7', o8'], s4, addG R w G, ?_, ⟨_, _, _, _, _, rfl⟩, h4, p4, ?_, fun i => ?_, fun i d hd => ?_, fun d => ?_⟩
  · have wr := rangeOf_int s2 (kn : Int) (by omega) (by omega)
    rw [Int.toNat_natCast] at wr
    simp [bl_d_law_members_3, wl, e1, e2, wr, e3, g3, e4, -rangeOf_int]
  · have z := h.kp.trans kAll
    exact ⟨by rw [← l4]; exact z.1, fun l hl a b => by rw [q4 l (fun m => by have := List.mem_range'_1.mp m; omega)]; exact z.2 l hl a b⟩
  · have := len_addG (w := w) (j := i) (G := G) (R := R) (fun g hg => by have := hGr g hg; omega)
    have := h.short i
    omega
  · rcases (mem_addG (fun g hg => by have := hGr g hg; omega)).mp hd with q | ⟨q, _⟩
    · have := h.sub i d q
      rw [List.take_add_one]
      exact List.mem_append.mpr (.inl this)
    · subst q
      rw [List.take_add_one, hw]
      simp
  · have hm : ∀ z : Int, (0 ≤ z ∧ z < (addG R w G).length ∧ d ∈ hs (addG R w G) z.toNat) ↔ (0 ≤ z ∧ z < R.length ∧ (d ∈ hs R z.toNat ∨ (d = w ∧ z ∈ G))) := fun z => by
      rw [addG_len]
      constructor
      · rintro ⟨a, b, m⟩
        rcases (mem_addG (fun g hg => by have := hGr g hg; omega)).mp m with q | ⟨q, q2⟩
        · exact ⟨a, b, .inl q⟩
        · rw [Int.toNat_of_nonneg a] at q2
          exact ⟨a, b, .inr ⟨q, q2⟩⟩
      · rintro ⟨a, b, m⟩
        refine ⟨a, b, (mem_addG (fun g hg => by have := hGr g hg; omega)).mpr ?_⟩
        rw [Int.toNat_of_nonneg a]
        exact m
    rw [show (fun z : Int => 0 ≤ z ∧ z < (addG R w G).length ∧ d ∈ hs (addG R w G) z.toNat) = fun z : Int => 0 ≤ z ∧ z < R.length ∧ (d ∈ hs R z.toNat ∨ (d = w ∧ z ∈ G)) from funext fun z => propext (hm z)]
    by_cases c : d = w
    · subst c
      have no : ∀ i, d ∉ hs R i := fun i m => by
        have := h.sub i d m
        obtain ⟨j, hj, ej⟩ := List.mem_iff_getElem.mp this
        rw [List.length_take] at hj
        rw [List.getElem_take] at ej
        have : j = k := L2.nd_ix hW (show W[j]? = some d by rw [← ej]; exact List.getElem?_eq_getElem (by omega)) hw
        omega
      rw [show (fun z : Int => 0 ≤ z ∧ z < R.length ∧ (d ∈ hs R z.toNat ∨ (d = d ∧ z ∈ G))) = fun z : Int => z ∈ G from funext fun z => propext ⟨fun ⟨_, _, q⟩ => q.elim (fun q => (no _ q).elim) (·.2), fun q => ⟨(hGr z q).1, by have := (hGr z q).2; omega, .inr ⟨rfl, q⟩⟩⟩]
      exact hL
    · rw [show (fun z : Int => 0 ≤ z ∧ z < R.length ∧ (d ∈ hs R z.toNat ∨ (d = w ∧ z ∈ G))) = fun z : Int => 0 ≤ z ∧ z < R.length ∧ d ∈ hs R z.toNat from funext fun z => propext ⟨fun ⟨a, b, q⟩ => ⟨a, b, q.elim id fun q => (c q.1).elim⟩, fun ⟨a, b, q⟩ => ⟨a, b, .inl q⟩⟩]
      exact h.linked d
theorem members_spec {c p lw : Nat} {ps : List Int} (r : RightPs ps) (hn : ps.length ≤ 90) {W : List Str} (hW : W.Nodup) (hWl : W.length ≤ 100) {s : Store} (hp : Pool c p s) (hw : s[lw]? = some (.lst (W.map D.str))) (n1 : lw ≠ p) (n2 : lw ≠ c) :
    ∃ (M : Nat) (ls : List Nat) (s' : Store) (R : List (List Str)), m_d_law_members [.loc p, parD ps, .loc lw] s = .ok (.loc M) s' ∧ Rows c p M ls R s' ∧ Pool c p s' ∧ Kp2 c p s s' ∧ R.length = ps.length + 1 ∧ (∀ i, (hs R i).length ≤ 500) ∧ ∀ d : Str, Linked ps fun z => 0 ≤ z ∧ z < R.length ∧ d ∈ hs R z.toNat := by
  have hlt := hp.lt
  obtain ⟨acc, s1, e1, rfl, rfl⟩ := lcL_at (gd := always) (g := gN 3) (t := tT) (e := le_d_law_members_4) (env := [some (.loc p), some (parD ps), some (.loc lw), none, none, none, none, none, none]) (D.non :: ps.map D.int) (fun k acc s' => acc = (List.range' s.length k).map D.loc ∧ s' = s ++ List.replicate k (.lst [])) (fun _ _ _ _ => trivial)
    (fun k d acc s' hk ⟨ha, hs'⟩ => by
      subst ha hs'
      have hk' := (List.getElem?_eq_some_iff.mp hk).1
      simp at hk'
      simp [le_d_law_members_4, tT]
      exact ⟨by omega, by rw [List.range'_concat]; simp, by rw [List.replicate_succ']⟩) (acc := []) (s := s) ⟨rfl, by simp⟩
  simp only [List.length_cons, List.length_map] at e1
  obtain ⟨s1, hs1⟩ : ∃ s1, s1 = s ++ List.replicate (ps.length + 1) (Cell.lst []) := ⟨_, rfl⟩
  rw [← hs1] at e1
  have x1 : Ext s s1 := by rw [hs1]; exact Ext.mk _ _
  have x2 := x1.trans (Ext.mk s1 [.lst ((List.range' s.length (ps.length + 1)).map D.loc)])
  have top := get_new s1 (.lst ((List.range' s.length (ps.length + 1)).map D.loc))
  have row : ∀ i (hi : i < ps.length + 1), (s1 ++ [Cell.lst ((List.range' s.length (ps.length + 1)).map D.loc)])[s.length + i]? = some (.lst []) := fun i hi => by
    rw [List.getElem?_append_left (by rw [hs1]; simp; omega), hs1, List.getElem?_append_right (by omega), show s.length + i - s.length = i by omega, List.getElem?_replicate, if_pos hi]
  have hsl : s1.length = s.length + (ps.length + 1) := by rw [hs1]; simp
  have hR0 : ∀ i, hs (List.replicate (ps.length + 1) ([] : List Str)) i = [] := fun i => by
    unfold hs
    rw [List.getD_eq_getElem?_getD, List.getElem?_replicate]
    split <;> rfl
  have rows0 : Rows c p s1.length (List.range' s.length (ps.length + 1)) (List.replicate (ps.length + 1) []) (s1 ++ [.lst ((List.range' s.length (ps.length + 1)).map D.loc)]) :=
    ⟨top, by simp, fun i hi => by
      rw [List.length_range'] at hi
      rw [List.getElem_range', Nat.one_mul, hR0]
      exact row i hi, List.nodup_range', ⟨fun m => by have := List.mem_range'_1.mp m; omega, fun m => by have := List.mem_range'_1.mp m; omega, fun m => by have := List.mem_range'_1.mp m; omega⟩, by omega, by omega⟩
  have I0 : MemI c p s1.length lw ps W s 0 (s1 ++ [.lst ((List.range' s.length (ps.length + 1)).map D.loc)]) (List.replicate (ps.length + 1) []) :=
    ⟨rows0, Ext.pool x2 hp, Ext.kp x2 c p, fun i => (by rw [hR0]; simp), fun i d hd => (by rw [hR0] at hd; cases hd), fun d h h1 h2 ⟨a, ⟨_, _, q⟩, _⟩ _ => by rw [hR0] at q; cases q⟩
  generalize hs2 : s1 ++ [Cell.lst ((List.range' s.length (ps.length + 1)).map D.loc)] = s2 at *
  have gw2 := x2.get hw
  obtain ⟨env3, s3, e3, R, ⟨o3, o5, o6, o7, o8, rfl⟩, I3⟩ := forL_atT (gd := fun s2 => s2[lw]? = some (.lst (W.map D.str))) (g := gN 5) (b := bl_d_law_members_3) (W.map D.str) (fun k env s' => ∃ R, (∃ o3 o5 o6 o7 o8, env = [some (.loc p), some (parD ps), some (.loc lw), o3, some (.loc s1.length), o5, o6, o7, o8]) ∧ MemI c p s1.length lw ps W s k s' R)
    (fun _ _ _ ⟨_, _, h⟩ => h.kp.get hw n1 n2) (fun k d env s' hk ⟨R, ⟨o3, o5, o6, o7, o8, he⟩, h⟩ => by
      subst he
      obtain ⟨w, hw', rfl⟩ := map_get hk
      obtain ⟨env', s4, R', e, ⟨a3, a5, a6, a7, a8, rfl⟩, h'⟩ := members_turn r hn hW hWl h hw' o3 o5 o6 o7 o8
      rw [turn_gN]
      show Turns _ _ (bl_d_law_members_3 [some (.loc p), some (parD ps), some (.loc lw), o3, some (.loc s1.length), some (.str w), o6, o7, o8] s')
      rw [e]
      exact ⟨R', ⟨_, _, _, _, _, rfl⟩, h'⟩) (env := [some (.loc p), some (parD ps), some (.loc lw), none, some (.loc s1.length), none, none, none, none]) (s := s2) ⟨_, ⟨_, _, _, _, _, rfl⟩, I0⟩
  rw [List.length_map] at I3
  refine ⟨s1.length, _, s3, R, ?_, I3.rows, I3.pool, I3.kp, by rw [← I3.rows.len]; simp, fun i => by have := I3.short i; omega, I3.linked⟩
  have wp : parD ps = .tup (.non :: ps.map D.int) := rfl
  rw [wp] at e1 e3 ⊢
  generalize ps.map D.int = pd at *
  simp [m_d_law_members, b_d_law_members, e1, hs2, gw2, e3]
end Law
namespace Law
open PySem Mi
/-- one turn of the inner loop of houses: an entry, or none -/
theorem hou1_turn {c p le : Nat} {s0 s : Store} (hp : Pool c p s) (k0 : Kp2 c p s0 s) {ds : List Str} (hd : ds.length ≤ 1000) {es : List D} (he : s[le]? = some (.lst es)) (hes : es.length ≤ 1000) (n1 : le ≠ p ∧ le ≠ c) (n2 : s0.length ≤ le) (a1 : D) (lo : Nat) (a3 : D) (first : Int) (o7 o8 o9 : Option D) :
    ∃ env' s' es', bl_d_law_houses_1 [some (.loc p), some a1, some (.loc lo), some a3, some (.tup (ds.map D.str)), some (.int first), some (.loc le), o7, o8, o9] s = .nx env' s' ∧ (∃ o7 o8 o9, env' = [some (.loc p), some a1, some (.loc lo), some a3, some (.tup (ds.map D.str)), some (.int first), some (.loc le), o7, o8, o9]) ∧
      Pool c p s' ∧ Kp2 c p s0 s' ∧ s'[le]? = some (.lst es') ∧ es'.length ≤ es.length + 1 := by
  have wl : ∀ s, dLen [.tup (ds.map D.str)] s = some (.int ds.length, s) := fun s => by simp
  have wt := tyOk_list he
  by_cases c1 : 1 < ds.length
  · have c1' : (1 : Int) < ds.length := by omega
    obtain ⟨k1, s1, e1, k10, k11, p1, kp1⟩ := draw_spec hp (many := ds.length) (by omega) (by omega)
    obtain ⟨k2, s2, e2, k20, k21, p2, kp2⟩ := draw_spec p1 (many := (ds.length : Int) - 1) (by omega) (by omega)
    obtain ⟨k3, s3, e3, k30, k31, p3, kp3⟩ := draw_spec p2 (many := 5) (by omega) (by omega)
    have wm := fun s => dMod_int (k1 + 1 + k2) (ds.length : Int) s (by omega)
    obtain ⟨a, _, _, ia⟩ := ix_map (f := D.str) (xs := ds) k10 k11
    obtain ⟨b, _, _, ib⟩ := ix_map (f := D.str) (xs := ds) (Int.emod_nonneg (k1 + 1 + k2) (by omega : (ds.length : Int) ≠ 0)) (Int.emod_lt_of_pos _ (by omega))
    have g3 := ((kp1.trans kp2).trans kp3).get he n1.1 n1.2
    have g2 := (kp1.trans kp2).get he n1.1 n1.2
    have wt2 := tyOk_list g2
    have wa := dAppend_loc g3 (by omega) (.tup [.str "ann", .tup [.str "gap", .str a, .str b, .int (k3 - 3)]])
    have z := k0.trans ((kp1.trans kp2).trans kp3)
    generalize ds.map D.str = dd at *
    refine ⟨[some (.loc p), some a1, some (.loc lo), some a3, some (.tup dd), some (.int first), some (.loc le), o7, some (.int k1), some (.int ((k1 + 1 + k2) % ds.length))], _, es ++ [.tup [.str "ann", .tup [.str "gap", .str a, .str b, .int (k3 - 3)]]], ?_, ⟨_, _, _, rfl⟩, p3.set n1.1 n1.2 _, ⟨by rw [List.length_set]; exact z.1, fun l hl x y => (by rw [List.getElem?_set_ne (by omega)]; exact z.2 l hl x y)⟩, get_set g3, by simp⟩
    simp [bl_d_law_houses_1, wl, c1', e1, e2, e3, wm, ia, ib, wt2, wa]
  · have c1' : ¬ (1 : Int) < ds.length := by omega
    by_cases c2 : ds.length = 1
    · have c2' : (ds.length : Int) = 1 := by omega
      obtain ⟨a, _, _, ia⟩ := ix_map (f := D.str) (xs := ds) (i := 0) (by omega) (by omega)
      have wa := dAppend_loc he (by omega) (.tup [.str "bob", .tup [.str "years", .str a, .tup [.tup [.int first, .int (first + 9)]]]])
      generalize ds.map D.str = dd at *
      refine ⟨[some (.loc p), some a1, some (.loc lo), some a3, some (.tup dd), some (.int first), some (.loc le), o7, o8, o9], _, es ++ [.tup [.str "bob", .tup [.str "years", .str a, .tup [.tup [.int first, .int (first + 9)]]]]], ?_, ⟨_, _, _, rfl⟩, hp.set n1.1 n1.2 _, ⟨by rw [List.length_set]; exact k0.1, fun l hl x y => (by rw [List.getElem?_set_ne (by omega)]; exact k0.2 l hl x y)⟩, get_set he, by simp⟩
      simp [bl_d_law_houses_1, wl, c1', c2', ia, wt, wa]
    · have c2' : ¬ (ds.length : Int) = 1 := by omega
      generalize ds.map D.str = dd at *
      refine ⟨[some (.loc p), some a1, some (.loc lo), some a3, some (.tup dd), some (.int first), some (.loc le), o7, o8, o9], s, es, ?_, ⟨_, _, _, rfl⟩, hp, k0, he, by omega⟩
      simp [bl_d_law_houses_1, wl, c1', c2']
theorem hou2_turn {c p lo lr : Nat} {s0 s : Store} (hp : Pool c p s) (k0 : Kp2 c p s0 s) {ws : List Str} (hw : s[lr]? = some (.lst (ws.map D.str))) (hws : ws.length ≤ 1000) (n1 : lr ≠ p ∧ lr ≠ c) {out : List D} (ho : s[lo]? = some (.lst out)) (hol : out.length ≤ 1000) (n2 : lo ≠ p ∧ lo ≠ c) (n3 : s0.length ≤ lo) (a1 : D) (o4 o5 o6 o7 o8 o9 : Option D) :
    ∃ env' s' b ds, bl_d_law_houses_2 [some (.loc p), some a1, some (.loc lo), some (.loc lr), o4, o5, o6, o7, o8, o9] s = .nx env' s' ∧ (∃ o3 o4 o5 o6 o7 o8 o9, env' = [some (.loc p), some a1, some (.loc lo), o3, o4, o5, o6, o7, o8, o9]) ∧
      Pool c p s' ∧ Kp2 c p s0 s' ∧ s'[lo]? = some (.lst (out ++ [b])) ∧ BookOk b ds ∧ ds.Perm ws := by
  obtain ⟨ok, ds, hM, lM, pM⟩ := sort_strs ws
  have y1 : dSorted [.loc lr] s = some (.loc s.length, s ++ [.lst (ds.map D.str)]) := by
    simp [dSorted, seqOf, lstOf, hw, ok, hM]
  have x1 := Ext.mk s [.lst (ds.map D.str)]
  have y2 := dTuple_loc (get_new s (.lst (ds.map D.str)))
  have p1 := Ext.pool x1 hp
  have k1 := k0.trans (Ext.kp x1 c p)
  have g1 := x1.get ho
  generalize hs1 : s ++ [Cell.lst (ds.map D.str)] = s1 at *
  obtain ⟨f, s2, e2, f0, f1, p2, kp2⟩ := draw_spec p1 (many := 40) (by omega) (by omega)
  have x2 := Ext.mk s2 [Cell.lst []]
  have p3 := Ext.pool x2 p2
  have le2 := get_new s2 (.lst [])
  have nle : s2.length ≠ p ∧ s2.length ≠ c := ⟨Nat.ne_of_gt p2.lt.1, Nat.ne_of_gt p2.lt.2⟩
  have g2 := x2.get (kp2.get g1 n2.1 n2.2)
  have k3 := (k1.trans kp2).trans (Ext.kp x2 c p)
  have ltlo := lt_of_get (kp2.get g1 n2.1 n2.2)
  obtain ⟨m, s4, e4, m0, m1, p4, kp4⟩ := draw_spec p3 (many := 4) (by omega) (by omega)
  have le4 := kp4.get le2 nle.1 nle.2
  have g4 := kp4.get g2 n2.1 n2.2
  have k4 := k3.trans kp4
  obtain ⟨mn, rfl⟩ := Int.eq_ofNat_of_zero_le m0
  have base := (kp2.trans (Ext.kp x2 c p)).trans kp4
  obtain ⟨env5, s5, e5, ⟨q7, q8, q9, rfl⟩, p5, k5, es, le5, les, _⟩ := forL_atT (gd := always) (g := gN 7) (b := bl_d_law_houses_1) (rng mn) (fun k env s' => (∃ o7 o8 o9, env = [some (.loc p), some a1, some (.loc lo), some (.loc lr), some (.tup (ds.map D.str)), some (.int (f - 20)), some (.loc s2.length), o7, o8, o9]) ∧ Pool c p s' ∧ Kp2 c p s2 s' ∧ ∃ es : List D, s'[s2.length]? = some (.lst es) ∧ es.length ≤ k ∧ k ≤ mn) (fun _ _ _ _ => trivial)
    (fun k d env s' hk ⟨⟨o7, o8, o9, he⟩, hp, kp, es, hes, hl, hkm⟩ => by
      subst he
      obtain ⟨hk, rfl⟩ := rng_get hk
      obtain ⟨env', s6, es', e, ⟨a7, a8, a9, rfl⟩, hp', kp', hes', hl'⟩ := hou1_turn hp kp (ds := ds) (by omega) hes (by omega) nle (Nat.le_refl _) a1 lo (.loc lr) (f - 20) (some (.int (k : Nat))) o8 o9
      rw [turn_gN]
      show Turns _ _ (bl_d_law_houses_1 [some (.loc p), some a1, some (.loc lo), some (.loc lr), some (.tup (ds.map D.str)), some (.int (f - 20)), some (.loc s2.length), some (.int (k : Nat)), o8, o9] s')
      rw [e]
      exact ⟨⟨_, _, _, rfl⟩, hp', kp', es', hes', by omega, by omega⟩) (env := [some (.loc p), some a1, some (.loc lo), some (.loc lr), some (.tup (ds.map D.str)), some (.int (f - 20)), some (.loc s2.length), o7, o8, o9]) (s := s4) ⟨⟨_, _, _, rfl⟩, p4, (Ext.kp x2 c p).trans kp4, [], le4, Nat.zero_le _, Nat.zero_le _⟩
  have g5 := k5.get (kp2.get g1 n2.1 n2.2) n2.1 n2.2
  obtain ⟨w, s6, e6, w0, w1, p6, kp6⟩ := draw_spec p5 (many := 30) (by omega) (by omega)
  have g6 := kp6.get g5 n2.1 n2.2
  have le6 := kp6.get le5 nle.1 nle.2
  have y6 := dTuple_loc le6
  have wt := tyOk_list g5
  obtain ⟨b, hb⟩ : ∃ b, b = D.tup [.int (f - 20), .int (f - 20 + 10 + w), .tup (ds.map D.str), .tup es] := ⟨_, rfl⟩
  have wa := dAppend_loc g6 (by omega) b
  have z := ((k1.trans kp2).trans k5).trans kp6
  have wr := rangeOf_int s4 (mn : Int) (by omega) (by omega)
  rw [Int.toNat_natCast] at wr
  refine ⟨[some (.loc p), some a1, some (.loc lo), some (.loc lr), some (.tup (ds.map D.str)), some (.int (f - 20)), some (.loc s2.length), q7, q8, q9], _, b, ds, ?_, ⟨_, _, _, _, _, _, _, rfl⟩, p6.set n2.1 n2.2 _, ⟨by rw [List.length_set]; exact z.1, fun l hl x y => (by rw [List.getElem?_set_ne (by omega)]; exact z.2 l hl x y)⟩, get_set g6, ⟨_, _, _, hb⟩, pM⟩
  subst hb
  generalize ds.map D.str = dd at *
  simp [bl_d_law_houses_2, y1, hs1, y2, e2, e4, wr, e5, e6, y6, wt, wa, -rangeOf_int]
end Law
namespace Law
open PySem Mi
theorem houses_spec {c p M : Nat} {ls : List Nat} {R : List (List Str)} {s : Store} (h : Rows c p M ls R s) (hp : Pool c p s) (h1 : 1 ≤ R.length) (h2 : R.length ≤ 100) (hR : ∀ i, (hs R i).length ≤ 1000) :
    ∃ hd s' Hs, m_d_law_houses [.loc p, .loc M] s = .ok hd s' ∧ Pool c p s' ∧ Kp2 c p s s' ∧ Hou hd Hs ∧ Hs.length = R.length ∧ ∀ i, (hs Hs i).Perm (hs R i) := by
  have hlt := hp.lt
  have x0 := Ext.mk s [Cell.lst []]
  obtain ⟨env', s', e, ⟨o3, o4, o5, o6, o7, o8, o9, rfl⟩, hp', kp', bs, Hs, hbs, hl1, hl2, hb⟩ := forL_atT (gd := fun s2 => s2[M]? = some (.lst (ls.map D.loc))) (g := gN 3) (b := bl_d_law_houses_2) (ls.map D.loc)
    (fun k env s' => (∃ o3 o4 o5 o6 o7 o8 o9, env = [some (.loc p), some (.loc M), some (.loc s.length), o3, o4, o5, o6, o7, o8, o9]) ∧ Pool c p s' ∧ Kp2 c p s s' ∧ ∃ (bs : List D) (Hs : List (List Str)), s'[s.length]? = some (.lst bs) ∧ bs.length = k ∧ Hs.length = k ∧ ∀ i (q1 : i < bs.length) (q2 : i < Hs.length), BookOk bs[i] Hs[i] ∧ (Hs[i]).Perm (hs R i))
    (fun _ _ _ ⟨_, _, k, _⟩ => (h.kp k).top) (fun k d env s' hk ⟨⟨o3, o4, o5, o6, o7, o8, o9, he⟩, hp, kp, bs, Hs, hbs, hl1, hl2, hb⟩ => by
      subst he
      obtain ⟨l, hlk, rfl⟩ := map_get hk
      obtain ⟨hkl, hke⟩ := List.getElem?_eq_some_iff.mp hlk
      have hr := (h.kp kp).row k hkl
      rw [hke] at hr
      have hkR : k < R.length := by rw [← h.len]; exact hkl
      have nl : l ∈ ls := List.mem_of_getElem? hlk
      have w := hR k
      obtain ⟨env', s4, b, ds, e, ⟨a3, a4, a5, a6, a7, a8, a9, rfl⟩, hp4, kp4, ho4, hbk, hpm⟩ := hou2_turn (s0 := s) hp kp (lr := l) hr w ⟨fun z => h.off.2.1 (z ▸ nl), fun z => h.off.2.2 (z ▸ nl)⟩ hbs (by omega) ⟨Nat.ne_of_gt hlt.1, Nat.ne_of_gt hlt.2⟩ (Nat.le_refl _) (.loc M) o4 o5 o6 o7 o8 o9
      rw [turn_gN]
      show Turns _ _ (bl_d_law_houses_2 [some (.loc p), some (.loc M), some (.loc s.length), some (.loc l), o4, o5, o6, o7, o8, o9] s')
      rw [e]
      refine ⟨⟨_, _, _, _, _, _, _, rfl⟩, hp4, kp4, bs ++ [b], Hs ++ [ds], ho4, by simp [hl1], by simp [hl2], fun i q1 q2 => ?_⟩
      rw [List.length_append, List.length_singleton] at q1 q2
      by_cases c : i < k
      · rw [List.getElem_append_left (by omega), List.getElem_append_left (by omega)]
        exact hb i (by omega) (by omega)
      · have : i = k := by omega
        subst this
        subst hl1
        rw [List.getElem_append_right (Nat.le_refl _), List.getElem_append_right (by omega)]
        simp only [Nat.sub_self, List.getElem_singleton]
        exact ⟨hbk, hpm⟩) (env := [some (.loc p), some (.loc M), some (.loc s.length), none, none, none, none, none, none, none]) (s := s ++ [.lst []]) ⟨⟨_, _, _, _, _, _, _, rfl⟩, Ext.pool x0 hp, Ext.kp x0 c p, [], [], get_new _ _, rfl, rfl, fun i q1 => absurd q1 (Nat.not_lt_zero i)⟩
  rw [List.length_map, h.len] at hl1 hl2
  have g0 := x0.get h.top
  have hH : ∀ i, (hs Hs i).Perm (hs R i) := fun i => by
    by_cases q : i < Hs.length
    · have := (hb i (by omega) q).2
      have e : hs Hs i = Hs[i] := by simp [hs, q]
      rw [e]; exact this
    · have e1 : hs Hs i = [] := by unfold hs; rw [List.getD_eq_getElem?_getD, List.getElem?_eq_none (Nat.le_of_not_lt q)]; rfl
      have e2 : hs R i = [] := by unfold hs; rw [List.getD_eq_getElem?_getD, List.getElem?_eq_none (by omega)]; rfl
      rw [e1, e2]
  refine ⟨.tup bs, s', Hs, ?_, hp', kp', ⟨⟨bs, rfl, by omega, fun i q1 q2 => (hb i q1 q2).1⟩, by omega, by omega, fun ds hds => ?_⟩, hl2, hH⟩
  · have w := dTuple_loc hbs
    generalize ls.map D.loc = ld at *
    simp [m_d_law_houses, b_d_law_houses, g0, e, w]
  · obtain ⟨i, hi, rfl⟩ := List.mem_iff_getElem.mp hds
    have e : hs Hs i = Hs[i] := by simp [hs, hi]
    rw [← e, (hH i).length_eq]
    exact hR i
theorem cutT1 (xs : List D) {k : Nat} (h : k ≤ xs.length) : Mi.cutD xs none (some (k : Int)) = xs.take k := by
  unfold Mi.cutD
  rw [HT.sIx_none, HT.sIx_nat]
  simp [Nat.min_eq_left h]
theorem cutT2 (xs : List D) {k : Nat} (h : k ≤ xs.length) : Mi.cutD xs (some (k : Int)) none = xs.drop k := by
  unfold Mi.cutD
  rw [HT.sIx_none, HT.sIx_nat, Nat.min_eq_left h]
  rw [List.take_of_length_le (by simp)]
theorem cut_mem {xs : List D} {lo hi : Option Int} {x : D} (h : x ∈ Mi.cutD xs lo hi) : x ∈ xs := List.mem_of_mem_drop (List.mem_of_mem_take h)
def putD' (xs : List D) (k : Nat) (d : D) : D := .tup (xs.take k ++ [d] ++ xs.drop (k + 1))
theorem put_spec {xs : List D} {k : Nat} (h : k < xs.length) (hz : xs.length ≤ 1000) (d : D) (s : Store) : m_d_law_put [.tup xs, .int k, d] s = .ok (putD' xs k d) s := by
  have w1 : dSl (.tup xs) none (some (k : Int)) s = some (.tup (xs.take k), s) := by
    show some (D.tup (Mi.cutD xs none (some (k : Int))), s) = _
    rw [cutT1 xs (by omega)]
  have w2 : dSl (.tup xs) (some ((k : Int) + 1)) none s = some (.tup (xs.drop (k + 1)), s) := by
    show some (D.tup (Mi.cutD xs (some ((k : Int) + 1)) none), s) = _
    rw [show ((k : Int) + 1) = ((k + 1 : Nat) : Int) by omega, cutT2 xs (by omega)]
  have w3 : dAdd (.tup (xs.take k)) (.tup [d]) s = some (.tup (xs.take k ++ [d]), s) := dAdd_tup (by simp; omega)
  have w4 : dAdd (.tup (xs.take k ++ [d])) (.tup (xs.drop (k + 1))) s = some (.tup (xs.take k ++ [d] ++ xs.drop (k + 1)), s) := dAdd_tup (by simp; omega)
  unfold putD'
  generalize xs.take k ++ [d] = l1 at *
  simp [m_d_law_put, b_d_law_put, w1, w2, w3, w4]
theorem wfs_put {xs : List D} {s : Store} {d : D} (k : Nat) (h : ∀ x ∈ xs, Wf s x) (hd : Wf s d) : Wfs s (putD' xs k d) := ⟨rfl, fun ys e x hx => by
  cases e
  rcases List.mem_append.mp hx with hx | hx
  · rcases List.mem_append.mp hx with hx | hx
    · exact h x (List.mem_of_mem_take hx)
    · rw [List.mem_singleton.mp hx]; exact hd
  · exact h x (List.mem_of_mem_drop hx)⟩
def parL (ps : List Int) : List D := .non :: ps.map D.int
theorem parL_wf (ps : List Int) (s : Store) : ∀ x ∈ parL ps, Wf s x := fun x hx => (wfs_par ps s).2 _ rfl x hx
theorem parL_len (ps : List Int) : (parL ps).length = ps.length + 1 := by simp [parL]
theorem Wf.kp {c p : Nat} {s s' : Store} {d : D} (h : Wf s d) (k : s.length ≤ s'.length) : Wf s' d := by
  unfold Wf at *
  cases d with
  | loc l =>
    cases q : s[l]? with
    | none => simp [tyN, q] at h
    | some x =>
      have := lt_of_get q
      obtain ⟨y, hy⟩ : ∃ y, s'[l]? = some y := ⟨s'[l]'(by omega), List.getElem?_eq_getElem (by omega)⟩
      cases y <;> simp [tyN, hy]
  | _ => exact h
theorem wf_loc {s : Store} {l : Nat} (h : l < s.length) : Wf s (.loc l) := by
  unfold Wf
  obtain ⟨y, hy⟩ : ∃ y, s[l]? = some y := ⟨s[l], List.getElem?_eq_getElem h⟩
  cases y <;> simp [tyN, hy]
end Law
namespace Law
open PySem Mi
def stL (n : Nat) : List D := [.non, .int 0, .bl true, .str "", .tup [], .loc n, .tup [.int 0], .tup [.non, .non], .tup [.tup []], .str "None", .tup [.loc (n + 1)], .tup [.bl false]]
theorem wfs_of {s : Store} {d : D} (h : Wf s d) (q : ∀ xs, d = .tup xs → ∀ x ∈ xs, Wf s x) : Wfs s d := ⟨h, q⟩
theorem wfs_flat {s : Store} {d : D} (h : Wf s d) (q : ∀ xs, d ≠ .tup xs) : Wfs s d := ⟨h, fun xs e => (q xs e).elim⟩
theorem wfs_tup {s : Store} {xs : List D} (q : ∀ x ∈ xs, Wf s x) : Wfs s (.tup xs) := ⟨rfl, fun ys e => by cases e; exact q⟩
theorem stL_wf {s : Store} {n : Nat} (h : n + 1 < s.length) : ∀ x ∈ stL n, Wfs s x := by
  have a : Wf s (.loc n) := wf_loc (by omega)
  have b : Wf s (.loc (n + 1)) := wf_loc h
  intro x hx
  simp only [stL, List.mem_cons, List.mem_nil_iff, or_false] at hx
  rcases hx with rfl | rfl | rfl | rfl | rfl | rfl | rfl | rfl | rfl | rfl | rfl | rfl
  · exact wfs_flat rfl fun _ e => by cases e
  · exact wfs_flat rfl fun _ e => by cases e
  · exact wfs_flat rfl fun _ e => by cases e
  · exact wfs_flat rfl fun _ e => by cases e
  · exact wfs_tup fun x hx => by cases hx
  · exact wfs_flat a fun _ e => by cases e
  · exact wfs_tup fun x hx => by rw [List.mem_singleton.mp hx]; exact rfl
  · exact wfs_tup fun x hx => by
      rcases List.mem_cons.mp hx with rfl | hx
      · exact rfl
      · rw [List.mem_singleton.mp hx]; exact rfl
  · exact wfs_tup fun x hx => by rw [List.mem_singleton.mp hx]; exact rfl
  · exact wfs_flat rfl fun _ e => by cases e
  · exact wfs_tup fun x hx => by rw [List.mem_singleton.mp hx]; exact b
  · exact wfs_tup fun x hx => by rw [List.mem_singleton.mp hx]; exact rfl
theorem bent_spec {c p : Nat} {s : Store} (hp : Pool c p s) {ps : List Int} (r : RightPs ps) (hn : ps.length ≤ 90) : ∃ d s', m_d_law_bent [.loc p, parD ps] s = .ok d s' ∧ Wfs s' d ∧ Pool c p s' ∧ Kp2 c p s s' := by
  obtain ⟨k, s1, e1, k0, k1, p1, kp1⟩ := draw_spec hp (many := 9) (by omega) (by omega)
  obtain ⟨s2, hs2⟩ : ∃ s2, s2 = s1 ++ [Cell.lst [], Cell.lst [D.non], Cell.lst (stL s1.length)] := ⟨_, rfl⟩
  have x2 : Ext s1 s2 := by rw [hs2]; exact Ext.mk _ _
  have p2 := Ext.pool x2 p1
  have kp2 := kp1.trans (Ext.kp x2 c p)
  have g2 : s2[s1.length + 2]? = some (.lst (stL s1.length)) := by rw [hs2, List.getElem?_append_right (by omega), show s1.length + 2 - s1.length = 2 by omega]; rfl
  have l2 : s2.length = s1.length + 3 := by rw [hs2]; simp
  have wp : parD ps = .tup (parL ps) := rfl
  have hwf := parL_wf ps
  have hpl := parL_len ps
  have wl : ∀ s, dLen [.tup (parL ps)] s = some (.int ((ps.length : Int) + 1), s) := fun s => by simp [hpl]
  by_cases c0 : k = 0
  · have w0 := dLen_loc g2
    rw [show (stL s1.length).length = 12 from rfl] at w0
    obtain ⟨j, s3, e3, j0, j1, p3, kp3⟩ := draw_spec p2 (many := 12) (by omega) (by omega)
    have g3 := kp3.get g2 (by have := p1.lt; omega) (by have := p1.lt; omega)
    obtain ⟨d, hd, wd⟩ := ixL_mem g3 (i := j) j0 (by rw [show (stL s1.length).length = 12 from rfl]; omega)
    have := kp3.1
    refine ⟨d, s3, ?_, stL_wf (by omega) d hd, p3, kp2.trans kp3⟩
    simp only [hs2, stL] at w0 e3 wd
    simp [m_d_law_bent, b_d_law_bent, e1, c0, w0, e3, wd]
  by_cases c1 : k = 1
  · refine ⟨.loc s2.length, s2 ++ [.lst (parL ps)], ?_, wfs_flat (wf_loc (by simp)) (fun _ e => by cases e), Ext.pool (Ext.mk _ _) p2, kp2.trans (Ext.kp (Ext.mk _ _) c p)⟩
    rw [wp]
    generalize parL ps = pl at *
    have w : ∀ s, dList [.tup pl] s = some (.loc s.length, s ++ [.lst pl]) := fun s => rfl
    simp only [hs2, stL]
    simp [m_d_law_bent, b_d_law_bent, e1, c1, w]
  by_cases c2 : k = 2
  · obtain ⟨j, s3, e3, j0, j1, p3, kp3⟩ := draw_spec p2 (many := 5) (by omega) (by omega)
    have z1 : ∀ s, dSl (.tup (parL ps)) none (some (-1)) s = some (.tup (Mi.cutD (parL ps) none (some (-1))), s) := fun s => rfl
    have z2 : ∀ s, dSl (.tup (parL ps)) (some 1) none s = some (.tup (Mi.cutD (parL ps) (some 1) none), s) := fun s => rfl
    have z3 : ∀ s, dAdd (.tup (parL ps)) (.tup [.int 0]) s = some (.tup (parL ps ++ [.int 0]), s) := fun s => dAdd_tup (by simp [hpl]; omega)
    have z4 : ∀ s, dAdd (.tup (parL ps)) (.tup [.non]) s = some (.tup (parL ps ++ [.non]), s) := fun s => dAdd_tup (by simp [hpl]; omega)
    have hmem : ∀ x ∈ [D.tup (Mi.cutD (parL ps) none (some (-1))), .tup (parL ps ++ [.int 0]), .tup (parL ps ++ [.non]), .tup [.tup (parL ps)], .tup (Mi.cutD (parL ps) (some 1) none)], Wfs s3 x := fun x hx => by
      simp only [List.mem_cons, List.mem_nil_iff, or_false] at hx
      rcases hx with rfl | rfl | rfl | rfl | rfl
      · exact wfs_tup fun x hx => hwf s3 x (cut_mem hx)
      · exact wfs_tup fun x hx => by
          rcases List.mem_append.mp hx with hx | hx
          · exact hwf s3 x hx
          · rw [List.mem_singleton.mp hx]; exact rfl
      · exact wfs_tup fun x hx => by
          rcases List.mem_append.mp hx with hx | hx
          · exact hwf s3 x hx
          · rw [List.mem_singleton.mp hx]; exact rfl
      · exact wfs_tup fun x hx => by rw [List.mem_singleton.mp hx]; exact rfl
      · exact wfs_tup fun x hx => hwf s3 x (cut_mem hx)
    obtain ⟨d, hd, wd⟩ := ix_mem (xs := [D.tup (Mi.cutD (parL ps) none (some (-1))), .tup (parL ps ++ [.int 0]), .tup (parL ps ++ [.non]), .tup [.tup (parL ps)], .tup (Mi.cutD (parL ps) (some 1) none)]) (i := j) j0 (by show j < 5; omega)
    refine ⟨d, s3, ?_, hmem d hd, p3, kp2.trans kp3⟩
    rw [wp]
    simp only [hs2, stL] at e3
    generalize Mi.cutD (parL ps) none (some (-1)) = q1 at *
    generalize Mi.cutD (parL ps) (some 1) none = q2 at *
    generalize parL ps ++ [.int 0] = q3 at *
    generalize parL ps ++ [.non] = q4 at *
    generalize parL ps = pl at *
    simp [m_d_law_bent, b_d_law_bent, e1, c2, z1, z2, z3, z4, e3, wd]
  obtain ⟨a, s3, e3, a0, a1, p3, kp3⟩ := draw_spec p2 (many := (ps.length : Int) + 1) (by omega) (by omega)
  obtain ⟨an, rfl⟩ := Int.eq_ofNat_of_zero_le a0
  have kp3' := kp2.trans kp3
  have e3' := e3
  simp only [hs2, stL] at e3'
  by_cases ca : an = 0
  · subst ca
    have x4 := Ext.mk s3 [Cell.lst [D.int 0, .int (-1), .bl false, .str "", .tup []]]
    have p4 := Ext.pool x4 p3
    obtain ⟨j, s5, e5, j0, j1, p5, kp5⟩ := draw_spec p4 (many := 5) (by omega) (by omega)
    have g5 := kp5.get (get_new s3 (.lst [D.int 0, .int (-1), .bl false, .str "", .tup []])) (by have := p3.lt; omega) (by have := p3.lt; omega)
    obtain ⟨d, hd, wd⟩ := ixL_mem g5 (i := j) j0 (by show j < 5; omega)
    have hdw : Wf s5 d := by
      simp only [List.mem_cons, List.mem_nil_iff, or_false] at hd
      rcases hd with rfl | rfl | rfl | rfl | rfl <;> exact rfl
    have wput := put_spec (xs := parL ps) (k := 0) (by omega) (by omega) d s5
    refine ⟨_, s5, ?_, wfs_put 0 (hwf s5) hdw, p5, (kp3'.trans (Ext.kp x4 c p)).trans kp5⟩
    rw [wp]
    have ez : ((0 : Nat) : Int) = 0 := rfl
    have ez2 : Int.ofNat 0 = 0 := rfl
    simp only [ez, ez2] at e3' wput
    generalize putD' (parL ps) 0 d = res at *
    generalize parL ps = pl at *
    simp [m_d_law_bent, b_d_law_bent, e1, c0, c1, c2, wl, e3', e5, wd, wput]
  have ca' : ¬ (an : Int) = 0 := by omega
  by_cases c6 : k < 6
  · obtain ⟨hv0, hv1⟩ := r.get (k := an - 1) (by omega)
    have wx := fun s => par_ix (ps := ps) (k := an - 1) (by omega) s (i := (an : Int)) (by omega)
    rw [wp] at wx
    generalize pr ps (an - 1) = v at *
    have wst : ∀ s, dStr [.int v] s = some (.str (toString v), s) := fun s => by
      have : v.natAbs.log2 < 1920 := Nat.lt_of_le_of_lt (Nat.log2_le_self _) (by omega)
      simp only [dStr]
      rw [if_pos this]
    obtain ⟨od, hod⟩ : ∃ od, od = [D.non, .int (-1), .int an, .int ((an : Int) + 1), .int ((ps.length : Int) + 1), .str (toString v), .tup [.int v], .loc s3.length, .int 1000000000000000000000000000000] := ⟨_, rfl⟩
    have x4 := Ext.mk s3 [Cell.lst [D.int v], Cell.lst od]
    have p4 := Ext.pool x4 p3
    have g4 : (s3 ++ [Cell.lst [D.int v], Cell.lst od])[s3.length + 1]? = some (.lst od) := by rw [List.getElem?_append_right (by omega), show s3.length + 1 - s3.length = 1 by omega]; rfl
    have w0 := dLen_loc g4
    have lod : od.length = 9 := by rw [hod]; rfl
    rw [lod] at w0
    obtain ⟨j, s5, e5, j0, j1, p5, kp5⟩ := draw_spec p4 (many := 9) (by omega) (by omega)
    have g5 := kp5.get g4 (by have := p3.lt; omega) (by have := p3.lt; omega)
    obtain ⟨d, hd, wd⟩ := ixL_mem g5 (i := j) j0 (by rw [lod]; omega)
    have l5 := kp5.1
    rw [List.length_append] at l5
    have hdw : Wf s5 d := by
      rw [hod] at hd
      simp only [List.mem_cons, List.mem_nil_iff, or_false] at hd
      rcases hd with rfl | rfl | rfl | rfl | rfl | rfl | rfl | rfl | rfl <;> first | exact rfl | exact wf_loc (by simp at l5; omega)
    have wput := put_spec (xs := parL ps) (k := an) (by omega) (by omega) d s5
    refine ⟨_, s5, ?_, wfs_put an (hwf s5) hdw, p5, (kp3'.trans (Ext.kp x4 c p)).trans kp5⟩
    rw [wp]
    subst hod
    generalize putD' (parL ps) an d = res at *
    generalize parL ps = pl at *
    generalize (toString v : Str) = vs at *
    clear hv0 hv1 hd l5 lod g4 g5 x4 kp5
    simp [m_d_law_bent, b_d_law_bent, e1, c0, c1, c2, c6, wl, e3', ca', ca, wx, wst, w0, e5, wd, wput]
  · obtain ⟨v, s5, e5, v0, v1, p5, kp5⟩ := draw_spec p3 (many := (an : Int)) (by omega) (by omega)
    have wput := put_spec (xs := parL ps) (k := an) (by omega) (by omega) (.int v) s5
    refine ⟨_, s5, ?_, wfs_put an (hwf s5) (show Wf s5 (.int v) from rfl), p5, kp3'.trans kp5⟩
    rw [wp]
    generalize putD' (parL ps) an (.int v) = res at *
    generalize parL ps = pl at *
    simp [m_d_law_bent, b_d_law_bent, e1, c0, c1, c2, c6, wl, e3', ca', ca, e5, wput]
end Law
namespace Law
open PySem Mi
theorem par_put (ps : List Int) {k : Nat} (h1 : 1 ≤ k) (h2 : k ≤ ps.length) (b : Bool) (n : Nat) (hn : n = ps.length + 1) : isPar n (putD' (parL ps) k (.bl b)) = false := by
  obtain ⟨j, rfl⟩ : ∃ j, k = j + 1 := ⟨k - 1, by omega⟩
  have e : putD' (parL ps) (j + 1) (.bl b) = .tup (.non :: ((ps.map D.int).take j ++ [.bl b] ++ (ps.map D.int).drop (j + 1))) := rfl
  rw [e]
  simp only [isPar, Bool.and_eq_false_iff]
  right
  rw [List.all_eq_false]
  refine ⟨j, List.mem_range.mpr (by omega), ?_⟩
  rw [List.getD_eq_getElem?_getD, List.append_assoc, List.getElem?_append_right (by simp; omega)]
  have : j - ((ps.map D.int).take j).length = 0 := by simp; omega
  rw [this]
  simp [okAt]
def EnvI (c0 : D) (p : Nat) (n ct : Nat) (ps : List Int) (lw M : Nat) (hd told : D) (env : Sl) : Prop := ∃ o4 o10 o11 o12 o13 o14 o15 o16 o17, env = [some c0, some (.loc p), some (.int n), some (.int ct), o4, some (parD ps), some (.loc lw), some (.loc M), some hd, some told, o10, o11, o12, o13, o14, o15, o16, o17]
theorem l4_loop {c0 : D} {p n ct lw M : Nat} {ps : List Int} {hd told : D} {Hs : List (List Str)} (w : Hou hd Hs) (r : RightPs ps) (hl : ps.length + 1 = Hs.length) (hn : ps.length ≤ 90) {s : Store} {env : Sl} (h : EnvI c0 p n ct ps lw M hd told env) :
    ∃ env', forL always (gN 4) bl_law_4 (rng2 1 ps.length) env s = .nx env' s ∧ EnvI c0 p n ct ps lw M hd told env' := by
  obtain ⟨env', s', e, he, rfl⟩ := forL_atT (gd := always) (g := gN 4) (b := bl_law_4) (rng2 1 ps.length) (fun _ env s' => EnvI c0 p n ct ps lw M hd told env ∧ s' = s) (fun _ _ _ _ => trivial)
    (fun k d env s' hk ⟨⟨o4, o10, o11, o12, o13, o14, o15, o16, o17, he⟩, hs'⟩ => by
      subst he hs'
      obtain ⟨hlt, rfl⟩ := rng2_get hk
      have wx := fun s => par_ix (ps := ps) (k := k) hlt s (i := 1 + (k : Nat)) (by omega)
      have wput := put_spec (xs := parL ps) (k := k + 1) (by rw [parL_len]; omega) (by rw [parL_len]; omega) (.bl (decide (pr ps k = 1))) s'
      rw [show ((k + 1 : Nat) : Int) = 1 + (k : Nat) by omega] at wput
      have wask := bad_spec w (wfs_put (s := s') (k + 1) (parL_wf ps s') (show Wf s' (.bl (decide (pr ps k = 1))) from rfl)) (par_put ps (by omega) (by omega) (decide (pr ps k = 1)) Hs.length hl.symm)
      have wp : parD ps = .tup (parL ps) := rfl
      rw [wp] at wx ⊢
      have fin : ∀ o4 o10, EnvI c0 p n ct ps lw M hd told [some c0, some (.loc p), some (.int n), some (.int ct), o4, some (.tup (parL ps)), some (.loc lw), some (.loc M), some hd, some told, o10, o11, o12, o13, o14, o15, o16, o17] := fun o4 o10 => ⟨_, _, _, _, _, _, _, _, _, rfl⟩
      generalize putD' (parL ps) (k + 1) (.bl (decide (pr ps k = 1))) = res at *
      generalize parL ps = pl at *
      generalize hv : pr ps k = v at *
      have fin2 := fun o4 o10 => (show EnvI c0 p n ct ps lw M hd told [some c0, some (.loc p), some (.int n), some (.int ct), o4, some (.tup pl), some (.loc lw), some (.loc M), some hd, some told, o10, o11, o12, o13, o14, o15, o16, o17] ∧ s' = s' from ⟨fin o4 o10, rfl⟩)
      by_cases c : v < 2
      · simp [bl_law_4, wx, c, wput, wask, outD, dIx_tup]
        exact fin _ _
      · simp [bl_law_4, wx, c]
        exact fin _ _) (env := env) (s := s) ⟨h, rfl⟩
  exact ⟨env', e, he⟩
theorem l3_loop {c0 : D} {c p n ct lw M : Nat} {ps : List Int} {hd told : D} {Hs : List (List Str)} (w : Hou hd Hs) (r : RightPs ps) (hn : ps.length ≤ 90) {s0 s : Store} (hp : Pool c p s) (k0 : Kp2 c p s0 s) {env : Sl} (h : EnvI c0 p n ct ps lw M hd told env) :
    ∃ env' s', forL always (gN 11) bl_law_3 (rng 4) env s = .nx env' s' ∧ EnvI c0 p n ct ps lw M hd told env' ∧ Pool c p s' ∧ Kp2 c p s0 s' := by
  obtain ⟨env', s', e, he, hp', kp'⟩ := forL_atT (gd := always) (g := gN 11) (b := bl_law_3) (rng 4) (fun _ env s' => EnvI c0 p n ct ps lw M hd told env ∧ Pool c p s' ∧ Kp2 c p s0 s') (fun _ _ _ _ => trivial)
    (fun k d env s' hk ⟨⟨o4, o10, o11, o12, o13, o14, o15, o16, o17, he⟩, hp, kp⟩ => by
      subst he
      obtain ⟨d2, s2, e2, wd, p2, kp2⟩ := bent_spec hp r hn
      obtain ⟨s3, e3, x3⟩ := right_spec w wd
      simp [bl_law_3, e2, e3]
      exact ⟨⟨_, _, _, _, _, _, _, _, _, rfl⟩, Ext.pool x3 p2, (kp.trans kp2).trans (Ext.kp x3 c p)⟩) (env := env) (s := s) ⟨h, hp, k0⟩
  exact ⟨env', s', e, he, hp', kp'⟩
/-- [list(row) for row in members] -/
theorem copy_rows {c p M : Nat} {ls : List Nat} {R : List (List Str)} {s : Store} (h : Rows c p M ls R s) (hp : Pool c p s) (hz : R.length ≤ 100) (e0 e1 e2 e3 e4 e5 e6 e7 e8 e9 e10 e11 e12 e13 e14 e15 e16 : Option D) :
    ∃ acc s1, lcL (fun s2 => s2[M]? = some (.lst (ls.map D.loc))) (gN 17) tT le_law_1 [e0, e1, e2, e3, e4, e5, e6, e7, e8, e9, e10, e11, e12, e13, e14, e15, e16, none] (ls.map D.loc) [] s = .ok acc s1 ∧ Ext s s1 ∧ Rows c p s1.length (List.range' s.length R.length) R (s1 ++ [.lst acc]) := by
  have hlt := hp.lt
  obtain ⟨acc, s1, e, rfl, rfl⟩ := lcL_at (gd := fun s2 => s2[M]? = some (.lst (ls.map D.loc))) (g := gN 17) (t := tT) (e := le_law_1) (env := [e0, e1, e2, e3, e4, e5, e6, e7, e8, e9, e10, e11, e12, e13, e14, e15, e16, none]) (ls.map D.loc)
    (fun k acc s' => acc = (List.range' s.length k).map D.loc ∧ s' = s ++ (List.range k).map fun i => .lst ((hs R i).map D.str)) (fun k acc s' ⟨_, e⟩ => by rw [e]; exact (Ext.mk _ _).get h.top)
    (fun k d acc s' hk ⟨ha, hs'⟩ => by
      subst ha hs'
      obtain ⟨l, hlk, rfl⟩ := map_get hk
      obtain ⟨hkl, hke⟩ := List.getElem?_eq_some_iff.mp hlk
      have hr := h.row k hkl
      rw [hke] at hr
      have g := (Ext.mk s ((List.range k).map fun i => Cell.lst ((hs R i).map D.str))).get hr
      have w : dList [.loc l] (s ++ (List.range k).map fun i => .lst ((hs R i).map D.str)) = some (.loc (s.length + k), s ++ (List.range (k + 1)).map fun i => .lst ((hs R i).map D.str)) := by
        simp only [dList, seqOf, lstOf, g, Option.map_some]
        rw [List.range_succ, List.map_append, ← List.append_assoc]
        simp
      have hkR : k < R.length := by rw [← h.len]; exact hkl
      generalize (s ++ (List.range k).map fun i => Cell.lst ((hs R i).map D.str)) = s1 at *
      simp [le_law_1, tT, w]
      exact ⟨by omega, by rw [List.range'_concat]; simp⟩) (acc := []) (s := s) ⟨rfl, by simp⟩
  rw [List.length_map, h.len] at e
  have hL : (s ++ (List.range R.length).map fun i => Cell.lst ((hs R i).map D.str)).length = s.length + R.length := by simp
  refine ⟨_, _, e, Ext.mk _ _, ⟨get_new _ _, by simp, fun i hi => ?_, List.nodup_range', ⟨fun m => ?_, fun m => ?_, fun m => ?_⟩, by omega, by omega⟩⟩
  · rw [List.length_range'] at hi
    rw [List.getElem_range', Nat.one_mul, List.getElem?_append_left (by omega), List.getElem?_append_right (by omega), show s.length + i - s.length = i by omega, List.getElem?_map, List.getElem?_range hi]
    rfl
  · have := List.mem_range'_1.mp m; omega
  · have := List.mem_range'_1.mp m; omega
  · have := List.mem_range'_1.mp m; omega
theorem l2_loop {c0 : D} {c p n ct lw M : Nat} {ls : List Nat} {R : List (List Str)} {W : List Str} {ps : List Int} {hd told : D} (r : RightPs ps) (hn : ps.length ≤ 90) (hnl : n = ps.length + 1) (hRl : R.length = n) (hRs : ∀ i, (hs R i).length ≤ 500) (hW : W.length = ct) (hct : 1 ≤ ct) (hct2 : ct ≤ 100) (nw : lw ≠ p ∧ lw ≠ c) {s : Store} (hp : Pool c p s) (hrow : Rows c p M ls R s) (hw : s[lw]? = some (.lst (W.map D.str))) {env : Sl} (h : EnvI c0 p n ct ps lw M hd told env) :
    ∃ env' s', forL always (gN 11) bl_law_2 (rng 3) env s = .nx env' s' ∧ EnvI c0 p n ct ps lw M hd told env' ∧ Pool c p s' ∧ Kp2 c p s s' := by
  obtain ⟨env', s', e, he, hp', kp'⟩ := forL_atT (gd := always) (g := gN 11) (b := bl_law_2) (rng 3) (fun _ env s' => EnvI c0 p n ct ps lw M hd told env ∧ Pool c p s' ∧ Kp2 c p s s') (fun _ _ _ _ => trivial)
    (fun k d env s' hk ⟨⟨o4, o10, o11, o12, o13, o14, o15, o16, o17, he⟩, hp, kp⟩ => by
      subst he
      obtain ⟨pl, s2, e2, pl0, pl1, p2, kp2⟩ := draw_spec hp (many := (n : Int)) (by omega) (by omega)
      obtain ⟨j, s3, e3, j0, j1, p3, kp3⟩ := draw_spec p2 (many := (ct : Int)) (by omega) (by omega)
      have k3 := (kp.trans kp2).trans kp3
      have g3 := k3.get hw nw.1 nw.2
      obtain ⟨w, _, _, ww⟩ := ixL_map g3 j0 (by omega)
      have r3 := hrow.kp k3
      obtain ⟨hi, wi⟩ := r3.ix (i := pl) pl0 (by omega)
      have hr := r3.row _ hi
      have wn := dNotIn_of (dInB_locS hr w)
      rw [turn_gN]
      show Turns _ _ (bl_law_2 [some c0, some (.loc p), some (.int n), some (.int ct), o4, some (parD ps), some (.loc lw), some (.loc M), some hd, some told, o10, some d, o12, o13, o14, o15, o16, o17] s')
      by_cases cw : w ∈ hs R pl.toNat
      · rw [decide_eq_true cw] at wn
        simp [bl_law_2, e2, e3, ww, wi, wn]
        exact ⟨⟨_, _, _, _, _, _, _, _, _, rfl⟩, p3, k3⟩
      · rw [decide_eq_false cw] at wn
        obtain ⟨acc, s4, e4, x4, r4⟩ := copy_rows r3 p3 (by omega) (some c0) (some (.loc p)) (some (.int n)) (some (.int ct)) o4 (some (parD ps)) (some (.loc lw)) (some (.loc M)) (some hd) (some told) o10 (some d) (some (.int pl)) (some (.str w)) o14 o15 o16
        have x5 := x4.trans (Ext.mk s4 [.lst acc])
        have p5 := Ext.pool x5 p3
        have top3 := r3.top
        obtain ⟨s5, hs5⟩ : ∃ s5, s5 = s4 ++ [Cell.lst acc] := ⟨_, rfl⟩
        rw [← hs5] at r4 x5 p5
        obtain ⟨hi5, wi5⟩ := r4.ix (i := pl) pl0 (by omega)
        have hr5 := r4.row _ hi5
        have b500 := hRs pl.toNat
        have wt := tyOk_list hr5
        have wa := dAppend_loc hr5 (by rw [List.length_map]; omega) (.str w)
        have r6 := r4.add hi5 w
        have nl5 : (List.range' s3.length R.length)[pl.toNat] ∈ List.range' s3.length R.length := List.getElem_mem hi5
        have p6 := p5.set (fun e => r4.off.2.1 (e ▸ nl5)) (fun e => r4.off.2.2 (e ▸ nl5)) (.lst ((hs R pl.toNat).map D.str ++ [.str w]))
        have k6 : Kp2 c p s3 (s5.set (List.range' s3.length R.length)[pl.toNat] (.lst ((hs R pl.toNat).map D.str ++ [.str w]))) := by
          have z := Ext.kp x5 c p
          have := (List.mem_range'_1.mp nl5).1
          exact ⟨by rw [List.length_set]; exact z.1, fun l hl a b => by rw [List.getElem?_set_ne (by omega)]; exact z.2 l hl a b⟩
        generalize hs6 : s5.set (List.range' s3.length R.length)[pl.toNat] (.lst ((hs R pl.toNat).map D.str ++ [.str w])) = s6 at *
        generalize (List.range' s3.length R.length)[pl.toNat] = lr at *
        have hA : ∀ i, (hs (addW R pl.toNat w) i).length ≤ 1000 := fun i => by
          rw [addW, hs_set (by omega)]
          split
          · rw [List.length_append, List.length_singleton]; omega
          · have := hRs i; omega
        obtain ⟨hd7, s7, H7, e7, p7, kp7, w7, l7, _⟩ := houses_spec r6 p6 (by rw [addW_len]; omega) (by rw [addW_len]; omega) hA
        obtain ⟨s8, e8, x8⟩ := right_spec w7 (wfs_par ps s7)
        have p8 := Ext.pool x8 p7
        obtain ⟨d9, s9, e9, wd9, p9, kp9⟩ := bent_spec p8 r hn
        obtain ⟨s10, e10, x10⟩ := right_spec w7 wd9
        have fin : EnvI c0 p n ct ps lw M hd told [some c0, some (.loc p), some (.int n), some (.int ct), o4, some (parD ps), some (.loc lw), some (.loc M), some hd, some told, o10, some d, some (.int pl), some (.str w), some (.loc s4.length), some hd7, o16, o17] ∧ Pool c p s10 ∧ Kp2 c p s s10 :=
          ⟨⟨_, _, _, _, _, _, _, _, _, rfl⟩, Ext.pool x10 p9, k3.trans (k6.trans (kp7.trans ((Ext.kp x8 c p).trans (kp9.trans (Ext.kp x10 c p)))))⟩
        clear r6 hA w7 hs6 k6
        generalize parD ps = pd at *
        generalize ls.map D.loc = ld at *
        simp [bl_law_2, e2, e3, ww, wi, wn, top3, e4]
        simp [← hs5, wi5, wt, wa, e7, e8, e9, e10]
        exact fin) (env := env) (s := s) ⟨h, hp, Kp2.refl c p s⟩
  exact ⟨env', s', e, he, hp', kp'⟩
end Law
namespace Law
open PySem Mi
noncomputable def b_rest : MS := (sSeq (sSet 5 (e2 dAdd (eTup (aCons (eC .non) (aNil))) (eFn dTuple (aCons (eLc (iRange2 (aCons (eC (.int 1)) (aCons (eV 2) (aNil)))) [4] (gN 4) (tT) (le_law_5)) (aNil)))))
  (sSeq (sSet 6 (eCall m_d_law_words (aCons (eV 1) (aCons (eV 3) (aNil)))))
  (sSeq (sSet 7 (eCall m_d_law_members (aCons (eV 1) (aCons (eV 5) (aCons (eV 6) (aNil))))))
  (sSeq (sSet 8 (eCall m_d_law_houses (aCons (eV 1) (aCons (eV 7) (aNil)))))
  (sSeq (sSet 9 (eCall m_d_law_ask (aCons (eV 8) (aCons (eV 5) (aNil)))))
  (sSeq (sIf (tOr (tV (e2 dNe (e2 dIx (eV 9) (eC (.int 0))) (eC (.str "good")))) (tNot (tTru (eCall m_d_law_right (aCons (eV 8) (aCons (eV 5) (aNil))))))) (sRet (eC (.bl false))) (sNil))
  (sSeq (sFor (iRange2 (aCons (eC (.int 1)) (aCons (eV 2) (aNil)))) (gN 4) (bl_law_4))
  (sSeq (sFor (iRange1 (aCons (eC (.int 4)) (aNil))) (gN 11) (bl_law_3))
  (sSeq (sFor (iRange1 (aCons (eC (.int 3)) (aNil))) (gN 11) (bl_law_2))
  (sSeq (sSet 16 (eTup (aCons (eTup (aCons (eC (.int 0)) (aCons (eC (.int 9)) (aCons (eTup (aCons (eC (.str "x")) (aNil))) (aCons (eTup (aNil)) (aNil)))))) (aCons (eTup (aCons (eC (.int 0)) (aCons (eC (.int 9)) (aCons (eTup (aNil)) (aCons (eTup (aNil)) (aNil)))))) (aCons (eTup (aCons (eC (.int 0)) (aCons (eC (.int 9)) (aCons (eTup (aCons (eC (.str "x")) (aNil))) (aCons (eTup (aNil)) (aNil)))))) (aNil))))))
  (sSeq (sIf (tNot (tTru (eCall m_d_law_right (aCons (eV 16) (aCons (eTup (aCons (eC .non) (aCons (eC (.int 0)) (aCons (eCall m_d_law_draw (aCons (eV 1) (aCons (eC (.int 2)) (aNil)))) (aNil))))) (aNil)))))) (sRet (eC (.bl false))) (sNil))
  (sRet (eCall m_d_law_right (aCons (eV 8) (aCons (e2 dAdd (eTup (aCons (eC (.int 0)) (aNil))) (eSl dSl (eV 5) (oSome (eC (.int 1))) (oNone))) (aNil))))))))))))))))
theorem b_law_eq : b_law = sSeq (sSet 1 (eCall m_d_law_pool (aCons (eV 0) (aNil))))
  (sSeq (sSet 2 (e2 dIx (eLst (aCons (eC (.int 2)) (aCons (eC (.int 3)) (aCons (eC (.int 3)) (aCons (eC (.int 4)) (aCons (eC (.int 5)) (aCons (eC (.int 8)) (aCons (eC (.int 1)) (aNil))))))))) (eCall m_d_law_draw (aCons (eV 1) (aCons (eC (.int 7)) (aNil))))))
  (sSeq (sSet 3 (e2 dAdd (eC (.int 1)) (eCall m_d_law_draw (aCons (eV 1) (aCons (eC (.int 7)) (aNil))))))
  (sSeq (sIf (tV (e2 dEq (eCall m_d_law_draw (aCons (eV 1) (aCons (eC (.int 7)) (aNil)))) (eC (.int 6)))) (sSeq (sSet 2 (e2 dAdd (eC (.int 5)) (eCall m_d_law_draw (aCons (eV 1) (aCons (eC (.int 4)) (aNil))))))
  (sSet 3 (e2 dAdd (eC (.int 25)) (eCall m_d_law_draw (aCons (eV 1) (aCons (eC (.int 16)) (aNil))))))) (sNil))
  b_rest))) := rfl
theorem draws {c p : Nat} {s : Store} (h : Pool c p s) {m : Nat} (hm : m ≤ 90) (e0 e1 e2 e3 : Option D) (rst : Sl) :
    ∃ ps : List Int, ps.length = m ∧ RightPs ps ∧ ∃ s', lcL always (gN 4) tT le_law_5 (e0 :: some (.loc p) :: e2 :: e3 :: none :: rst) (rng2 1 m) [] s = .ok (ps.map D.int) s' ∧ Pool c p s' := by
  obtain ⟨acc, s', e, ps, hl, hr, rfl, hp⟩ := lcL_at (gd := always) (g := gN 4) (t := tT) (e := le_law_5) (env := e0 :: some (.loc p) :: e2 :: e3 :: none :: rst) (rng2 1 m) (fun k acc s' => ∃ ps : List Int, ps.length = k ∧ RightPs ps ∧ acc = ps.map D.int ∧ Pool c p s') (fun _ _ _ _ => trivial)
    (fun k d acc s' hk ⟨ps, hl, hr, ha, hp⟩ => by
      subst ha
      obtain ⟨hlt, rfl⟩ := rng2_get hk
      obtain ⟨v, s2, e, v0, v1, p2, _⟩ := draw_spec hp (many := 1 + (k : Nat)) (by omega) (by omega)
      simp [le_law_5, tT, e]
      refine ⟨by omega, ps ++ [v], by simp [hl], fun j hj => ?_, by simp, p2⟩
      rw [List.length_append, List.length_singleton] at hj
      by_cases c : j < ps.length
      · rw [List.getElem_append_left c]
        exact hr j c
      · rw [List.getElem_append_right (by omega)]
        simp only [List.getElem_singleton]
        omega) (acc := []) (s := s) ⟨[], rfl, fun j hj => absurd hj (Nat.not_lt_zero j), rfl, h⟩
  rw [rng2_len] at hl
  exact ⟨ps, hl, hr, s', e, hp⟩
def loneD : D := .tup [.tup [.int 0, .int 9, .tup [.str "x"], .tup []], .tup [.int 0, .int 9, .tup [], .tup []], .tup [.int 0, .int 9, .tup [.str "x"], .tup []]]
theorem lone_hou : Hou loneD [["x"], [], ["x"]] := by
  refine ⟨⟨_, rfl, rfl, fun i h h2 => ?_⟩, by decide, by decide, fun ds h => ?_⟩
  · match i, h, h2 with
    | 0, _, _ => exact ⟨_, _, _, rfl⟩
    | 1, _, _ => exact ⟨_, _, _, rfl⟩
    | 2, _, _ => exact ⟨_, _, _, rfl⟩
  · simp at h
    rcases h with rfl | rfl | rfl <;> simp
theorem rest_true (c0 : D) {c p : Nat} {s : Store} (h : Pool c p s) {n ct : Nat} (n1 : 1 ≤ n) (n2 : n ≤ 8) (c1 : 1 ≤ ct) (c2 : ct ≤ 40) : Yes (b_rest [some c0, some (.loc p), some (.int n), some (.int ct), none, none, none, none, none, none, none, none, none, none, none, none, none, none] s) := by
  obtain ⟨ps, hl, r, s1, e1, p1⟩ := draws h (m := n - 1) (by omega) (some c0) none (some (.int n)) (some (.int ct)) [none, none, none, none, none, none, none, none, none, none, none, none, none]
  have wr := fun s => range2_int 1 (n : Int) s (by omega) (by omega) (by omega) (by omega)
  rw [show ((n : Int) - 1).toNat = n - 1 by omega] at wr
  have wt := dTuple_loc (get_new s1 (.lst (ps.map D.int)))
  have wa : ∀ s, dAdd (.tup [.non]) (.tup (ps.map D.int)) s = some (parD ps, s) := fun s => by rw [dAdd_tup (by simp; omega)]; rfl
  have p2 := p1.app [.lst (ps.map D.int)]
  unfold b_rest
  refine st_set (d := parD ps) (s' := s1 ++ [.lst (ps.map D.int)]) ?_ ?_
  · generalize ps.map D.int = pd at *
    simp [wr, e1, wt, wa, -rangeOf2_int]
  generalize s1 ++ [Cell.lst (ps.map D.int)] = s2 at *
  obtain ⟨lw, s3, W, e3, g3, hW, nd, lwl, p3, kp3⟩ := words_spec p2 (n := ct) (by omega)
  have nw : lw ≠ p ∧ lw ≠ c := ⟨Nat.ne_of_gt (Nat.lt_of_lt_of_le p2.lt.1 lwl), Nat.ne_of_gt (Nat.lt_of_lt_of_le p2.lt.2 lwl)⟩
  refine st_set (d := .loc lw) (s' := s3) (by simp [e3]) ?_
  obtain ⟨M, ls, s4, R, e4, r4, p4, k4, hRl, hRs, hL⟩ := members_spec r (by omega) nd (by omega) p3 g3 nw.1 nw.2
  refine st_set (d := .loc M) (s' := s4) (by simp [e4]) ?_
  obtain ⟨hd, s5, Hs, e5, p5, k5, w5, hHl, hPm⟩ := houses_spec r4 p4 (by omega) (by omega) (fun i => by have := hRs i; omega)
  refine st_set (d := hd) (s' := s5) (by simp [e5]) ?_
  have hT : AllTied Hs ps := by
    refine allTied_of (by omega) r fun d => ?_
    rw [show (fun i : Int => 0 ≤ i ∧ i < Hs.length ∧ d ∈ hs Hs i.toNat) = fun i : Int => 0 ≤ i ∧ i < R.length ∧ d ∈ hs R i.toNat from funext fun i => propext (by rw [hHl, (hPm i.toNat).mem_iff])]
    exact hL d
  obtain ⟨s6, e6, x6⟩ : ∃ s6, m_d_law_ask [hd, parD ps] s5 = .ok (outD true Hs.length) s6 ∧ Ext s5 s6 := by
    rcases ask_spec w5 r (by omega) s5 with ⟨_, q⟩ | ⟨k, hk, _⟩
    · exact q
    · exact (first_all hk hT).elim
  refine st_set (d := outD true Hs.length) (s' := s6) (by simp [e6]) ?_
  obtain ⟨s7, e7, x7⟩ := right_spec w5 (wfs_par ps s6)
  have p7 := Ext.pool x7 (Ext.pool x6 p5)
  have wo : ∀ s, dIx (outD true Hs.length) (.int 0) s = some (.str "good", s) := fun s => by simp [outD, dIx_tup]
  refine st_no (s' := s7) (by simp [wo, e7]) ?_
  have k7 := (k5.trans (Ext.kp x6 c p)).trans (Ext.kp x7 c p)
  simp only [List.set_cons_succ, List.set_cons_zero]
  have en0 : EnvI c0 p n ct ps lw M hd (outD true Hs.length) [some c0, some (.loc p), some (.int n), some (.int ct), none, some (parD ps), some (.loc lw), some (.loc M), some hd, some (outD true Hs.length), none, none, none, none, none, none, none, none] := ⟨_, _, _, _, _, _, _, _, _, rfl⟩
  obtain ⟨env8, e8, en8⟩ := l4_loop w5 r (by omega) (by omega) (s := s7) en0
  rw [hl] at e8
  refine st_for (x := ⟨rng2 1 (n - 1), always⟩) (s' := s7) (by simp [wr, -rangeOf2_int]) e8 ?_
  obtain ⟨env9, s9, e9, en9, p9, k9⟩ := l3_loop w5 r (by omega) p7 (Kp2.refl c p s7) en8
  refine st_for (x := ⟨rng 4, always⟩) (s' := s7) (by have := rangeOf_int s7 4 (by omega) (by omega); simpa using this) e9 ?_
  have r9 := (r4.kp k7).kp k9
  have g9 := k9.get (k7.get (k4.get g3 nw.1 nw.2) nw.1 nw.2) nw.1 nw.2
  obtain ⟨env10, s10, e10, ⟨a4, a10, a11, a12, a13, a14, a15, a16, a17, rfl⟩, p10, k10⟩ := l2_loop r (by omega) (by omega) (by omega) hRs hW c1 (by omega) nw p9 r9 g9 en9
  refine st_for (x := ⟨rng 3, always⟩) (s' := s9) (by have := rangeOf_int s9 3 (by omega) (by omega); simpa using this) e10 ?_
  refine st_set (d := loneD) (s' := s10) (by simp [loneD]) ?_
  simp only [List.set_cons_succ, List.set_cons_zero]
  obtain ⟨v, s11, e11, v0, v1, p11, k11⟩ := draw_spec p10 (many := 2) (by omega) (by omega)
  obtain ⟨s12, e12, x12⟩ := right_spec lone_hou (d := .tup [.non, .int 0, .int v]) (s := s11) (wfs_tup fun x hx => by
    simp at hx
    rcases hx with rfl | rfl | rfl <;> exact rfl)
  refine st_no (s' := s12) (by simp [e11, e12]) ?_
  have wc : dSl (parD ps) (some 1) none s12 = some (.tup (Mi.cutD (parL ps) (some 1) none), s12) := rfl
  have wb : dAdd (.tup [.int 0]) (.tup (Mi.cutD (parL ps) (some 1) none)) s12 = some (.tup ([.int 0] ++ Mi.cutD (parL ps) (some 1) none), s12) := dAdd_tup (by
    have := Mi.cut_len (parL ps) (some 1) none
    rw [parL_len] at this
    rw [List.length_singleton]
    omega)
  obtain ⟨s13, e13, x13⟩ := right_spec w5 (d := .tup ([.int 0] ++ Mi.cutD (parL ps) (some 1) none)) (s := s12) (wfs_tup fun x hx => by
    rcases List.mem_append.mp hx with hx | hx
    · rw [List.mem_singleton.mp hx]; exact rfl
    · exact parL_wf ps s12 x (cut_mem hx))
  refine st_ret (d := .bl true) (s' := s13) ?_ ⟨_, rfl⟩
  generalize Mi.cutD (parL ps) (some 1) none = q at *
  generalize [D.int 0] ++ q = q2 at *
  simp [wc, wb, e13]
theorem law_true (ns : List Int) (hn : ns.length ≤ 63) : ∃ s, m_law [.fl (ns.map D.int)] [] = .ok (.bl true) s := by
  obtain ⟨c, p, s1, e1, h1⟩ := pool_spec ns hn
  obtain ⟨k2, s2, e2, k20, k21, h2, kp2⟩ := draw_spec (h1.app [.lst [.int 2, .int 3, .int 3, .int 4, .int 5, .int 8, .int 1]]) (many := 7) (by omega) (by omega)
  obtain ⟨z, hz, _, wz⟩ := ixL_map (f := D.int) (xs := [2, 3, 3, 4, 5, 8, 1]) (kp2.get (get_new s1 (.lst [.int 2, .int 3, .int 3, .int 4, .int 5, .int 8, .int 1])) (Nat.ne_of_gt h1.lt.1) (Nat.ne_of_gt h1.lt.2)) k20 (by show k2 < 7; omega)
  have hz' : 1 ≤ z ∧ z ≤ 8 := by simp at hz; omega
  obtain ⟨k3, s3, e3, k30, k31, h3, kp3⟩ := draw_spec h2 (many := 7) (by omega) (by omega)
  obtain ⟨k4, s4, e4, k40, k41, h4, kp4⟩ := draw_spec h3 (many := 7) (by omega) (by omega)
  refine Yes.fn (N := 18) (n := 1) (b := b_law) (ds := [.fl (ns.map D.int)]) ?_
  rw [b_law_eq]
  generalize D.fl (ns.map D.int) = c0 at *
  refine st_set (d := .loc p) (s' := s1) (by simp [e1]) ?_
  refine st_set (d := .int z) (s' := s2) (by simp [e2, wz]) ?_
  refine st_set (d := .int (1 + k3)) (s' := s3) (by simp [e3]) ?_
  by_cases c4 : k4 = 6
  · obtain ⟨k5, s5, e5, k50, k51, h5, kp5⟩ := draw_spec h4 (many := 4) (by omega) (by omega)
    obtain ⟨k6, s6, e6, k60, k61, h6, kp6⟩ := draw_spec h5 (many := 16) (by omega) (by omega)
    refine st_yes (s' := s4) (env2 := [some c0, some (.loc p), some (.int (5 + k5)), some (.int (25 + k6)), none, none, none, none, none, none, none, none, none, none, none, none, none, none]) (s2 := s6) (by simp [e4, c4]) (by simp [e5, e6]) ?_
    obtain ⟨n, hn⟩ := Int.eq_ofNat_of_zero_le (show 0 ≤ 5 + k5 by omega)
    obtain ⟨m, hm⟩ := Int.eq_ofNat_of_zero_le (show 0 ≤ 25 + k6 by omega)
    rw [hn, hm]
    exact rest_true c0 h6 (by omega) (by omega) (by omega) (by omega)
  · refine st_no (s' := s4) (by simp [e4, c4]) ?_
    obtain ⟨n, rfl⟩ := Int.eq_ofNat_of_zero_le (show 0 ≤ z by omega)
    obtain ⟨m, hm⟩ := Int.eq_ofNat_of_zero_le (show 0 ≤ 1 + k3 by omega)
    rw [hm]
    exact rest_true c0 h4 (n := n) (ct := m) (by omega) (by omega) (by omega) (by omega)
end Law
namespace Law
open PySem PySem.Spec PyProof.Rows L2 Mi
theorem all_mk {P : Program} {w : World} {K : PySem.W.Frag} {h : Heap} {mg : Str → Option Value} {fa : Addr} (X : K.In h) (G : h.Ns mainGlobals mg) (hfa : mg "law" = some (.ref fa))
  {f_is_integer : Addr} {od_is_integer an_is_integer : Option Addr} {sl_is_integer : Array (Option Value)} {oc_is_integer kV_is_integer dc_is_integer pm_is_integer cd_is_integer ct_is_integer : Value} (a_is_integer : PySem.W.nsIn K mainGlobals "is_integer" = some (some (.ref f_is_integer))) (l_is_integer : K.lookup f_is_integer = some ⟨oc_is_integer, od_is_integer, .func (PySem.W.fnOf "is_integer" "is_integer" (defArgs s_is_integer) (defBody s_is_integer) (defScope s_is_integer) .none kV_is_integer dc_is_integer pm_is_integer an_is_integer cd_is_integer ct_is_integer), sl_is_integer⟩) (c_is_integer : PySem.W.codeIn K cd_is_integer "is_integer" = true) (k_is_integer : PySem.W.keepIn K (.ref f_is_integer) = true)
  {f_houses_under : Addr} {od_houses_under an_houses_under : Option Addr} {sl_houses_under : Array (Option Value)} {oc_houses_under kV_houses_under dc_houses_under pm_houses_under cd_houses_under ct_houses_under : Value} (a_houses_under : PySem.W.nsIn K mainGlobals "houses_under" = some (some (.ref f_houses_under))) (l_houses_under : K.lookup f_houses_under = some ⟨oc_houses_under, od_houses_under, .func (PySem.W.fnOf "houses_under" "houses_under" (defArgs s_houses_under) (defBody s_houses_under) (defScope s_houses_under) .none kV_houses_under dc_houses_under pm_houses_under an_houses_under cd_houses_under ct_houses_under), sl_houses_under⟩) (c_houses_under : PySem.W.codeIn K cd_houses_under "houses_under" = true) (k_houses_under : PySem.W.keepIn K (.ref f_houses_under) = true)
  {f_are_parents : Addr} {od_are_parents an_are_parents : Option Addr} {sl_are_parents : Array (Option Value)} {oc_are_parents kV_are_parents dc_are_parents pm_are_parents cd_are_parents ct_are_parents : Value} (a_are_parents : PySem.W.nsIn K mainGlobals "are_parents" = some (some (.ref f_are_parents))) (l_are_parents : K.lookup f_are_parents = some ⟨oc_are_parents, od_are_parents, .func (PySem.W.fnOf "are_parents" "are_parents" (defArgs s_are_parents) (defBody s_are_parents) (defScope s_are_parents) .none kV_are_parents dc_are_parents pm_are_parents an_are_parents cd_are_parents ct_are_parents), sl_are_parents⟩) (c_are_parents : PySem.W.codeIn K cd_are_parents "are_parents" = true) (k_are_parents : PySem.W.keepIn K (.ref f_are_parents) = true)
  {f_is_tied : Addr} {od_is_tied an_is_tied : Option Addr} {sl_is_tied : Array (Option Value)} {oc_is_tied kV_is_tied dc_is_tied pm_is_tied cd_is_tied ct_is_tied : Value} (a_is_tied : PySem.W.nsIn K mainGlobals "is_tied" = some (some (.ref f_is_tied))) (l_is_tied : K.lookup f_is_tied = some ⟨oc_is_tied, od_is_tied, .func (PySem.W.fnOf "is_tied" "is_tied" (defArgs s_is_tied) (defBody s_is_tied) (defScope s_is_tied) .none kV_is_tied dc_is_tied pm_is_tied an_is_tied cd_is_tied ct_is_tied), sl_is_tied⟩) (c_is_tied : PySem.W.codeIn K cd_is_tied "is_tied" = true) (k_is_tied : PySem.W.keepIn K (.ref f_is_tied) = true)
  {f_check_parents : Addr} {od_check_parents an_check_parents : Option Addr} {sl_check_parents : Array (Option Value)} {oc_check_parents kV_check_parents dc_check_parents pm_check_parents cd_check_parents ct_check_parents : Value} (a_check_parents : PySem.W.nsIn K mainGlobals "check_parents" = some (some (.ref f_check_parents))) (l_check_parents : K.lookup f_check_parents = some ⟨oc_check_parents, od_check_parents, .func (PySem.W.fnOf "check_parents" "check_parents" (defArgs s_check_parents) (defBody s_check_parents) (defScope s_check_parents) .none kV_check_parents dc_check_parents pm_check_parents an_check_parents cd_check_parents ct_check_parents), sl_check_parents⟩) (c_check_parents : PySem.W.codeIn K cd_check_parents "check_parents" = true) (k_check_parents : PySem.W.keepIn K (.ref f_check_parents) = true)
  {f_d_law_pool : Addr} {od_d_law_pool an_d_law_pool : Option Addr} {sl_d_law_pool : Array (Option Value)} {oc_d_law_pool kV_d_law_pool dc_d_law_pool pm_d_law_pool cd_d_law_pool ct_d_law_pool : Value} (a_d_law_pool : PySem.W.nsIn K mainGlobals "_law_pool" = some (some (.ref f_d_law_pool))) (l_d_law_pool : K.lookup f_d_law_pool = some ⟨oc_d_law_pool, od_d_law_pool, .func (PySem.W.fnOf "_law_pool" "_law_pool" (defArgs s_d_law_pool) (defBody s_d_law_pool) (defScope s_d_law_pool) .none kV_d_law_pool dc_d_law_pool pm_d_law_pool an_d_law_pool cd_d_law_pool ct_d_law_pool), sl_d_law_pool⟩) (c_d_law_pool : PySem.W.codeIn K cd_d_law_pool "_law_pool" = true) (k_d_law_pool : PySem.W.keepIn K (.ref f_d_law_pool) = true)
  {f_d_law_draw : Addr} {od_d_law_draw an_d_law_draw : Option Addr} {sl_d_law_draw : Array (Option Value)} {oc_d_law_draw kV_d_law_draw dc_d_law_draw pm_d_law_draw cd_d_law_draw ct_d_law_draw : Value} (a_d_law_draw : PySem.W.nsIn K mainGlobals "_law_draw" = some (some (.ref f_d_law_draw))) (l_d_law_draw : K.lookup f_d_law_draw = some ⟨oc_d_law_draw, od_d_law_draw, .func (PySem.W.fnOf "_law_draw" "_law_draw" (defArgs s_d_law_draw) (defBody s_d_law_draw) (defScope s_d_law_draw) .none kV_d_law_draw dc_d_law_draw pm_d_law_draw an_d_law_draw cd_d_law_draw ct_d_law_draw), sl_d_law_draw⟩) (c_d_law_draw : PySem.W.codeIn K cd_d_law_draw "_law_draw" = true) (k_d_law_draw : PySem.W.keepIn K (.ref f_d_law_draw) = true)
  {f_d_law_words : Addr} {od_d_law_words an_d_law_words : Option Addr} {sl_d_law_words : Array (Option Value)} {oc_d_law_words kV_d_law_words dc_d_law_words pm_d_law_words cd_d_law_words ct_d_law_words : Value} (a_d_law_words : PySem.W.nsIn K mainGlobals "_law_words" = some (some (.ref f_d_law_words))) (l_d_law_words : K.lookup f_d_law_words = some ⟨oc_d_law_words, od_d_law_words, .func (PySem.W.fnOf "_law_words" "_law_words" (defArgs s_d_law_words) (defBody s_d_law_words) (defScope s_d_law_words) .none kV_d_law_words dc_d_law_words pm_d_law_words an_d_law_words cd_d_law_words ct_d_law_words), sl_d_law_words⟩) (c_d_law_words : PySem.W.codeIn K cd_d_law_words "_law_words" = true) (k_d_law_words : PySem.W.keepIn K (.ref f_d_law_words) = true)
  {f_d_law_next : Addr} {od_d_law_next an_d_law_next : Option Addr} {sl_d_law_next : Array (Option Value)} {oc_d_law_next kV_d_law_next dc_d_law_next pm_d_law_next cd_d_law_next ct_d_law_next : Value} (a_d_law_next : PySem.W.nsIn K mainGlobals "_law_next" = some (some (.ref f_d_law_next))) (l_d_law_next : K.lookup f_d_law_next = some ⟨oc_d_law_next, od_d_law_next, .func (PySem.W.fnOf "_law_next" "_law_next" (defArgs s_d_law_next) (defBody s_d_law_next) (defScope s_d_law_next) .none kV_d_law_next dc_d_law_next pm_d_law_next an_d_law_next cd_d_law_next ct_d_law_next), sl_d_law_next⟩) (c_d_law_next : PySem.W.codeIn K cd_d_law_next "_law_next" = true) (k_d_law_next : PySem.W.keepIn K (.ref f_d_law_next) = true)
  {f_d_law_members : Addr} {od_d_law_members an_d_law_members : Option Addr} {sl_d_law_members : Array (Option Value)} {oc_d_law_members kV_d_law_members dc_d_law_members pm_d_law_members cd_d_law_members ct_d_law_members : Value} (a_d_law_members : PySem.W.nsIn K mainGlobals "_law_members" = some (some (.ref f_d_law_members))) (l_d_law_members : K.lookup f_d_law_members = some ⟨oc_d_law_members, od_d_law_members, .func (PySem.W.fnOf "_law_members" "_law_members" (defArgs s_d_law_members) (defBody s_d_law_members) (defScope s_d_law_members) .none kV_d_law_members dc_d_law_members pm_d_law_members an_d_law_members cd_d_law_members ct_d_law_members), sl_d_law_members⟩) (c_d_law_members : PySem.W.codeIn K cd_d_law_members "_law_members" = true) (k_d_law_members : PySem.W.keepIn K (.ref f_d_law_members) = true)
  {f_d_law_houses : Addr} {od_d_law_houses an_d_law_houses : Option Addr} {sl_d_law_houses : Array (Option Value)} {oc_d_law_houses kV_d_law_houses dc_d_law_houses pm_d_law_houses cd_d_law_houses ct_d_law_houses : Value} (a_d_law_houses : PySem.W.nsIn K mainGlobals "_law_houses" = some (some (.ref f_d_law_houses))) (l_d_law_houses : K.lookup f_d_law_houses = some ⟨oc_d_law_houses, od_d_law_houses, .func (PySem.W.fnOf "_law_houses" "_law_houses" (defArgs s_d_law_houses) (defBody s_d_law_houses) (defScope s_d_law_houses) .none kV_d_law_houses dc_d_law_houses pm_d_law_houses an_d_law_houses cd_d_law_houses ct_d_law_houses), sl_d_law_houses⟩) (c_d_law_houses : PySem.W.codeIn K cd_d_law_houses "_law_houses" = true) (k_d_law_houses : PySem.W.keepIn K (.ref f_d_law_houses) = true)
  {f_d_law_judge : Addr} {od_d_law_judge an_d_law_judge : Option Addr} {sl_d_law_judge : Array (Option Value)} {oc_d_law_judge kV_d_law_judge dc_d_law_judge pm_d_law_judge cd_d_law_judge ct_d_law_judge : Value} (a_d_law_judge : PySem.W.nsIn K mainGlobals "_law_judge" = some (some (.ref f_d_law_judge))) (l_d_law_judge : K.lookup f_d_law_judge = some ⟨oc_d_law_judge, od_d_law_judge, .func (PySem.W.fnOf "_law_judge" "_law_judge" (defArgs s_d_law_judge) (defBody s_d_law_judge) (defScope s_d_law_judge) .none kV_d_law_judge dc_d_law_judge pm_d_law_judge an_d_law_judge cd_d_law_judge ct_d_law_judge), sl_d_law_judge⟩) (c_d_law_judge : PySem.W.codeIn K cd_d_law_judge "_law_judge" = true) (k_d_law_judge : PySem.W.keepIn K (.ref f_d_law_judge) = true)
  {f_d_law_ask : Addr} {od_d_law_ask an_d_law_ask : Option Addr} {sl_d_law_ask : Array (Option Value)} {oc_d_law_ask kV_d_law_ask dc_d_law_ask pm_d_law_ask cd_d_law_ask ct_d_law_ask : Value} (a_d_law_ask : PySem.W.nsIn K mainGlobals "_law_ask" = some (some (.ref f_d_law_ask))) (l_d_law_ask : K.lookup f_d_law_ask = some ⟨oc_d_law_ask, od_d_law_ask, .func (PySem.W.fnOf "_law_ask" "_law_ask" (defArgs s_d_law_ask) (defBody s_d_law_ask) (defScope s_d_law_ask) .none kV_d_law_ask dc_d_law_ask pm_d_law_ask an_d_law_ask cd_d_law_ask ct_d_law_ask), sl_d_law_ask⟩) (c_d_law_ask : PySem.W.codeIn K cd_d_law_ask "_law_ask" = true) (k_d_law_ask : PySem.W.keepIn K (.ref f_d_law_ask) = true)
  {f_d_law_right : Addr} {od_d_law_right an_d_law_right : Option Addr} {sl_d_law_right : Array (Option Value)} {oc_d_law_right kV_d_law_right dc_d_law_right pm_d_law_right cd_d_law_right ct_d_law_right : Value} (a_d_law_right : PySem.W.nsIn K mainGlobals "_law_right" = some (some (.ref f_d_law_right))) (l_d_law_right : K.lookup f_d_law_right = some ⟨oc_d_law_right, od_d_law_right, .func (PySem.W.fnOf "_law_right" "_law_right" (defArgs s_d_law_right) (defBody s_d_law_right) (defScope s_d_law_right) .none kV_d_law_right dc_d_law_right pm_d_law_right an_d_law_right cd_d_law_right ct_d_law_right), sl_d_law_right⟩) (c_d_law_right : PySem.W.codeIn K cd_d_law_right "_law_right" = true) (k_d_law_right : PySem.W.keepIn K (.ref f_d_law_right) = true)
  {f_d_law_put : Addr} {od_d_law_put an_d_law_put : Option Addr} {sl_d_law_put : Array (Option Value)} {oc_d_law_put kV_d_law_put dc_d_law_put pm_d_law_put cd_d_law_put ct_d_law_put : Value} (a_d_law_put : PySem.W.nsIn K mainGlobals "_law_put" = some (some (.ref f_d_law_put))) (l_d_law_put : K.lookup f_d_law_put = some ⟨oc_d_law_put, od_d_law_put, .func (PySem.W.fnOf "_law_put" "_law_put" (defArgs s_d_law_put) (defBody s_d_law_put) (defScope s_d_law_put) .none kV_d_law_put dc_d_law_put pm_d_law_put an_d_law_put cd_d_law_put ct_d_law_put), sl_d_law_put⟩) (c_d_law_put : PySem.W.codeIn K cd_d_law_put "_law_put" = true) (k_d_law_put : PySem.W.keepIn K (.ref f_d_law_put) = true)
  {f_d_law_bent : Addr} {od_d_law_bent an_d_law_bent : Option Addr} {sl_d_law_bent : Array (Option Value)} {oc_d_law_bent kV_d_law_bent dc_d_law_bent pm_d_law_bent cd_d_law_bent ct_d_law_bent : Value} (a_d_law_bent : PySem.W.nsIn K mainGlobals "_law_bent" = some (some (.ref f_d_law_bent))) (l_d_law_bent : K.lookup f_d_law_bent = some ⟨oc_d_law_bent, od_d_law_bent, .func (PySem.W.fnOf "_law_bent" "_law_bent" (defArgs s_d_law_bent) (defBody s_d_law_bent) (defScope s_d_law_bent) .none kV_d_law_bent dc_d_law_bent pm_d_law_bent an_d_law_bent cd_d_law_bent ct_d_law_bent), sl_d_law_bent⟩) (c_d_law_bent : PySem.W.codeIn K cd_d_law_bent "_law_bent" = true) (k_d_law_bent : PySem.W.keepIn K (.ref f_d_law_bent) = true)
  {f_law : Addr} {od_law an_law : Option Addr} {sl_law : Array (Option Value)} {oc_law kV_law dc_law pm_law cd_law ct_law : Value} (a_law : PySem.W.nsIn K mainGlobals "law" = some (some (.ref f_law))) (l_law : K.lookup f_law = some ⟨oc_law, od_law, .func (PySem.W.fnOf "law" "law" (defArgs s_law) (defBody s_law) (defScope s_law) .none kV_law dc_law pm_law an_law cd_law ct_law), sl_law⟩) (c_law : PySem.W.codeIn K cd_law "law" = true) (k_law : PySem.W.keepIn K (.ref f_law) = true)
  {c_BadParents f_BadParents : Addr} {nm_BadParents q_BadParents : Str} {N_BadParents : Addr} {bs_BadParents bm_BadParents : List Value} {sn_BadParents : List Str} {sub_BadParents : List Value} {ab_BadParents : Bool} {col_BadParents : Option Bool} {dd_BadParents : Option Addr} {m0_BadParents m1_BadParents m2_BadParents m3_BadParents m5_BadParents : Option Value} {od_BadParents an_BadParents : Option Addr} {sl_BadParents : Array (Option Value)} {oc_BadParents kV_BadParents dc_BadParents pm_BadParents cd_BadParents ct_BadParents : Value} (aC_BadParents : PySem.W.nsIn K mainGlobals "BadParents" = some (some (.ref c_BadParents))) (xL_BadParents : K.lookup c_BadParents = some (excClassObj nm_BadParents q_BadParents c_BadParents N_BadParents bs_BadParents bm_BadParents true sn_BadParents sub_BadParents ab_BadParents col_BadParents dd_BadParents m0_BadParents m1_BadParents m2_BadParents m3_BadParents m5_BadParents "ValueError.__new__")) (bm_ok_BadParents : PySem.HandSPX.refsVE bm_BadParents = true) (sa_BadParents : PySem.W.findIn K (.ref c_BadParents) "__setattr__" = some (some (.builtin "object.__setattr__"))) (ga_BadParents : PySem.W.findIn K (.ref c_BadParents) "__getattribute__" = some (some (.builtin "BaseException.__getattribute__"))) (gg_BadParents : PySem.W.findIn K (.ref c_BadParents) "__getattr__" = some none) (no_BadParents_at : PySem.W.findIn K (.ref c_BadParents) "at" = some none) (iI_BadParents : PySem.W.findIn K (.ref c_BadParents) "__init__" = some (some (.ref f_BadParents))) (tF_BadParents : PySem.W.typeIn K (.ref f_BadParents) = some (.type "function")) (l_BadParents : K.lookup f_BadParents = some ⟨oc_BadParents, od_BadParents, .func (PySem.W.fnOf "__init__" "BadParents.__init__" (defArgs s_BadParents) (defBody s_BadParents) (defScope s_BadParents) .none kV_BadParents dc_BadParents pm_BadParents an_BadParents cd_BadParents ct_BadParents), sl_BadParents⟩) (cd_ok_BadParents : PySem.W.codeIn K cd_BadParents "BadParents.__init__" = true) (kI_BadParents : PySem.W.keepIn K (.ref f_BadParents) = true) (kC_BadParents : PySem.W.keepIn K (.ref c_BadParents) = true) (eC_BadParents : PySem.W.subIn K (.ref c_BadParents) (.type "BaseException") = some true) (tC_BadParents : PySem.W.typeIn K (.ref c_BadParents) = some (.type "type")) (hC_BadParents : PySem.W.hasDictIn K c_BadParents = true) (iC_BadParents : PySem.W.isClsIn K c_BadParents = true) (sC_BadParents : PySem.W.subIn K (.ref c_BadParents) (.ref c_BadParents) = some true)
  (z_bool : PySem.W.nsIn K mainGlobals "bool" = some none)
  (z_enumerate : PySem.W.nsIn K mainGlobals "enumerate" = some none)
  (z_int : PySem.W.nsIn K mainGlobals "int" = some none)
  (z_isinstance : PySem.W.nsIn K mainGlobals "isinstance" = some none)
  (z_len : PySem.W.nsIn K mainGlobals "len" = some none)
  (z_list : PySem.W.nsIn K mainGlobals "list" = some none)
  (z_range : PySem.W.nsIn K mainGlobals "range" = some none)
  (z_sorted : PySem.W.nsIn K mainGlobals "sorted" = some none)
  (z_str : PySem.W.nsIn K mainGlobals "str" = some none)
  (z_tuple : PySem.W.nsIn K mainGlobals "tuple" = some none) :
  ∃ fd : FuncData, (∀ (s : Shared) (v : Value), BindsTo s fd ⟨[v], []⟩ [("script", v)]) ∧ ∀ base : Heap, K.In base → base.Ns mainGlobals mg → FnOk P w K mg base (L2.CX P w) 6 fa fd ["script"] (spLaw K) := by
  cases hfa.symm.trans (PySem.W.mg_of X G a_law)
  have Z : ∃ Z : Fx K mg, Z.a_law = fa ∧ Z.d_law = PySem.W.fnOf "law" "law" (defArgs s_law) (defBody s_law) (defScope s_law) .none kV_law dc_law pm_law an_law cd_law ct_law := ⟨{
    a_is_integer := f_is_integer, d_is_integer := _, F_is_integer := fun_mk (st := s_is_integer) l_is_integer c_is_integer k_is_integer, g_is_integer := PySem.W.mg_of X G a_is_integer,
    a_houses_under := f_houses_under, d_houses_under := _, F_houses_under := fun_mk (st := s_houses_under) l_houses_under c_houses_under k_houses_under, g_houses_under := PySem.W.mg_of X G a_houses_under,
    a_are_parents := f_are_parents, d_are_parents := _, F_are_parents := fun_mk (st := s_are_parents) l_are_parents c_are_parents k_are_parents, g_are_parents := PySem.W.mg_of X G a_are_parents,
    a_is_tied := f_is_tied, d_is_tied := _, F_is_tied := fun_mk (st := s_is_tied) l_is_tied c_is_tied k_is_tied, g_is_tied := PySem.W.mg_of X G a_is_tied,
    a_check_parents := f_check_parents, d_check_parents := _, F_check_parents := fun_mk (st := s_check_parents) l_check_parents c_check_parents k_check_parents, g_check_parents := PySem.W.mg_of X G a_check_parents,
    a_d_law_pool := f_d_law_pool, d_d_law_pool := _, F_d_law_pool := fun_mk (st := s_d_law_pool) l_d_law_pool c_d_law_pool k_d_law_pool, g_d_law_pool := PySem.W.mg_of X G a_d_law_pool,
    a_d_law_draw := f_d_law_draw, d_d_law_draw := _, F_d_law_draw := fun_mk (st := s_d_law_draw) l_d_law_draw c_d_law_draw k_d_law_draw, g_d_law_draw := PySem.W.mg_of X G a_d_law_draw,
    a_d_law_words := f_d_law_words, d_d_law_words := _, F_d_law_words := fun_mk (st := s_d_law_words) l_d_law_words c_d_law_words k_d_law_words, g_d_law_words := PySem.W.mg_of X G a_d_law_words,
    a_d_law_next := f_d_law_next, d_d_law_next := _, F_d_law_next := fun_mk (st := s_d_law_next) l_d_law_next c_d_law_next k_d_law_next, g_d_law_next := PySem.W.mg_of X G a_d_law_next,
    a_d_law_members := f_d_law_members, d_d_law_members := _, F_d_law_members := fun_mk (st := s_d_law_members) l_d_law_members c_d_law_members k_d_law_members, g_d_law_members := PySem.W.mg_of X G a_d_law_members,
    a_d_law_houses := f_d_law_houses, d_d_law_houses := _, F_d_law_houses := fun_mk (st := s_d_law_houses) l_d_law_houses c_d_law_houses k_d_law_houses, g_d_law_houses := PySem.W.mg_of X G a_d_law_houses,
    a_d_law_judge := f_d_law_judge, d_d_law_judge := _, F_d_law_judge := fun_mk (st := s_d_law_judge) l_d_law_judge c_d_law_judge k_d_law_judge, g_d_law_judge := PySem.W.mg_of X G a_d_law_judge,
    a_d_law_ask := f_d_law_ask, d_d_law_ask := _, F_d_law_ask := fun_mk (st := s_d_law_ask) l_d_law_ask c_d_law_ask k_d_law_ask, g_d_law_ask := PySem.W.mg_of X G a_d_law_ask,
    a_d_law_right := f_d_law_right, d_d_law_right := _, F_d_law_right := fun_mk (st := s_d_law_right) l_d_law_right c_d_law_right k_d_law_right, g_d_law_right := PySem.W.mg_of X G a_d_law_right,
    a_d_law_put := f_d_law_put, d_d_law_put := _, F_d_law_put := fun_mk (st := s_d_law_put) l_d_law_put c_d_law_put k_d_law_put, g_d_law_put := PySem.W.mg_of X G a_d_law_put,
    a_d_law_bent := f_d_law_bent, d_d_law_bent := _, F_d_law_bent := fun_mk (st := s_d_law_bent) l_d_law_bent c_d_law_bent k_d_law_bent, g_d_law_bent := PySem.W.mg_of X G a_d_law_bent,
    a_law := fa, d_law := _, F_law := fun_mk (st := s_law) l_law c_law k_law, g_law := PySem.W.mg_of X G a_law,
    c_BadParents := c_BadParents, i_BadParents := f_BadParents, d_BadParents := _, gc_BadParents := PySem.W.mg_of X G aC_BadParents, T_BadParents := ⟨⟨_, _, _, _, _, _, _, _, _, _, _, _, _, _, _, xL_BadParents, bm_ok_BadParents⟩, sa_BadParents, eC_BadParents, tC_BadParents, kC_BadParents⟩, iC_BadParents := iI_BadParents, tI_BadParents := tF_BadParents, F_BadParents := fun_mk (st := s_BadParents) l_BadParents cd_ok_BadParents kI_BadParents, xf_BadParents := ⟨ga_BadParents, gg_BadParents, eC_BadParents, hC_BadParents⟩, te_BadParents := exm_own eC_BadParents iC_BadParents tC_BadParents sC_BadParents, no_BadParents_at := no_BadParents_at,
    b_bool := PySem.W.mg_none_of X G z_bool,
    b_enumerate := PySem.W.mg_none_of X G z_enumerate,
    b_int := PySem.W.mg_none_of X G z_int,
    b_isinstance := PySem.W.mg_none_of X G z_isinstance,
    b_len := PySem.W.mg_none_of X G z_len,
    b_list := PySem.W.mg_none_of X G z_list,
    b_range := PySem.W.mg_none_of X G z_range,
    b_sorted := PySem.W.mg_none_of X G z_sorted,
    b_str := PySem.W.mg_none_of X G z_str,
    b_tuple := PySem.W.mg_none_of X G z_tuple
  }, rfl, rfl⟩
  obtain ⟨Z, e1, e2⟩ := Z
  rw [← e1]
  exact ⟨Z.d_law, fun s v => e2 ▸ .of_eq rfl, fun base _ _ => FnOk.imp (ok_law Z) (law_imp law_true)⟩
end Law
open PySem PySem.W PyProof.Rows
set_option maxHeartbeats 0 in
theorem PySem.Challenge.cw_beforeinall_k28_parents_of_houses_holds : PySem.Challenge.rw_beforeinall_k28_parents_of_houses.Holds := by
  w_on; o_law; k_head; (case hw => w_witness2)
  k_fill
  refine L2.walk_of (l := PySem.Challenge.rw_beforeinall_k28_parents_of_houses) (n := 63) (k := 6) (x := "script") (CX := fun w => L2.CX PySem.Challenge.rw_beforeinall_k28_parents_of_houses.prog w) (sp := fun w => Mi.spLaw _) rfl (by decide) rfl ⟨rfl, by decide, by decide⟩ (fun w h Y => PySem.W.kIn_of Y) ?F (fun _ _ a ns hl hO hS => ⟨a, ns, rfl, hS, hl, hO, fun _ => rfl⟩) (fun _ _ _ _ _ h => Mi.cx_none h)
  case F =>
    intro w mg fa h KX G hmg
    refine' Law.all_mk KX G hmg ?a_is_integer ?l_is_integer ?c_is_integer ?k_is_integer ?a_houses_under ?l_houses_under ?c_houses_under ?k_houses_under ?a_are_parents ?l_are_parents ?c_are_parents ?k_are_parents ?a_is_tied ?l_is_tied ?c_is_tied ?k_is_tied ?a_check_parents ?l_check_parents ?c_check_parents ?k_check_parents ?a_d_law_pool ?l_d_law_pool ?c_d_law_pool ?k_d_law_pool ?a_d_law_draw ?l_d_law_draw ?c_d_law_draw ?k_d_law_draw ?a_d_law_words ?l_d_law_words ?c_d_law_words ?k_d_law_words ?a_d_law_next ?l_d_law_next ?c_d_law_next ?k_d_law_next ?a_d_law_members ?l_d_law_members ?c_d_law_members ?k_d_law_members ?a_d_law_houses ?l_d_law_houses ?c_d_law_houses ?k_d_law_houses ?a_d_law_judge ?l_d_law_judge ?c_d_law_judge ?k_d_law_judge ?a_d_law_ask ?l_d_law_ask ?c_d_law_ask ?k_d_law_ask ?a_d_law_right ?l_d_law_right ?c_d_law_right ?k_d_law_right ?a_d_law_put ?l_d_law_put ?c_d_law_put ?k_d_law_put ?a_d_law_bent ?l_d_law_bent ?c_d_law_bent ?k_d_law_bent ?a_law ?l_law ?c_law ?k_law ?aC_BadParents ?xL_BadParents ?bm_ok_BadParents ?sa_BadParents ?ga_BadParents ?gg_BadParents ?no_BadParents_at ?iI_BadParents ?tF_BadParents ?l_BadParents ?cd_ok_BadParents ?kI_BadParents ?kC_BadParents ?eC_BadParents ?tC_BadParents ?hC_BadParents ?iC_BadParents ?sC_BadParents ?z_bool ?z_enumerate ?z_int ?z_isinstance ?z_len ?z_list ?z_range ?z_sorted ?z_str ?z_tuple
    (case a_is_integer => k_is); (case l_is_integer => k_is); (case c_is_integer => k_is); (case k_is_integer => k_is); (case a_houses_under => k_is); (case l_houses_under => k_is); (case c_houses_under => k_is); (case k_houses_under => k_is); (case a_are_parents => k_is); (case l_are_parents => k_is); (case c_are_parents => k_is); (case k_are_parents => k_is); (case a_is_tied => k_is); (case l_is_tied => k_is); (case c_is_tied => k_is); (case k_is_tied => k_is); (case a_check_parents => k_is); (case l_check_parents => k_is); (case c_check_parents => k_is); (case k_check_parents => k_is); (case a_d_law_pool => k_is); (case l_d_law_pool => k_is); (case c_d_law_pool => k_is); (case k_d_law_pool => k_is); (case a_d_law_draw => k_is); (case l_d_law_draw => k_is); (case c_d_law_draw => k_is); (case k_d_law_draw => k_is); (case a_d_law_words => k_is); (case l_d_law_words => k_is); (case c_d_law_words => k_is); (case k_d_law_words => k_is); (case a_d_law_next => k_is); (case l_d_law_next => k_is); (case c_d_law_next => k_is); (case k_d_law_next => k_is); (case a_d_law_members => k_is); (case l_d_law_members => k_is); (case c_d_law_members => k_is); (case k_d_law_members => k_is); (case a_d_law_houses => k_is); (case l_d_law_houses => k_is); (case c_d_law_houses => k_is); (case k_d_law_houses => k_is); (case a_d_law_judge => k_is); (case l_d_law_judge => k_is); (case c_d_law_judge => k_is); (case k_d_law_judge => k_is); (case a_d_law_ask => k_is); (case l_d_law_ask => k_is); (case c_d_law_ask => k_is); (case k_d_law_ask => k_is); (case a_d_law_right => k_is); (case l_d_law_right => k_is); (case c_d_law_right => k_is); (case k_d_law_right => k_is); (case a_d_law_put => k_is); (case l_d_law_put => k_is); (case c_d_law_put => k_is); (case k_d_law_put => k_is); (case a_d_law_bent => k_is); (case l_d_law_bent => k_is); (case c_d_law_bent => k_is); (case k_d_law_bent => k_is); (case a_law => k_is); (case l_law => k_is); (case c_law => k_is); (case k_law => k_is); (case aC_BadParents => k_is); (case xL_BadParents => k_is); (case bm_ok_BadParents => first | rfl | decide +kernel); (case sa_BadParents => k_is); (case ga_BadParents => k_is); (case gg_BadParents => k_is); (case no_BadParents_at => k_is); (case iI_BadParents => k_is); (case tF_BadParents => k_is); (case l_BadParents => k_is); (case cd_ok_BadParents => k_is); (case kI_BadParents => k_is); (case kC_BadParents => k_is); (case eC_BadParents => k_is); (case tC_BadParents => k_is); (case hC_BadParents => k_is); (case iC_BadParents => k_is); (case sC_BadParents => first | rfl | k_is); (case z_bool => k_is); (case z_enumerate => k_is); (case z_int => k_is); (case z_isinstance => k_is); (case z_len => k_is); (case z_list => k_is); (case z_range => k_is); (case z_sorted => k_is); (case z_str => k_is); (case z_tuple => k_is)
