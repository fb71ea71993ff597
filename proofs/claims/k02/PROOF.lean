import PyProof.Rows.All
import HandS.ForMost
import HandS.ForExc
import HandS.IsInst
import HandS.TupAny
import HandS.Wide
import HandS.Walk
import KE.SortData
import HandS.Style
import HandS.Flt
import PySem.Challenge.RW_beforeinall_k02_joined_dates
set_option Elab.async false
set_option linter.all false
set_option maxRecDepth 100000
set_option maxHeartbeats 4000000
/-! Mi: mirrors of defs over pure values and a store; each combinator is held by the hand layer's judgements. -/
namespace Mi
open PySem PySem.Spec PyProof.Rows L2
/-! ### values, store, results -/
/-- a value: tuples are data; fl: a list that is never written; loc: a place of the store -/
inductive D where
  | non | bl (b : Bool) | int (i : Int) | str (x : Str)
  | tup (xs : List D) | fl (xs : List D) | loc (l : Nat) | exv (c : Str) (fs : List (Str × D))
inductive Cell where
  | lst (xs : List D) | dic (kvs : List (Key × D))
abbrev Store := List Cell
structure Ex where
  cls : Str
  fs : List (Str × D)
inductive R (α : Type) where
  | ok (a : α) (s : Store) | ex (e : Ex) (s : Store) | no
namespace R
def bind {α β : Type} (r : R α) (k : α → Store → R β) : R β := match r with
  | .ok a s => k a s
  | .ex e s => .ex e s
  | .no => .no
def of {α : Type} : Option (α × Store) → R α
  | some (a, s) => .ok a s
  | none => .no
@[simp] theorem bind_ok {α β : Type} (a : α) (s : Store) (k : α → Store → R β) : (R.ok a s).bind k = k a s := rfl
@[simp] theorem bind_ex {α β : Type} (e : Ex) (s : Store) (k : α → Store → R β) : (R.ex e s : R α).bind k = .ex e s := rfl
@[simp] theorem bind_no {α β : Type} (k : α → Store → R β) : (R.no : R α).bind k = .no := rfl
@[simp] theorem of_some {α : Type} (a : α) (s : Store) : R.of (some (a, s)) = .ok a s := rfl
@[simp] theorem of_none {α : Type} : (R.of none : R α) = .no := rfl
end R
/-- the slots of a def's names -/
abbrev Sl := List (Option D)
inductive RS where
  | nx (env : Sl) (s : Store) | rt (d : D) (s : Store) | bk (env : Sl) (s : Store) | ct (env : Sl) (s : Store) | ex (e : Ex) (env : Sl) (s : Store) | no
/-! ### the relation to the hand layer's heap -/
section
variable (K : PySem.W.Frag)
/-- a list that is never written: known to the object, or of the module -/
def FrL (H : Hp) (a : Addr) (vs : List V) : Prop :=
  (∃ o, H a = some (.frz o (.lst vs))) ∨
    ∃ (o : Obj) (its : Array Value) (n : Nat), K.lookup a = some o ∧ o.cls = .type "list" ∧ o.dict = none ∧ o.data = .seq its n ∧ its.size ≤ sizeLine ∧ Vals vs its.toList
theorem FrL.sq {K : PySem.W.Frag} {H : Hp} {a : Addr} {vs : List V} (h : FrL K H a vs) : SqL K H a vs := by
  rcases h with ⟨o, h⟩ | h
  · exact .inl (.inr ⟨o, h⟩)
  · exact .inr h
mutual
inductive Rep (m : List Addr) (H : Hp) : D → V → Prop where
  | non : Rep m H .non .non
  | bl (b : Bool) : Rep m H (.bl b) (.bl b)
  | int (i : Int) : Rep m H (.int i) (.int i)
  | str (x : Str) : Rep m H (.str x) (.str x)
  | tup {xs : List D} {a : Addr} {vs : List V} (h : SqT K H a vs) (r : Reps m H xs vs) : Rep m H (.tup xs) (.ref a)
  | fl {xs : List D} {a : Addr} {vs : List V} (h : FrL K H a vs) (r : Reps m H xs vs) : Rep m H (.fl xs) (.ref a)
  | loc {l : Nat} {a : Addr} (h : m[l]? = some a) : Rep m H (.loc l) (.ref a)
  | exv {c : Str} {fs : List (Str × D)} (a : Addr) : Rep m H (.exv c fs) (.ref a)
inductive Reps (m : List Addr) (H : Hp) : List D → List V → Prop where
  | nil : Reps m H [] []
  | cons {x : D} {v : V} {xs : List D} {vs : List V} (h : Rep m H x v) (r : Reps m H xs vs) : Reps m H (x :: xs) (v :: vs)
end
inductive RepK (m : List Addr) (H : Hp) : List (Key × D) → List (Key × V) → Prop where
  | nil : RepK m H [] []
  | cons {k : Key} {x : D} {v : V} {xs : List (Key × D)} {vs : List (Key × V)} (h : Rep K m H x v) (r : RepK m H xs vs) : RepK m H ((k, x) :: xs) ((k, v) :: vs)
def CellR (m : List Addr) (H : Hp) (a : Addr) : Cell → Prop
  | .lst xs => ∃ vs, H a = some (.lst vs) ∧ Reps K m H xs vs
  | .dic kvs => ∃ ws, H a = some (.dK ws) ∧ RepK K m H kvs ws
structure Rel (m : List Addr) (H : Hp) (s : Store) : Prop where
  len : m.length = s.length
  nd : m.Nodup
  at_ : ∀ (l : Nat) (a : Addr) (c : Cell), m[l]? = some a → s[l]? = some c → CellR K m H a c
/-- later: what was there is there; tuples and the lists that are never written stand; what is no cell of ours stands -/
structure Le (m : List Addr) (H : Hp) (m' : List Addr) (H' : Hp) : Prop where
  pre : ∃ r, m' = m ++ r
  tup : ∀ a xs, SqT K H a xs → SqT K H' a xs
  frl : ∀ a xs, FrL K H a xs → FrL K H' a xs
  fr : ∀ b o, H b = some o → b ∉ m → H' b = some o
  nw : ∀ b, b ∈ m' → b ∈ m ∨ H b = none
def RelE (m : List Addr) (H : Hp) (env : Sl) (σ : L2.St) : Prop :=
  env.length = σ.length ∧ ∀ (i : Nat) (d : D), env[i]? = some (some d) → ∃ v, σ[i]? = some (some v) ∧ Rep K m H d v
end
section
variable {K : PySem.W.Frag} {m m1 m2 : List Addr} {H H1 H2 : Hp} {s : Store} {a b p : Addr} {c : Cell}
theorem Le.refl : Le K m H m H := ⟨⟨[], by simp⟩, fun _ _ h => h, fun _ _ h => h, fun _ _ h _ => h, fun _ h => .inl h⟩
theorem Le.get (e : Le K m H m1 H1) {l : Nat} (h : m[l]? = some a) : m1[l]? = some a := by
  obtain ⟨r, rfl⟩ := e.pre
  rw [List.getElem?_append_left (by
    rcases Nat.lt_or_ge l m.length with q | q
    · exact q
    · rw [List.getElem?_eq_none q] at h; cases h)]
  exact h
theorem Le.trans (e : Le K m H m1 H1) (f : Le K m1 H1 m2 H2) : Le K m H m2 H2 := by
  refine ⟨?_, fun a xs h => f.tup a xs (e.tup a xs h), fun a xs h => f.frl a xs (e.frl a xs h), fun b o h n => ?_, fun b h => ?_⟩
  · obtain ⟨r, rfl⟩ := e.pre
    obtain ⟨r2, rfl⟩ := f.pre
    exact ⟨r ++ r2, by simp⟩
  · refine f.fr b o (e.fr b o h n) fun z => ?_
    rcases e.nw b z with q | q
    · exact n q
    · rw [h] at q; cases q
  · by_cases z : b ∈ m
    · exact .inl z
    · rcases f.nw b h with q | q
      · exact e.nw b q
      · refine .inr ?_
        cases w : H b with
        | none => rfl
        | some o =>
          rw [e.fr b o w z] at q; cases q
mutual
theorem Rep.mono (e : Le K m H m1 H1) : ∀ {d : D} {v : V}, Rep K m H d v → Rep K m1 H1 d v
  | _, _, .non => .non
  | _, _, .bl b => .bl b
  | _, _, .int i => .int i
  | _, _, .str x => .str x
  | _, _, .tup h r => .tup (e.tup _ _ h) (Reps.mono e r)
  | _, _, .fl h r => .fl (e.frl _ _ h) (Reps.mono e r)
  | _, _, .loc h => .loc (e.get h)
  | _, _, .exv a => .exv a
theorem Reps.mono (e : Le K m H m1 H1) : ∀ {ds : List D} {vs : List V}, Reps K m H ds vs → Reps K m1 H1 ds vs
  | _, _, .nil => .nil
  | _, _, .cons h r => .cons (Rep.mono e h) (Reps.mono e r)
end
theorem RepK.mono (e : Le K m H m1 H1) : ∀ {ds : List (Key × D)} {vs : List (Key × V)}, RepK K m H ds vs → RepK K m1 H1 ds vs
  | _, _, .nil => .nil
  | _, _, .cons h r => .cons (h.mono e) (RepK.mono e r)
theorem RelE.mono (e : Le K m H m1 H1) {env : Sl} {σ : L2.St} (h : RelE K m H env σ) : RelE K m1 H1 env σ :=
  ⟨h.1, fun i d q => let ⟨v, h1, h2⟩ := h.2 i d q; ⟨v, h1, h2.mono e⟩⟩
theorem Reps.length : ∀ {xs : List D} {vs : List V}, Reps K m H xs vs → xs.length = vs.length
  | _, _, .nil => rfl
  | _, _, .cons _ r => by simp [Reps.length r]
theorem Reps.get : ∀ {xs : List D} {vs : List V} {i : Nat} {x : D}, Reps K m H xs vs → xs[i]? = some x → ∃ v, vs[i]? = some v ∧ Rep K m H x v
  | _, _, _, _, .nil, e => by simp at e
  | _, _, 0, _, .cons h _, e => by simp at e; subst e; exact ⟨_, rfl, h⟩
  | _, _, i + 1, x, .cons _ r, e => by
    obtain ⟨v, h1, h2⟩ := Reps.get (i := i) (x := x) r (by simpa using e)
    exact ⟨v, by simpa using h1, h2⟩
theorem Reps.append : ∀ {xs ys : List D} {vs ws : List V}, Reps K m H xs vs → Reps K m H ys ws → Reps K m H (xs ++ ys) (vs ++ ws)
  | _, _, _, _, .nil, q => q
  | _, _, _, _, .cons h r, q => .cons h (Reps.append r q)
theorem Reps.take : ∀ {xs : List D} {vs : List V} (n : Nat), Reps K m H xs vs → Reps K m H (xs.take n) (vs.take n)
  | _, _, 0, _ => .nil
  | _, _, _ + 1, .nil => .nil
  | _, _, n + 1, .cons h r => .cons h (Reps.take n r)
theorem Reps.drop : ∀ {xs : List D} {vs : List V} (n : Nat), Reps K m H xs vs → Reps K m H (xs.drop n) (vs.drop n)
  | _, _, 0, r => r
  | _, _, _ + 1, .nil => .nil
  | _, _, n + 1, .cons _ r => Reps.drop n r
theorem Reps.set {x : D} {v : V} (h : Rep K m H x v) : ∀ {xs : List D} {vs : List V} (i : Nat), Reps K m H xs vs → Reps K m H (xs.set i x) (vs.set i v)
  | _, _, _, .nil => .nil
  | _, _, 0, .cons _ r => .cons h r
  | _, _, i + 1, .cons q r => .cons q (Reps.set h i r)
theorem Reps.dropLast : ∀ {xs : List D} {vs : List V}, Reps K m H xs vs → Reps K m H xs.dropLast vs.dropLast
  | _, _, .nil => .nil
  | _, _, .cons _ .nil => .nil
  | _, _, .cons h (.cons h2 r) => by
    rw [List.dropLast_cons₂, List.dropLast_cons₂]
    exact .cons h (Reps.dropLast (.cons h2 r))
theorem Reps.erase : ∀ {xs : List D} {vs : List V} (i : Nat), Reps K m H xs vs → Reps K m H (xs.eraseIdx i) (vs.eraseIdx i)
  | _, _, _, .nil => .nil
  | _, _, 0, .cons _ r => r
  | _, _, i + 1, .cons q r => .cons q (Reps.erase i r)
theorem Reps.reverse {xs : List D} {vs : List V} (h : Reps K m H xs vs) : Reps K m H xs.reverse vs.reverse := by
  induction xs generalizing vs with
  | nil => cases h; exact .nil
  | cons x xs ih =>
    cases h with
    | cons h r =>
      rw [List.reverse_cons, List.reverse_cons]
      exact (ih r).append (.cons h .nil)
theorem Reps.ints : ∀ {ns : List Int} {vs : List V}, Reps K m H (ns.map D.int) vs → vs = ns.map V.int
  | [], _, .nil => rfl
  | n :: ns, _, .cons h r => by
    cases h
    rw [List.map_cons, Reps.ints r]
theorem reps_ints (ns : List Int) : Reps K m H (ns.map D.int) (ns.map V.int) := by
  induction ns with
  | nil => exact .nil
  | cons n ns ih => exact .cons (.int n) ih
/-! ### changes of the heap -/
theorem Rel.lt (r : Rel K m H s) {l : Nat} (h : m[l]? = some a) : l < s.length := by
  rw [← r.len]
  rcases Nat.lt_or_ge l m.length with q | q
  · exact q
  · rw [List.getElem?_eq_none q] at h; cases h
theorem Rel.there (r : Rel K m H s) (h : b ∈ m) : ∃ o, H b = some o ∧ (∃ vs, o = .lst vs) ∨ ∃ ws, H b = some (.dK ws) := by
  obtain ⟨l, hl⟩ := List.getElem?_of_mem h
  have q := r.lt hl
  obtain ⟨c, hc⟩ : ∃ c, s[l]? = some c := ⟨s[l], by simp [q]⟩
  have x := r.at_ l b c hl hc
  cases c with
  | lst xs => obtain ⟨vs, e, _⟩ := x; exact ⟨_, .inl ⟨e, vs, rfl⟩⟩
  | dic kvs => obtain ⟨ws, e, _⟩ := x; exact ⟨.lst [], .inr ⟨ws, e⟩⟩
theorem Rel.has (r : Rel K m H s) (h : b ∈ m) : ∃ o, H b = some o ∧ (∀ xs, o ≠ .tup xs) ∧ ∀ u x, o ≠ .frz u x := by
  obtain ⟨o, ⟨e, vs, rfl⟩ | ⟨ws, e⟩⟩ := r.there h
  · exact ⟨_, e, fun _ z => (by cases z), fun _ _ z => (by cases z)⟩
  · exact ⟨_, e, fun _ z => (by cases z), fun _ _ z => (by cases z)⟩
theorem Rel.new_notin (r : Rel K m H s) (h : H p = none) : p ∉ m := fun z => by
  obtain ⟨o, e, _⟩ := r.has z
  rw [h] at e; cases e
/-- any object laid at a free place, or written at a place that is neither tuple nor frozen -/
theorem le_upd {o : HO} (hp : ∀ u, H p = Option.some u → p ∈ m) (hm : ∀ u, H p = Option.some u → (∀ xs, u ≠ .tup xs) ∧ ∀ ob x, u ≠ .frz ob x) : Le K m H m (upd H p o) := by
  refine ⟨⟨[], by simp⟩, fun b xs h => ?_, fun b xs h => ?_, fun b u h n => ?_, fun b h => .inl h⟩
  · rcases h with (h | ⟨ob, h⟩) | h
    · exact .inl (.inl (by rw [upd_ne (fun z => by subst z; exact (hm _ h).1 xs rfl)]; exact h))
    · exact .inl (.inr ⟨ob, by rw [upd_ne (fun z => by subst z; exact (hm _ h).2 _ _ rfl)]; exact h⟩)
    · exact .inr h
  · rcases h with ⟨ob, h⟩ | h
    · exact .inl ⟨ob, by rw [upd_ne (fun z => by subst z; exact (hm _ h).2 _ _ rfl)]; exact h⟩
    · exact .inr h
  · rw [upd_ne (fun z => by subst z; exact n (hp _ h))]; exact h
theorem le_new {o : HO} (hp : H p = none) : Le K m H m (upd H p o) :=
  le_upd (fun u h => by rw [hp] at h; cases h) (fun u h => by rw [hp] at h; cases h)
theorem le_put (r : Rel K m H s) (h : p ∈ m) {o : HO} : Le K m H m (upd H p o) :=
  le_upd (fun _ _ => h) (fun u e => by
    obtain ⟨o', e', q⟩ := r.has h
    rw [e] at e'; cases e'
    exact q)
theorem le_more (r : Rel K m H s) (hp : H p = none) {o : HO} : Le K m H (m ++ [p]) (upd H p o) := by
  have e : Le K m H m (upd H p o) := le_new hp
  refine ⟨⟨[p], rfl⟩, e.tup, e.frl, e.fr, fun b h => ?_⟩
  rcases List.mem_append.mp h with q | q
  · exact .inl q
  · rw [List.mem_singleton.mp q]; exact .inr hp
theorem CellR.mono {m' : List Addr} {H' : Hp} (e : Le K m H m' H') (hs : H' a = H a) (h : CellR K m H a c) : CellR K m' H' a c := by
  cases c with
  | lst xs => obtain ⟨vs, h1, h2⟩ := h; exact ⟨vs, hs.trans h1, h2.mono e⟩
  | dic kvs => obtain ⟨ws, h1, h2⟩ := h; exact ⟨ws, hs.trans h1, h2.mono e⟩
/-- an object that is no cell is laid -/
theorem Rel.tmp (r : Rel K m H s) (hp : H p = none) {o : HO} : Rel K m (upd H p o) s :=
  ⟨r.len, r.nd, fun l a c h1 h2 => (r.at_ l a c h1 h2).mono (le_new hp) (upd_ne fun z => by subst z; exact r.new_notin hp (List.mem_of_getElem? h1))⟩
theorem Rel.put (r : Rel K m H s) {l : Nat} (h : m[l]? = Option.some p) {o : HO} {c : Cell} (hc : CellR K m (upd H p o) p c) : Rel K m (upd H p o) (s.set l c) := by
  refine ⟨by rw [List.length_set]; exact r.len, r.nd, fun j b d h1 h2 => ?_⟩
  by_cases hj : j = l
  · subst hj
    rw [h] at h1; cases h1
    rw [List.getElem?_set_self (r.lt h)] at h2; cases h2
    exact hc
  · rw [List.getElem?_set_ne (Ne.symm hj)] at h2
    refine (r.at_ j b d h1 h2).mono (le_put r (List.mem_of_getElem? h)) (upd_ne fun z => hj ?_)
    subst z
    exact nd_ix r.nd h1 h
theorem Rel.new (r : Rel K m H s) (hp : H p = none) {o : HO} {c : Cell} (hc : CellR K (m ++ [p]) (upd H p o) p c) : Rel K (m ++ [p]) (upd H p o) (s ++ [c]) := by
  have hn := r.new_notin hp
  refine ⟨by simp [r.len], ?_, fun j b d h1 h2 => ?_⟩
  · rw [List.nodup_append]
    exact ⟨r.nd, by simp, fun x hx y hy => by rw [List.mem_singleton.mp hy]; exact fun z => hn (z ▸ hx)⟩
  · rcases Nat.lt_or_ge j m.length with q | q
    · rw [List.getElem?_append_left q] at h1
      rw [List.getElem?_append_left (by rw [← r.len]; exact q)] at h2
      exact (r.at_ j b d h1 h2).mono (le_more r hp) (upd_ne fun z => by subst z; exact hn (List.mem_of_getElem? h1))
    · rw [List.getElem?_append_right q] at h1
      rw [List.getElem?_append_right (by rw [← r.len]; exact q), ← r.len] at h2
      cases hk : j - m.length with
      | zero =>
        rw [hk] at h1 h2
        simp at h1 h2
        subst h1; subst h2
        exact hc
      | succ n => rw [hk] at h1; simp at h1
theorem len_get (r : Rel K m H s) : (m ++ [p])[s.length]? = some p := by
  rw [← r.len, List.getElem?_append_right (Nat.le_refl _)]; simp
/-- a new tuple -/
theorem rep_newtup {xs : List D} {vs : List V} (hp : H p = none) (h : Reps K m H xs vs) : Rep K m (upd H p (.tup vs)) (.tup xs) (.ref p) :=
  .tup (.inl (.inl upd_same)) (h.mono (le_new hp))
/-- a new list -/
theorem rel_newlist {xs : List D} {vs : List V} (r : Rel K m H s) (hp : H p = none) (h : Reps K m H xs vs) : Rel K (m ++ [p]) (upd H p (.lst vs)) (s ++ [.lst xs]) :=
  r.new hp ⟨vs, upd_same, h.mono (le_more r hp)⟩
theorem Rel.list (r : Rel K m H s) {l : Nat} {xs : List D} (h : m[l]? = Option.some a) (hs : s[l]? = Option.some (.lst xs)) : ∃ vs, H a = Option.some (.lst vs) ∧ Reps K m H xs vs := r.at_ l a _ h hs
end
end Mi
namespace Mi
open PySem PySem.Spec PyProof.Rows L2
/-! ### readings of mirrors -/
section
variable (K : PySem.W.Frag) (mg : Str → Option Value)
inductive FldR (m : List Addr) (H : Hp) : List (Str × D) → List (Str × V) → Prop where
  | nil : FldR m H [] []
  | cons {f : Str} {x : D} {v : V} {xs : List (Str × D)} {vs : List (Str × V)} (h : Rep K m H x v) (r : FldR m H xs vs) : FldR m H ((f, x) :: xs) ((f, v) :: vs)
/-- an exception: its class, its own dict -/
def ExR (m : List Addr) (H : Hp) (e : Ex) (c : Value) (dd : Option Addr) : Prop :=
  mg e.cls = some c ∧ ((e.fs = [] ∧ dd = none) ∨ ∃ d vfs, dd = some d ∧ H d = some (.xd vfs) ∧ d ∉ m ∧ FldR K m H e.fs vfs)
/-- what a result is to bring about -/
def G {α β : Type} (ρ : List Addr → Hp → α → β → Prop) (W : WX) (σ : L2.St) (m : List Addr) (H : Hp) (Q : β → Hp → Prop) : R α → Prop
  | .ok a s => ∀ m' H' b, Le K m H m' H' → Rel K m' H' s → ρ m' H' a b → Q b H'
  | .ex e s => ∀ m' H' c dd, Le K m H m' H' → Rel K m' H' s → ExR K mg m' H' e c dd → W c dd σ H'
  | .no => False
def Tm {α β : Type} (ρ : List Addr → Hp → α → β → Prop) (W : WX) (f : Sl → Store → R α) : L2.St → Hp → (β → Hp → Prop) → Prop := fun σ H Q =>
  ∃ m env s, Rel K m H s ∧ RelE K m H env σ ∧ G K mg ρ W σ m H Q (f env s)
abbrev ME (α : Type) := Sl → Store → R α
/-- a test's -/
def ρB : List Addr → Hp → Bool → Bool → Prop := fun _ _ a b => a = b
abbrev Te (W : WX) (f : ME D) : TE := Tm K mg (Rep K) W f
abbrev Tt (W : WX) (f : ME Bool) : TT := Tm K mg ρB W f
abbrev Ta (W : WX) (f : ME (List D)) : TA := Tm K mg (Reps K) W f
end
section
variable {K : PySem.W.Frag} {mg : Str → Option Value} {m m1 : List Addr} {H H1 : Hp} {s : Store} {W : WX} {σ : L2.St}
theorem FldR.mono (e : Le K m H m1 H1) : ∀ {ds : List (Str × D)} {vs : List (Str × V)}, FldR K m H ds vs → FldR K m1 H1 ds vs
  | _, _, .nil => .nil
  | _, _, .cons h r => .cons (h.mono e) (FldR.mono e r)
section
variable {α α' β β' : Type} {ρ : List Addr → Hp → α → β → Prop} {ρ' : List Addr → Hp → α' → β' → Prop} {Q : β → Hp → Prop} {Q' : β' → Hp → Prop}
theorem G.mono (e : Le K m H m1 H1) {r : R α} (h : G K mg ρ W σ m H Q r) : G K mg ρ W σ m1 H1 Q r := by
  cases r with
  | ok a s => exact fun m' H' b l r q => h m' H' b (e.trans l) r q
  | ex x s => exact fun m' H' c d l r q => h m' H' c d (e.trans l) r q
  | no => exact h
theorem G.bind {r : R α} {k : α → Store → R α'} (h : G K mg ρ' W σ m H Q' (r.bind k))
    (q : ∀ m1 H1 a b s1, Le K m H m1 H1 → Rel K m1 H1 s1 → ρ m1 H1 a b → G K mg ρ' W σ m1 H1 Q' (k a s1) → Q b H1) : G K mg ρ W σ m H Q r := by
  cases r with
  | ok a s => exact fun m' H' b l r p => q m' H' a b s l r p (G.mono l h)
  | ex x s => exact h
  | no => exact h
theorem G.imp {r : R α} (h : G K mg ρ W σ m H Q r) {Q1 : β → Hp → Prop} (q : ∀ m' H' a b s, r = .ok a s → Le K m H m' H' → Rel K m' H' s → ρ m' H' a b → Q b H' → Q1 b H') : G K mg ρ W σ m H Q1 r := by
  cases r with
  | ok a s => exact fun m' H' b l r p => q m' H' a b s rfl l r p (h m' H' b l r p)
  | ex x s => exact h
  | no => exact h
/-- run the first part -/
theorem Tm.bind {f : Sl → Store → R α} {k : Sl → α → Store → R α'} (h : Tm K mg ρ' W (fun env s => (f env s).bind (k env)) σ H Q')
    (q : ∀ m1 H1 env a b s1, Rel K m1 H1 s1 → RelE K m1 H1 env σ → ρ m1 H1 a b → G K mg ρ' W σ m1 H1 Q' (k env a s1) → Q b H1) : Tm K mg ρ W f σ H Q := by
  obtain ⟨m, env, s, r, e, g⟩ := h
  exact ⟨m, env, s, r, e, G.bind g fun m1 H1 a b s1 l r1 p g1 => q m1 H1 env a b s1 r1 (e.mono l) p g1⟩
/-- a further part runs -/
theorem Tm.of {f : Sl → Store → R α} {env : Sl} (r : Rel K m H s) (e : RelE K m H env σ) (g : G K mg ρ W σ m H Q (f env s)) : Tm K mg ρ W f σ H Q := ⟨m, env, s, r, e, g⟩
end
/-- the end: a value that is there -/
theorem G.now {d : D} {v : V} {Q : VK} (h : G K mg (Rep K) W σ m H Q (.ok d s)) (r : Rel K m H s) (p : Rep K m H d v) : Q v H := h m H v .refl r p
theorem G.nowB {d : Bool} {Q : Bool → Hp → Prop} (h : G K mg ρB W σ m H Q (.ok d s)) (r : Rel K m H s) : Q d H := h m H d .refl r rfl
end
theorem PE.imp {X : Cx} {e : Expr} {t t' : TE} (h : PE X e t) (i : ∀ σ H Q, t' σ H Q → t σ H Q) : PE X e t' := ⟨fun pins s σ H Q I q => h.run pins s σ H Q I (i σ H Q q)⟩
theorem PT.imp {X : Cx} {e : Expr} {t t' : TT} (h : PT X e t) (i : ∀ σ H Q, t' σ H Q → t σ H Q) : PT X e t' := ⟨fun pins s σ H Q I q => h.run pins s σ H Q I (i σ H Q q)⟩
theorem PW.imp {X : Cx} {e : Expr} {t t' : TT} (h : PW X e t) (i : ∀ σ H Q, t' σ H Q → t σ H Q) : PW X e t' := ⟨fun wh pins s σ H Q I q => h.run wh pins s σ H Q I (i σ H Q q)⟩
theorem PA.imp {X : Cx} {e : List Expr} {t t' : TA} (h : PA X e t) (i : ∀ σ H Q, t' σ H Q → t σ H Q) : PA X e t' := ⟨fun pos pins s σ H Q I q => h.run pos pins s σ H Q I (i σ H Q q)⟩
theorem PS.imp {X : Cx} {e : Stmt} {t t' : TS} (h : PS X e t) (i : ∀ D σ H, t' D σ H → t D σ H) : PS X e t' := ⟨fun pins s σ H D I q => h.run pins s σ H D I (i D σ H q)⟩
theorem PSs.imp {X : Cx} {e : List Stmt} {t t' : TS} (h : PSs X e t) (i : ∀ D σ H, t' D σ H → t D σ H) : PSs X e t' := ⟨fun pins s σ H D I q => h.run pins s σ H D I (i D σ H q)⟩
/-! ### combinators: expressions -/
def eC (d : D) : ME D := fun _ s => .ok d s
def eV (i : Nat) : ME D := fun env s => match env[i]? with
  | some (some d) => .ok d s
  | _ => .no
/-- two values -/
def e2 (g : D → D → Store → Option (D × Store)) (a b : ME D) : ME D := fun env s => (a env s).bind fun x s => (b env s).bind fun y s => R.of (g x y s)
def e1 (g : D → Store → Option (D × Store)) (a : ME D) : ME D := fun env s => (a env s).bind fun x s => R.of (g x s)
def aNil : ME (List D) := fun _ s => .ok [] s
def aCons (a : ME D) (r : ME (List D)) : ME (List D) := fun env s => (a env s).bind fun x s => (r env s).bind fun xs s => .ok (x :: xs) s
def eFn (g : List D → Store → Option (D × Store)) (a : ME (List D)) : ME D := fun env s => (a env s).bind fun xs s => R.of (g xs s)
def eTup (a : ME (List D)) : ME D := fun env s => (a env s).bind fun xs s => if xs.length ≤ sizeLine then .ok (.tup xs) s else .no
def eLst (a : ME (List D)) : ME D := fun env s => (a env s).bind fun xs s => if xs.length ≤ sizeLine then .ok (.loc s.length) (s ++ [.lst xs]) else .no
def eCall (g : List D → Store → R D) (a : ME (List D)) : ME D := fun env s => (a env s).bind g
/-- a value as a test: a bool -/
def tV (a : ME D) : ME Bool := fun env s => (a env s).bind fun x s => match x with
  | .bl b => .ok b s
  | _ => .no
def tAnd (a b : ME Bool) : ME Bool := fun env s => (a env s).bind fun x s => if x then b env s else .ok false s
def tOr (a b : ME Bool) : ME Bool := fun env s => (a env s).bind fun x s => if x then .ok true s else b env s
def tNot (a : ME Bool) : ME Bool := fun env s => (a env s).bind fun x s => .ok (!x) s
def eIf (c : ME Bool) (a b : ME D) : ME D := fun env s => (c env s).bind fun x s => if x then a env s else b env s
/-- and, or, not as values (bools) -/
def eAnd (a b : ME D) : ME D := fun env s => (a env s).bind fun x s => match x with
  | .bl true => b env s
  | .bl false => .ok (.bl false) s
  | _ => .no
def eOr (a b : ME D) : ME D := fun env s => (a env s).bind fun x s => match x with
  | .bl true => .ok (.bl true) s
  | .bl false => b env s
  | _ => .no
def eNot (a : ME D) : ME D := fun env s => (a env s).bind fun x s => match x with
  | .bl c => .ok (.bl !c) s
  | _ => .no
def eChain (g g' : D → D → Store → Option (D × Store)) (a b c : ME D) : ME D := fun env s => (a env s).bind fun x s => (b env s).bind fun y s => (R.of (g x y s)).bind fun z s => match z with
  | .bl true => (c env s).bind fun w s => R.of (g' y w s)
  | .bl false => .ok (.bl false) s
  | _ => .no
section
variable {X : Cx} {W : WX} {pos : Pos} {a b c e : Expr} {es : List Expr} {fa fb fc : ME D} {ga gb : ME Bool} {fs : ME (List D)}
theorem ce_v (i : Nat) {x : Str} (hN : X.N[i]? = some x := by rfl) (hv : Vis X.env.scope x := by first | exact Or.inl rfl | exact Or.inr (Or.inl rfl) | exact Or.inr (Or.inr rfl)) (hd : (x == ("__debug__" : Str)) = false := by decide)
    (hcd : (x == ("__classdict__" : Str)) = false := by decide) : PE X (.Name x pos) (Te X.K X.mg W (eV i)) := by
  refine PE.imp (pe_var (i := i) hN hv hd hcd) fun σ H Q h => ?_
  obtain ⟨m, env, s, r, E, g⟩ := h
  unfold eV at g
  cases q : env[i]? with
  | none => rw [q] at g; exact g.elim
  | some o =>
    cases o with
    | none => rw [q] at g; exact g.elim
    | some d =>
      rw [q] at g
      obtain ⟨v, h1, h2⟩ := E.2 i d q
      exact ⟨v, h1, g.now r h2⟩
theorem ce_c {d : D} {v : V} (h : PE X e (tC v)) (r : ∀ m H, Rep X.K m H d v) : PE X e (Te X.K X.mg W (eC d)) :=
  PE.imp h fun σ H Q ⟨m, env, s, rl, E, g⟩ => g.now rl (r m H)
theorem ce_int {i j} : PE X (.Constant (.int i) j pos) (Te X.K X.mg W (eC (.int i))) := ce_c pe_int fun _ _ => .int _
theorem ce_bl {i j} : PE X (.Constant (.bool i) j pos) (Te X.K X.mg W (eC (.bl i))) := ce_c pe_bl fun _ _ => .bl _
theorem ce_non {j} : PE X (.Constant .none j pos) (Te X.K X.mg W (eC .non)) := ce_c pe_non fun _ _ => .non
theorem ce_str {x j} : PE X (.Constant (.str x) j pos) (Te X.K X.mg W (eC (.str x))) := ce_c pe_str fun _ _ => .str _
theorem ce_glob {x : Str} {d : D} {v : V} {u : Value} (hg : Gl X x) (hm : X.mg x = some u) (r : RelV v u) (q : ∀ m H, Rep X.K m H d v) (hd : (x == ("__debug__" : Str)) = false := by decide) : PE X (.Name x pos) (Te X.K X.mg W (eC d)) := ce_c (pe_glob hg hm r hd) q
/-- an operation on values, with its mirror -/
def OpS (K : PySem.W.Frag) (r : R2) (g : D → D → Store → Option (D × Store)) : Prop :=
  ∀ {mg : Str → Option Value} {W : WX} {σ : L2.St} {m : List Addr} {H : Hp} {s : Store} {x y : V} {dx dy : D} {Q : VK}, Rel K m H s → Rep K m H dx x → Rep K m H dy y → G K mg (Rep K) W σ m H Q (R.of (g dx dy s)) → r x y H Q
theorem e2_run {r : R2} {g : D → D → Store → Option (D × Store)} (hs : OpS X.K r g) : ∀ σ H Q, Te X.K X.mg W (e2 g fa fb) σ H Q → tOp r (Te X.K X.mg W fa) (Te X.K X.mg W fb) σ H Q := fun σ H Q h =>
  Tm.bind (k := fun env x s => (fb env s).bind fun y s => R.of (g x y s)) h fun m1 H1 env x v s1 r1 E1 p1 g1 =>
    ⟨m1, env, s1, r1, E1, G.bind g1 fun m2 H2 y u s2 l2 r2 p2 g2 => hs r2 (p1.mono l2) p2 g2⟩
theorem ce_op {op : Operator} {r : R2} {g : D → D → Store → Option (D × Store)} (ho : OpR X (binaryOp op) r) (hs : OpS X.K r g) (ha : PE X a (Te X.K X.mg W fa)) (hb : PE X b (Te X.K X.mg W fb)) :
    PE X (.BinOp a op b pos) (Te X.K X.mg W (e2 g fa fb)) := PE.imp (pe_op ho ha hb) (e2_run hs)
theorem ce_cmp {op : CmpOp} {r : R2} {g : D → D → Store → Option (D × Store)} (ho : OpR X (compareOp op) r) (hs : OpS X.K r g) (ha : PE X a (Te X.K X.mg W fa)) (hb : PE X b (Te X.K X.mg W fb)) (hm : behindInMarks op b = false) :
    PE X (.Compare a [op] [b] pos) (Te X.K X.mg W (e2 g fa fb)) := PE.imp (pe_cmpR ho ha hb hm) (e2_run hs)
theorem ce_ix {r : R2} {g : D → D → Store → Option (D × Store)} (ho : IxR X r) (hs : OpS X.K r g) (ha : PE X a (Te X.K X.mg W fa)) (hb : PE X b (Te X.K X.mg W fb)) (hp : PlainIx b) :
    PE X (.Subscript a b pos) (Te X.K X.mg W (e2 g fa fb)) := PE.imp (pe_ix ho ha hb hp) (e2_run hs)
/-- a test of a value that is a bool -/
theorem tv_run {t : TE} (hp : ∀ σ H Q, Te X.K X.mg W fa σ H Q → t σ H Q) : ∀ σ H Q, Tt X.K X.mg W (tV fa) σ H Q → t σ H fun x H' => ∃ k, x = .bl k ∧ Q k H' := fun σ H Q h =>
  hp σ H _ (Tm.bind (k := fun _ x s => match x with | .bl b => R.ok b s | _ => R.no) h fun m1 H1 env x v s1 r1 E1 p1 g1 => by
    cases x with
    | bl k => cases p1; exact ⟨k, rfl, g1.nowB r1⟩
    | _ => exact g1.elim)
theorem ct_v (ha : PE X a (Te X.K X.mg W fa)) (he : ∀ whole, isTrue a X.env whole = (do let v ← whole; standAt a.pos; holding [v] (truthy v)) := by intro _; rfl) : PT X a (Tt X.K X.mg W (tV fa)) :=
  PT.imp (pt_val ha he) (tv_run fun _ _ _ h => h)
theorem ct_cmp {op : CmpOp} {r : R2} {g : D → D → Store → Option (D × Store)} (ho : OpR X (compareOp op) r) (hs : OpS X.K r g) (ha : PE X a (Te X.K X.mg W fa)) (hb : PE X b (Te X.K X.mg W fb)) (hm : behindInMarks op b = false) :
    PT X (.Compare a [op] [b] pos) (Tt X.K X.mg W (tV (e2 g fa fb))) := PT.imp (pt_cmpR ho ha hb hm) (tv_run (e2_run hs))
theorem chain_run {r r' : R2} {g g' : D → D → Store → Option (D × Store)} (hs : OpS X.K r g) (hs' : OpS X.K r' g') : ∀ σ H Q, Te X.K X.mg W (eChain g g' fa fb fc) σ H Q → tChain r r' (Te X.K X.mg W fa) (Te X.K X.mg W fb) (Te X.K X.mg W fc) σ H Q := fun σ H Q h =>
  Tm.bind (k := fun env x s => (fb env s).bind fun y s => (R.of (g x y s)).bind fun z s => match z with | .bl true => (fc env s).bind fun w s => R.of (g' y w s) | .bl false => R.ok (D.bl false) s | _ => R.no) h fun m1 H1 env x v s1 r1 E1 p1 g1 =>
    ⟨m1, env, s1, r1, E1, G.bind g1 fun m2 H2 y u s2 l2 r2 p2 g2 => hs r2 (p1.mono l2) p2 (G.bind g2 fun m3 H3 z w s3 l3 r3 p3 g3 => by
      cases z with
      | bl k =>
        cases p3
        refine ⟨k, rfl, ?_⟩
        cases k with
        | true => exact iteT ⟨m3, env, s3, r3, (E1.mono l2).mono l3, G.bind g3 fun m4 H4 z w s4 l4 r4 p4 g4 => hs' r4 ((p2.mono l3).mono l4) p4 g4⟩
        | false => exact iteF (g3.now r3 (.bl false))
      | _ => exact g3.elim)⟩
theorem ce_chain {op op' : CmpOp} {r r' : R2} {g g' : D → D → Store → Option (D × Store)} (ho : OpR X (compareOp op) r) (hs : OpS X.K r g) (ho' : OpR X (compareOp op') r') (hs' : OpS X.K r' g') (ha : PE X a (Te X.K X.mg W fa)) (hb : PE X b (Te X.K X.mg W fb)) (hc : PE X c (Te X.K X.mg W fc))
    (hm : lastMarks [op, op'] [b, c] = false := by with_unfolding_all rfl) : PE X (.Compare a [op, op'] [b, c] pos) (Te X.K X.mg W (eChain g g' fa fb fc)) := PE.imp (pe_chain ho ho' ha hb hc hm) (chain_run hs hs')
theorem ct_chain {op op' : CmpOp} {r r' : R2} {g g' : D → D → Store → Option (D × Store)} (ho : OpR X (compareOp op) r) (hs : OpS X.K r g) (ho' : OpR X (compareOp op') r') (hs' : OpS X.K r' g') (ha : PE X a (Te X.K X.mg W fa)) (hb : PE X b (Te X.K X.mg W fb)) (hc : PE X c (Te X.K X.mg W fc))
    (hm : lastMarks [op, op'] [b, c] = false := by with_unfolding_all rfl) : PT X (.Compare a [op, op'] [b, c] pos) (Tt X.K X.mg W (tV (eChain g g' fa fb fc))) := PT.imp (pt_chain ho ho' ha hb hc hm) (tv_run (chain_run hs hs'))
/-! #### tests -/
theorem cw_and1 (ha : PT X a (Tt X.K X.mg W ga)) : PW X (.BoolOp .And [a] pos) (Tt X.K X.mg W ga) := pw_and1 ha
theorem cw_or1 (ha : PT X a (Tt X.K X.mg W ga)) : PW X (.BoolOp .Or [a] pos) (Tt X.K X.mg W ga) := pw_or1 ha
theorem cw_and {rest : List Expr} (ha : PT X a (Tt X.K X.mg W ga)) (hb : PW X (.BoolOp .And (b :: rest) pos) (Tt X.K X.mg W gb)) : PW X (.BoolOp .And (a :: b :: rest) pos) (Tt X.K X.mg W (tAnd ga gb)) :=
  PW.imp (pw_and ha hb) fun σ H Q h => Tm.bind (k := fun env x s => if x then gb env s else R.ok false s) h fun m1 H1 env x v s1 r1 E1 p1 g1 => by
    cases (show x = v from p1)
    cases x with
    | true => exact iteT ⟨m1, env, s1, r1, E1, g1⟩
    | false => exact iteF (G.nowB g1 r1)
theorem cw_or {rest : List Expr} (ha : PT X a (Tt X.K X.mg W ga)) (hb : PW X (.BoolOp .Or (b :: rest) pos) (Tt X.K X.mg W gb)) : PW X (.BoolOp .Or (a :: b :: rest) pos) (Tt X.K X.mg W (tOr ga gb)) :=
  PW.imp (pw_or ha hb) fun σ H Q h => Tm.bind (k := fun env x s => if x then R.ok true s else gb env s) h fun m1 H1 env x v s1 r1 E1 p1 g1 => by
    cases (show x = v from p1)
    cases x with
    | true => exact iteT (G.nowB g1 r1)
    | false => exact iteF ⟨m1, env, s1, r1, E1, g1⟩
theorem ct_not (ha : PT X a (Tt X.K X.mg W ga)) : PT X (.UnaryOp .Not a pos) (Tt X.K X.mg W (tNot ga)) :=
  PT.imp (pt_not ha) fun σ H Q h => Tm.bind (k := fun env x s => R.ok (!x) s) h fun m1 H1 env x v s1 r1 E1 p1 g1 => by
    cases (show x = v from p1)
    exact G.nowB g1 r1
theorem ce_ifExp (hc : PT X c (Tt X.K X.mg W ga)) (ha : PE X a (Te X.K X.mg W fa)) (hb : PE X b (Te X.K X.mg W fb)) : PE X (.IfExp c a b pos) (Te X.K X.mg W (eIf ga fa fb)) :=
  PE.imp (pe_ifExp hc ha hb) fun σ H Q h => Tm.bind (k := fun env x s => if x then fa env s else fb env s) h fun m1 H1 env x v s1 r1 E1 p1 g1 => by
    cases (show x = v from p1)
    cases x with
    | true => exact iteT ⟨m1, env, s1, r1, E1, g1⟩
    | false => exact iteF ⟨m1, env, s1, r1, E1, g1⟩
theorem ce_one {op} {t : TE} (h : PE X a t) : PE X (.BoolOp op [a] pos) t := pe_one h
theorem ce_and {rest : List Expr} (ha : PE X a (Te X.K X.mg W fa)) (hb : PE X (.BoolOp .And (b :: rest) pos) (Te X.K X.mg W fb)) : PE X (.BoolOp .And (a :: b :: rest) pos) (Te X.K X.mg W (eAnd fa fb)) :=
  PE.imp (pe_and ha hb) fun σ H Q h => Tm.bind (k := fun env x s => match x with | .bl true => fb env s | .bl false => R.ok (D.bl false) s | _ => R.no) h fun m1 H1 env x v s1 r1 E1 p1 g1 => by
    cases x with
    | bl k =>
      cases p1
      refine ⟨k, rfl, ?_⟩
      cases k with
      | true => exact iteT ⟨m1, env, s1, r1, E1, g1⟩
      | false => exact iteF (g1.now r1 (.bl false))
    | _ => exact g1.elim
theorem ce_or {rest : List Expr} (ha : PE X a (Te X.K X.mg W fa)) (hb : PE X (.BoolOp .Or (b :: rest) pos) (Te X.K X.mg W fb)) : PE X (.BoolOp .Or (a :: b :: rest) pos) (Te X.K X.mg W (eOr fa fb)) :=
  PE.imp (pe_or ha hb) fun σ H Q h => Tm.bind (k := fun env x s => match x with | .bl true => R.ok (D.bl true) s | .bl false => fb env s | _ => R.no) h fun m1 H1 env x v s1 r1 E1 p1 g1 => by
    cases x with
    | bl k =>
      cases p1
      refine ⟨k, rfl, ?_⟩
      cases k with
      | true => exact iteT (g1.now r1 (.bl true))
      | false => exact iteF ⟨m1, env, s1, r1, E1, g1⟩
    | _ => exact g1.elim
theorem ce_not (ha : PE X a (Te X.K X.mg W fa)) : PE X (.UnaryOp .Not a pos) (Te X.K X.mg W (eNot fa)) :=
  PE.imp (pe_not ha) fun σ H Q h => Tm.bind (k := fun env x s => match x with | .bl c => R.ok (D.bl !c) s | _ => R.no) h fun m1 H1 env x v s1 r1 E1 p1 g1 => by
    cases x with
    | bl k => cases p1; exact ⟨k, rfl, g1.now r1 (.bl _)⟩
    | _ => exact g1.elim
/-! #### argument lists, displays -/
theorem ca_nil : PA X [] (Ta X.K X.mg W aNil) := PA.imp pa_nil fun σ H Q ⟨m, env, s, r, E, g⟩ => g m H [] .refl r .nil
theorem ca_cons (ha : PE X e (Te X.K X.mg W fa)) (hr : PA X es (Ta X.K X.mg W fs)) (hs : starEach (e :: es) X.env = (false, eval e X.env) :: starEach es X.env := by rfl) : PA X (e :: es) (Ta X.K X.mg W (aCons fa fs)) :=
  PA.imp (pa_cons ha hr hs) fun σ H Q h => Tm.bind (k := fun env x s => (fs env s).bind fun xs s => R.ok (x :: xs) s) h fun m1 H1 env x v s1 r1 E1 p1 g1 =>
    ⟨m1, env, s1, r1, E1, G.bind g1 fun m2 H2 xs vs s2 l2 r2 p2 g2 => g2 m2 H2 _ .refl r2 (.cons (p1.mono l2) p2)⟩
theorem ce_tup {k : Nat} (h : PA X es (Ta X.K X.mg W fs)) : PE X (.Tuple es k pos) (Te X.K X.mg W (eTup fs)) :=
  PE.imp (pe_tup h) fun σ H Q h => Tm.bind (k := fun env xs s => if xs.length ≤ sizeLine then R.ok (D.tup xs) s else R.no) h fun m1 H1 env xs vs s1 r1 E1 p1 g1 => by
    by_cases hz : xs.length ≤ sizeLine
    · simp only [hz, if_true] at g1
      exact ⟨by rw [← p1.length]; exact hz, fun p hp => g1 m1 _ _ (le_new hp) (r1.tmp hp) (rep_newtup hp p1)⟩
    · simp only [hz, if_false] at g1
      exact g1.elim
theorem newlist {xs : List D} {vs : List V} {m : List Addr} {H : Hp} {s : Store} {σ : L2.St} {Q : VK} {mg : Str → Option Value} (r : Rel X.K m H s) (p : Reps X.K m H xs vs) (g : G X.K mg (Rep X.K) W σ m H Q (.ok (.loc s.length) (s ++ [.lst xs]))) :
    ∀ q, H q = none → Q (.ref q) (upd H q (.lst vs)) := fun q hq => g (m ++ [q]) _ _ (le_more r hq) (rel_newlist r hq p) (.loc (len_get r))
theorem ce_lst (h : PA X es (Ta X.K X.mg W fs)) : PE X (.List es pos) (Te X.K X.mg W (eLst fs)) :=
  PE.imp (pe_lst h) fun σ H Q h => Tm.bind (k := fun env xs s => if xs.length ≤ sizeLine then R.ok (D.loc s.length) (s ++ [.lst xs]) else R.no) h fun m1 H1 env xs vs s1 r1 E1 p1 g1 => by
    by_cases hz : xs.length ≤ sizeLine
    · simp only [hz, if_true] at g1
      exact ⟨by rw [← p1.length]; exact hz, newlist r1 p1 g1⟩
    · simp only [hz, if_false] at g1
      exact g1.elim
/-! #### calls of builtins, by values -/
def FnS (K : PySem.W.Frag) (r : List V → Hp → VK → Prop) (g : List D → Store → Option (D × Store)) : Prop :=
  ∀ {mg : Str → Option Value} {W : WX} {σ : L2.St} {m : List Addr} {H : Hp} {s : Store} {xs : List V} {ds : List D} {Q : VK}, Rel K m H s → Reps K m H ds xs → G K mg (Rep K) W σ m H Q (R.of (g ds s)) → r xs H Q
theorem eFn_run {r : List V → Hp → VK → Prop} {g : List D → Store → Option (D × Store)} (hs : FnS X.K r g) : ∀ σ H Q, Te X.K X.mg W (eFn g fs) σ H Q → tCB r (Ta X.K X.mg W fs) σ H Q := fun σ H Q h =>
  Tm.bind (k := fun env xs s => R.of (g xs s)) h fun m1 H1 env x v s1 r1 E1 p1 g1 => hs r1 p1 g1
theorem ce_callB {x id : String} {p : Pos} {r : List V → Hp → VK → Prop} {g : List D → Store → Option (D × Store)} (hc : CallR X (.builtin id) r) (hs : FnS X.K r g) (hg : Gl X x) (hm : X.mg x = none) (hv : bootBuiltins x = some (.builtin id)) (ha : PA X (e :: es) (Ta X.K X.mg W fs))
    (hn : (x : Str) ≠ "__name__" := by decide) (hdb : ((x : Str) == ("__debug__" : Str)) = false := by decide)
    (he : starEach (e :: es) X.env = (false, eval e X.env) :: starEach es X.env := by rfl) (hpl : (backTo pos (starEach es X.env)).any (·.1) = false := by rfl) : PE X (.Call (.Name x p) (e :: es) [] pos) (Te X.K X.mg W (eFn g fs)) :=
  PE.imp (pe_callB hc hg hm hv ha hn hdb he hpl) (eFn_run hs)
theorem ce_callTy {x id : String} {p : Pos} {r : List V → Hp → VK → Prop} {g : List D → Store → Option (D × Store)} (hc : CallR X (.type id) r) (hs : FnS X.K r g) (hg : Gl X x) (hm : X.mg x = none) (hv : bootBuiltins x = some (.type id)) (ha : PA X (e :: es) (Ta X.K X.mg W fs))
    (hn : (x : Str) ≠ "__name__" := by decide) (hdb : ((x : Str) == ("__debug__" : Str)) = false := by decide)
    (he : starEach (e :: es) X.env = (false, eval e X.env) :: starEach es X.env := by rfl) (hpl : (backTo pos (starEach es X.env)).any (·.1) = false := by rfl) : PE X (.Call (.Name x p) (e :: es) [] pos) (Te X.K X.mg W (eFn g fs)) :=
  PE.imp (pe_callTy hc hg hm hv ha hn hdb he hpl) (eFn_run hs)
/-! #### one-place -/
def UnS (K : PySem.W.Frag) (r : V → Hp → VK → Prop) (g : D → Store → Option (D × Store)) : Prop :=
  ∀ {mg : Str → Option Value} {W : WX} {σ : L2.St} {m : List Addr} {H : Hp} {s : Store} {x : V} {d : D} {Q : VK}, Rel K m H s → Rep K m H d x → G K mg (Rep K) W σ m H Q (R.of (g d s)) → r x H Q
theorem ce_un {op : UnaryOp} {r : V → Hp → VK → Prop} {g : D → Store → Option (D × Store)} (ho : UnR X (unaryOp op) r) (hs : UnS X.K r g) (ha : PE X a (Te X.K X.mg W fa)) : PE X (.UnaryOp op a pos) (Te X.K X.mg W (e1 g fa)) :=
  PE.imp (pe_un ho ha) fun σ H Q h => Tm.bind (k := fun env x s => R.of (g x s)) h fun m1 H1 env x v s1 r1 E1 p1 g1 => hs r1 p1 g1
/-! #### a def's promise: its mirror's value -/
def spM (K : PySem.W.Frag) (mg : Str → Option Value) (n : Nat) (g : List D → Store → R D) : Sp := fun vs H Q E => vs.length = n ∧
  ∃ m s ds, Rel K m H s ∧ Reps K m H ds vs ∧ G K mg (Rep K) (fun c d _ H => E c d H) [] m H Q (g ds s)
theorem ce_call {k n : Nat} {f : Addr} {fd : FuncData} {ps : List Str} {x : Str} {p : Pos} {g : List D → Store → R D} (F : FnOk X.prog X.w X.K X.mg X.base (L2.CX X.prog X.w) k f fd ps (spM X.K X.mg n g)) (hr : Room k X.A) (tk : Takes X W) (hg : Gl X x) (hm : X.mg x = some (.ref f)) (hk : PySem.W.keepIn X.K (.ref f) = true) (hb : Binds X.K fd ps [])
    (hn : ∀ xs s env, ∀ s', fs env s = .ok xs s' → xs.length = n) (ha : PA X (e :: es) (Ta X.K X.mg W fs)) (hdb : (x == ("__debug__" : Str)) = false := by decide) (he : starEach (e :: es) X.env = (false, eval e X.env) :: starEach es X.env := by rfl) (hpl : (backTo pos (starEach es X.env)).any (·.1) = false := by rfl) :
    PE X (.Call (.Name x p) (e :: es) [] pos) (Te X.K X.mg W (eCall g fs)) :=
  PE.imp (pe_callS (E := WE W) F hr hg hm hk hb (fun σ => passAt tk σ) ha hdb he hpl) fun σ H Q h => by
    obtain ⟨m, env, s, r, E, g0⟩ := h
    refine ⟨m, env, s, r, E, ?_⟩
    unfold eCall at g0
    cases hf : fs env s with
    | ok xs s1 =>
      rw [hf] at g0
      intro m1 H1 vs l1 r1 p1
      refine ⟨by rw [← p1.length]; exact hn xs s env s1 hf, m1, s1, xs, r1, p1, ?_⟩
      have g1 : G X.K X.mg (Rep X.K) W σ m H Q (g xs s1) := g0
      have g2 := g1.mono l1
      cases hgx : g xs s1 with
      | ok a s2 => rw [hgx] at g2; exact g2
      | ex x2 s2 => rw [hgx] at g2; exact g2
      | no => rw [hgx] at g2; exact g2
    | ex x s1 => rw [hf] at g0; exact g0
    | no => rw [hf] at g0; exact g0.elim
end
end Mi
namespace Mi
open PySem PySem.Spec PyProof.Rows L2
/-! ### operations on values: mirrors and their rules -/
section
variable {K : PySem.W.Frag}
theorem OpS.or {r r' : R2} {g : D → D → Store → Option (D × Store)} (h : ∀ {mg : Str → Option Value} {W : WX} {σ : L2.St} {m : List Addr} {H : Hp} {s : Store} {x y : V} {dx dy : D} {Q : VK}, Rel K m H s → Rep K m H dx x → Rep K m H dy y → G K mg (Rep K) W σ m H Q (R.of (g dx dy s)) → r x y H Q ∨ r' x y H Q) : OpS K (fun x y H Q => r x y H Q ∨ r' x y H Q) g := h
/-- two ints -/
def dI (f : Int → Int → Option D) : D → D → Store → Option (D × Store)
  | .int i, .int j, s => (f i j).map fun d => (d, s)
  | _, _, _ => none
theorem ops_dI {C : Int → Int → Prop} {gv : Int → Int → V} {f : Int → Int → Option D} (h : ∀ i j d, f i j = some d → C i j ∧ ∀ m H, Rep K m H d (gv i j)) : OpS K (rI C gv) (dI f) := by
  intro mg W σ m H s x y dx dy Q r px py g
  cases dx with
  | int i =>
    cases dy with
    | int j =>
      cases px; cases py
      cases e : f i j with
      | none => rw [show R.of (dI f (.int i) (.int j) s) = R.no by simp [dI, e]] at g; exact g.elim
      | some d =>
        rw [show R.of (dI f (.int i) (.int j) s) = .ok d s by simp [dI, e]] at g
        obtain ⟨h1, h2⟩ := h i j d e
        exact ⟨i, j, rfl, rfl, h1, g.now r (h2 m H)⟩
    | _ => exact g.elim
  | _ => exact g.elim
theorem ops_dI0 {gv : Int → Int → V} {f : Int → Int → D} (h : ∀ i j m H, Rep K m H (f i j) (gv i j)) : OpS K (rI0 gv) (dI fun i j => some (f i j)) := by
  intro mg W σ m H s x y dx dy Q r px py g
  obtain ⟨i, j, e1, e2, _, q⟩ := ops_dI (K := K) (C := fun _ _ => True) (gv := gv) (fun i j d e => ⟨trivial, by cases e; exact h i j⟩) r px py g
  exact ⟨i, j, e1, e2, q⟩
def dAdd : D → D → Store → Option (D × Store)
  | .int i, .int j, s => some (.int (i + j), s)
  | .str x, .str y, s => if x.length + y.length ≤ sizeLine then some (.str (x ++ y), s) else none
  | .tup xs, .tup ys, s => if xs.length + ys.length ≤ sizeLine then some (.tup (xs ++ ys), s) else none
  | .loc l, .loc k, s => match s[l]?, s[k]? with
    | some (.lst xs), some (.lst ys) => if xs.length + ys.length ≤ sizeLine then some (.loc s.length, s ++ [.lst (xs ++ ys)]) else none
    | _, _ => none
  | _, _, _ => none
def rAddA (K : PySem.W.Frag) : R2 := fun x y H Q => rI0 (fun i j => .int (i + j)) x y H Q ∨ (∃ i j, x = .str i ∧ y = .str j ∧ i.length + j.length ≤ sizeLine ∧ Q (.str (i ++ j)) H) ∨ rCatA K x y H Q ∨ rCat x y H Q
theorem op_addA {X : Cx} : OpR X (binaryOp .Add) (rAddA X.K) := op_add.or (op_add_str.or (op_catA.or op_cat))
theorem ops_add : OpS K (rAddA K) dAdd := by
  intro mg W σ m H s x y dx dy Q r px py g
  cases dx with
  | int i =>
    cases dy with
    | int j => cases px; cases py; exact .inl ⟨i, j, rfl, rfl, g.now r (.int _)⟩
    | _ => exact g.elim
  | str i =>
    cases dy with
    | str j =>
      cases px; cases py
      by_cases hz : i.length + j.length ≤ sizeLine
      · rw [show dAdd (.str i) (.str j) s = some (.str (i ++ j), s) by simp [dAdd, hz]] at g
        exact .inr (.inl ⟨i, j, rfl, rfl, hz, g.now r (.str _)⟩)
      · rw [show dAdd (.str i) (.str j) s = none by simp [dAdd, hz]] at g; exact g.elim
    | _ => exact g.elim
  | tup xs =>
    cases dy with
    | tup ys =>
      cases px with
      | tup h1 r1 =>
        cases py with
        | tup h2 r2 =>
          by_cases hz : xs.length + ys.length ≤ sizeLine
          · rw [show dAdd (.tup xs) (.tup ys) s = some (.tup (xs ++ ys), s) by simp [dAdd, hz]] at g
            refine .inr (.inr (.inl ⟨_, _, _, _, rfl, rfl, h1, h2, by rw [← r1.length, ← r2.length]; exact hz, fun e => ?_, fun _ e => ?_, fun _ _ p hp => ?_⟩))
            · subst e; cases r1; exact g.now r (.tup h2 r2)
            · subst e; cases r2; rw [List.append_nil] at g; exact g.now r (.tup h1 r1)
            · exact g m _ _ (le_new hp) (r.tmp hp) (rep_newtup hp (r1.append r2))
          · rw [show dAdd (.tup xs) (.tup ys) s = none by simp [dAdd, hz]] at g; exact g.elim
    | _ => exact g.elim
  | loc l =>
    cases dy with
    | loc k =>
      cases px with
      | loc h1 =>
        cases py with
        | loc h2 =>
          cases e1 : s[l]? with
          | none => rw [show dAdd (.loc l) (.loc k) s = none by simp [dAdd, e1]] at g; exact g.elim
          | some c1 =>
            cases c1 with
            | dic _ => rw [show dAdd (.loc l) (.loc k) s = none by simp [dAdd, e1]] at g; exact g.elim
            | lst xs =>
              cases e2 : s[k]? with
              | none => rw [show dAdd (.loc l) (.loc k) s = none by simp [dAdd, e1, e2]] at g; exact g.elim
              | some c2 =>
                cases c2 with
                | dic _ => rw [show dAdd (.loc l) (.loc k) s = none by simp [dAdd, e1, e2]] at g; exact g.elim
                | lst ys =>
                  by_cases hz : xs.length + ys.length ≤ sizeLine
                  · rw [show dAdd (.loc l) (.loc k) s = some (.loc s.length, s ++ [.lst (xs ++ ys)]) by simp [dAdd, e1, e2, hz]] at g
                    obtain ⟨vs, q1, p1⟩ := r.list h1 e1
                    obtain ⟨ws, q2, p2⟩ := r.list h2 e2
                    refine .inr (.inr (.inr ⟨_, _, vs, ws, rfl, rfl, q1, q2, by rw [← p1.length, ← p2.length]; exact hz, fun p hp => ?_⟩))
                    exact g (m ++ [p]) _ _ (le_more r hp) (rel_newlist r hp (p1.append p2)) (.loc (len_get r))
                  · rw [show dAdd (.loc l) (.loc k) s = none by simp [dAdd, e1, e2, hz]] at g; exact g.elim
    | _ => exact g.elim
  | _ => exact g.elim
def dSub := dI fun i j => some (.int (i - j))
theorem ops_sub : OpS K (rI0 fun i j => .int (i - j)) dSub := ops_dI0 fun _ _ _ _ => .int _
noncomputable instance (i j : Int) : Decidable (CMul i j) := Classical.propDecidable _
noncomputable instance (i j : Int) : Decidable (CDiv i j) := Classical.propDecidable _
noncomputable instance (i j : Int) : Decidable (CDivN i j) := Classical.propDecidable _
noncomputable instance (i j : Int) : Decidable (CPow i j) := Classical.propDecidable _
noncomputable def dMul := dI fun i j => if CMul i j then some (.int (i * j)) else none
theorem ops_mul : OpS K (rI CMul fun i j => .int (i * j)) dMul := ops_dI fun i j d h => by
  split at h
  · cases h; exact ⟨by assumption, fun _ _ => .int _⟩
  · cases h
noncomputable def dDiv := dI fun i j => if CDiv i j then some (.int (i / j)) else none
theorem ops_div : OpS K (rI CDiv fun i j => .int (i / j)) dDiv := ops_dI fun i j d h => by
  split at h
  · cases h; exact ⟨by assumption, fun _ _ => .int _⟩
  · cases h
noncomputable def dMod := dI fun i j => if 0 < j then some (.int (i % j)) else none
theorem ops_mod : OpS K (rI (fun _ j => 0 < j) fun i j => .int (i % j)) dMod := ops_dI fun i j d h => by
  split at h
  · cases h; exact ⟨by assumption, fun _ _ => .int _⟩
  · cases h
noncomputable def dPow := dI fun i j => if CPow i j then some (.int (i ^ j.toNat)) else none
theorem ops_pow : OpS K (rI CPow fun i j => .int (i ^ j.toNat)) dPow := ops_dI fun i j d h => by
  split at h
  · cases h; exact ⟨by assumption, fun _ _ => .int _⟩
  · cases h
def dNeg : D → Store → Option (D × Store)
  | .int i, s => some (.int (-i), s)
  | _, _ => none
theorem uns_neg : UnS K (rU fun i => .int (-i)) dNeg := by
  intro mg W σ m H s x d Q r p g
  cases d with
  | int i => cases p; exact ⟨i, rfl, g.now r (.int _)⟩
  | _ => exact g.elim
/-! #### comparisons -/
def dLt : D → D → Store → Option (D × Store)
  | .int i, .int j, s => some (.bl (decide (i < j)), s)
  | .str x, .str y, s => some (.bl (decide (x.cps.toList < y.cps.toList)), s)
  | _, _, _ => none
def dLe : D → D → Store → Option (D × Store)
  | .int i, .int j, s => some (.bl (decide (i ≤ j)), s)
  | .str x, .str y, s => some (.bl (!decide (y.cps.toList < x.cps.toList)), s)
  | _, _, _ => none
def dGt : D → D → Store → Option (D × Store)
  | .int i, .int j, s => some (.bl (decide (j < i)), s)
  | .str x, .str y, s => some (.bl (decide (y.cps.toList < x.cps.toList)), s)
  | _, _, _ => none
def dGe : D → D → Store → Option (D × Store)
  | .int i, .int j, s => some (.bl (decide (j ≤ i)), s)
  | .str x, .str y, s => some (.bl (!decide (x.cps.toList < y.cps.toList)), s)
  | _, _, _ => none
def rCmpA (f : Int → Int → Bool) (k : Str → Str → Bool) : R2 := fun x y H Q => rI0 (fun i j => .bl (f i j)) x y H Q ∨ ∃ i j, x = .str i ∧ y = .str j ∧ Q (.bl (k i j)) H
theorem ops_cmp {f : Int → Int → Bool} {k : Str → Str → Bool} {g : D → D → Store → Option (D × Store)} (h1 : ∀ i j s, g (.int i) (.int j) s = some (.bl (f i j), s)) (h2 : ∀ i j s, g (.str i) (.str j) s = some (.bl (k i j), s))
    (h3 : ∀ x y s, (∀ i j, x = .int i → y = .int j → False) → (∀ i j, x = .str i → y = .str j → False) → g x y s = none) : OpS K (rCmpA f k) g := by
  intro mg W σ m H s x y dx dy Q r px py q
  by_cases ha : ∃ i j, dx = .int i ∧ dy = .int j
  · obtain ⟨i, j, rfl, rfl⟩ := ha
    cases px; cases py
    rw [h1] at q
    exact .inl ⟨i, j, rfl, rfl, q.now r (.bl _)⟩
  · by_cases hb : ∃ i j, dx = .str i ∧ dy = .str j
    · obtain ⟨i, j, rfl, rfl⟩ := hb
      cases px; cases py
      rw [h2] at q
      exact .inr ⟨i, j, rfl, rfl, q.now r (.bl _)⟩
    · rw [h3 dx dy s (fun i j e1 e2 => ha ⟨i, j, e1, e2⟩) (fun i j e1 e2 => hb ⟨i, j, e1, e2⟩)] at q
      exact q.elim
theorem ops_lt : OpS K (rCmpA (fun i j => decide (i < j)) fun x y => decide (x.cps.toList < y.cps.toList)) dLt :=
  ops_cmp (fun _ _ _ => rfl) (fun _ _ _ => rfl) fun x y s h1 h2 => by cases x <;> cases y <;> first | rfl | exact (h1 _ _ rfl rfl).elim | exact (h2 _ _ rfl rfl).elim
theorem ops_le : OpS K (rCmpA (fun i j => decide (i ≤ j)) fun x y => !decide (y.cps.toList < x.cps.toList)) dLe :=
  ops_cmp (fun _ _ _ => rfl) (fun _ _ _ => rfl) fun x y s h1 h2 => by cases x <;> cases y <;> first | rfl | exact (h1 _ _ rfl rfl).elim | exact (h2 _ _ rfl rfl).elim
theorem ops_gt : OpS K (rCmpA (fun i j => decide (j < i)) fun x y => decide (y.cps.toList < x.cps.toList)) dGt :=
  ops_cmp (fun _ _ _ => rfl) (fun _ _ _ => rfl) fun x y s h1 h2 => by cases x <;> cases y <;> first | rfl | exact (h1 _ _ rfl rfl).elim | exact (h2 _ _ rfl rfl).elim
theorem ops_ge : OpS K (rCmpA (fun i j => decide (j ≤ i)) fun x y => !decide (x.cps.toList < y.cps.toList)) dGe :=
  ops_cmp (fun _ _ _ => rfl) (fun _ _ _ => rfl) fun x y s h1 h2 => by cases x <;> cases y <;> first | rfl | exact (h1 _ _ rfl rfl).elim | exact (h2 _ _ rfl rfl).elim
theorem opA_lt {X : Cx} : OpR X (compareOp .Lt) (rCmpA (fun i j => decide (i < j)) fun x y => decide (x.cps.toList < y.cps.toList)) := op_lt.or op_lt_str
theorem opA_le {X : Cx} : OpR X (compareOp .LtE) (rCmpA (fun i j => decide (i ≤ j)) fun x y => !decide (y.cps.toList < x.cps.toList)) := op_le.or op_le_str
theorem opA_gt {X : Cx} : OpR X (compareOp .Gt) (rCmpA (fun i j => decide (j < i)) fun x y => decide (y.cps.toList < x.cps.toList)) := op_gt.or op_gt_str
theorem opA_ge {X : Cx} : OpR X (compareOp .GtE) (rCmpA (fun i j => decide (j ≤ i)) fun x y => !decide (x.cps.toList < y.cps.toList)) := op_ge.or op_ge_str
/-! #### == and != -/
mutual
/-- data without places -/
def py0 : D → Option PyData
  | .non => some .none
  | .bl b => some (.bool b)
  | .int i => some (.int i)
  | .str x => some (.str x)
  | .tup xs => (pys0 xs).map .tuple
  | .fl xs => (pys0 xs).map .list
  | .loc _ => none
  | .exv _ _ => none
def pys0 : List D → Option (List PyData)
  | [] => some []
  | x :: xs => (py0 x).bind fun a => (pys0 xs).map fun r => a :: r
end
/-- data, a list of the store at its head -/
def py1 (s : Store) : D → Option PyData
  | .loc l => match s[l]? with
    | some (.lst xs) => (pys0 xs).map .list
    | _ => none
  | d => py0 d
mutual
theorem py0_dp {m : List Addr} {H : Hp} : ∀ {d : D} {v : V} {p : PyData}, Rep K m H d v → py0 d = some p → Dp K H v p
  | .non, _, _, .non, e => by cases e; exact .non
  | .bl b, _, _, .bl _, e => by cases e; exact .bl b
  | .int b, _, _, .int _, e => by cases e; exact .int b
  | .str b, _, _, .str _, e => by cases e; exact .str b
  | .tup xs, _, _, .tup h r, e => by
    unfold py0 at e
    cases q : pys0 xs with
    | none => rw [q] at e; cases e
    | some ps => rw [q] at e; cases e; exact .tup h (pys0_dp r q)
  | .fl xs, _, _, .fl h r, e => by
    unfold py0 at e
    cases q : pys0 xs with
    | none => rw [q] at e; cases e
    | some ps => rw [q] at e; cases e; exact .lst h.sq (pys0_dp r q)
  | .loc _, _, _, _, e => by cases e
  | .exv _ _, _, _, _, e => by cases e
theorem pys0_dp {m : List Addr} {H : Hp} : ∀ {ds : List D} {vs : List V} {ps : List PyData}, Reps K m H ds vs → pys0 ds = some ps → DpAll K H vs ps
  | [], _, _, .nil, e => by cases e; exact .nil
  | x :: xs, _, _, .cons h r, e => by
    unfold pys0 at e
    cases q : py0 x with
    | none => rw [q] at e; cases e
    | some a =>
      cases q2 : pys0 xs with
      | none => rw [q, q2] at e; cases e
      | some b => rw [q, q2] at e; cases e; exact .cons (py0_dp h q) (pys0_dp r q2)
end
theorem py1_dp {m : List Addr} {H : Hp} {s : Store} (r : Rel K m H s) {d : D} {v : V} {p : PyData} (h : Rep K m H d v) (e : py1 s d = some p) : Dp K H v p := by
  cases d with
  | loc l =>
    cases h with
    | loc h =>
      unfold py1 at e
      cases q : s[l]? with
      | none => simp [q] at e
      | some c =>
        cases c with
        | dic _ => simp [q] at e
        | lst xs =>
          simp only [q] at e
          obtain ⟨vs, q1, p1⟩ := r.list h q
          cases q2 : pys0 xs with
          | none => rw [q2] at e; cases e
          | some ps => rw [q2] at e; cases e; exact .lst (.inl (.inl q1)) (pys0_dp p1 q2)
  | _ => exact py0_dp h e
/-- scalars that == tells apart without more -/
def dScal : D → D → Option Bool
  | .non, .non => some true
  | .non, .int _ => some false | .int _, .non => some false | .non, .bl _ => some false | .bl _, .non => some false | .non, .str _ => some false | .str _, .non => some false
  | .int i, .int j => some (decide (i = j)) | .bl i, .bl j => some (decide (i = j)) | .str i, .str j => some (decide (i = j))
  | .int _, .str _ => some false | .str _, .int _ => some false | .bl _, .str _ => some false | .str _, .bl _ => some false
  | _, _ => none
def dEqB (x y : D) (s : Store) : Option Bool := match dScal x y with
  | some b => some b
  | none => (py1 s x).bind fun a => (py1 s y).bind fun b => if SeqAt.shaped a && SeqAt.shaped b then some (PyData.eqv a b) else none
def dEq (x y : D) (s : Store) : Option (D × Store) := (dEqB x y s).map fun b => (.bl b, s)
def dNe (x y : D) (s : Store) : Option (D × Store) := (dEqB x y s).map fun b => (.bl !b, s)
def rEqA (K : PySem.W.Frag) : R2 := fun x y H Q => rEq x y H Q ∨ rEqD K x y H Q
def rNeA (K : PySem.W.Frag) : R2 := fun x y H Q => rNe x y H Q ∨ rNeD K x y H Q
theorem opA_eq {X : Cx} (hu : X.A.units + 64 < cLine) : OpR X (compareOp .Eq) (rEqA X.K) := op_eq.or (op_eqD hu)
theorem opA_ne {X : Cx} (hu : X.A.units + 64 < cLine) : OpR X (compareOp .NotEq) (rNeA X.K) := op_ne.or (op_neD hu)
theorem scal_of {m : List Addr} {H : Hp} {dx dy : D} {x y : V} {b : Bool} (px : Rep K m H dx x) (py : Rep K m H dy y) (e : dScal dx dy = some b) : scal x y = true ∧ decide (x = y) = b := by
  cases px <;> cases py <;> first | (cases e; done) | (cases e; exact ⟨rfl, by simp⟩)
theorem eqB_cases {m : List Addr} {H : Hp} {s : Store} (r : Rel K m H s) {dx dy : D} {x y : V} {b : Bool} (px : Rep K m H dx x) (py : Rep K m H dy y) (e : dEqB dx dy s = some b) :
    (scal x y = true ∧ decide (x = y) = b) ∨ ∃ d e', Dp K H x d ∧ Dp K H y e' ∧ SeqAt.shaped d = true ∧ SeqAt.shaped e' = true ∧ PyData.eqv d e' = b := by
  unfold dEqB at e
  cases q : dScal dx dy with
  | some c => rw [q] at e; cases e; exact .inl (scal_of px py q)
  | none =>
    rw [q] at e
    cases q1 : py1 s dx with
    | none => rw [q1] at e; cases e
    | some a =>
      cases q2 : py1 s dy with
      | none => rw [q1, q2] at e; cases e
      | some c =>
        rw [q1, q2] at e
        simp only [Option.bind_some] at e
        split at e
        · rename_i hs
          rw [Bool.and_eq_true] at hs
          cases e
          exact .inr ⟨a, c, py1_dp r px q1, py1_dp r py q2, hs.1, hs.2, rfl⟩
        · cases e
theorem ops_eq : OpS K (rEqA K) dEq := by
  intro mg W σ m H s x y dx dy Q r px py g
  unfold dEq at g
  cases e : dEqB dx dy s with
  | none => rw [e] at g; exact g.elim
  | some b =>
    rw [e] at g
    have q := g.now r (.bl b)
    rcases eqB_cases r px py e with ⟨h1, h2⟩ | ⟨d, e', h1, h2, h3, h4, h5⟩
    · exact .inl ⟨h1, by rw [h2]; exact q⟩
    · exact .inr ⟨d, e', h1, h2, h3, h4, by rw [h5]; exact q⟩
theorem ops_ne : OpS K (rNeA K) dNe := by
  intro mg W σ m H s x y dx dy Q r px py g
  unfold dNe at g
  cases e : dEqB dx dy s with
  | none => rw [e] at g; exact g.elim
  | some b =>
    rw [e] at g
    have q := g.now r (.bl (!b))
    rcases eqB_cases r px py e with ⟨h1, h2⟩ | ⟨d, e', h1, h2, h3, h4, h5⟩
    · exact .inl ⟨h1, by rw [h2]; exact q⟩
    · exact .inr ⟨d, e', h1, h2, h3, h4, by rw [h5]; exact q⟩
/-! #### is, is not: None, True, False -/
theorem is_bool_gen {M : Model} {A : Around} {E : Value → Shared → Prop} {s : Shared} {Q : Value → Shared → Prop} {v : Value} {b : Bool} (hn : ∀ i, v ≠ .builtin i) (h : Q (.bool (v == .bool b)) s) : wpAny M A (compareOp .Is v (.bool b)) Q E s := by
  cases v <;> first | exact wpAny_pure h | exact (hn _ rfl).elim
theorem isnot_bool_gen {M : Model} {A : Around} {E : Value → Shared → Prop} {s : Shared} {Q : Value → Shared → Prop} {v : Value} {b : Bool} (hn : ∀ i, v ≠ .builtin i) (h : Q (.bool (!(v == .bool b))) s) : wpAny M A (compareOp .IsNot v (.bool b)) Q E s := by
  cases v <;> first | exact wpAny_pure h | exact (hn _ rfl).elim
theorem relv_nb {x : V} {v : Value} (r : RelV x v) : ∀ i, v ≠ .builtin i := fun i e => by
  subst e
  cases x with
  | non => cases r
  | bl c => cases r
  | int i => obtain ⟨t, e⟩ := r; cases e
  | str i => obtain ⟨t, e⟩ := r; cases e
  | byt i => obtain ⟨t, e⟩ := r; cases e
  | flt i => obtain ⟨t, e⟩ := r; cases e
  | ref i => cases r
  | ty i => cases r
theorem relv_bool {x : V} {v : Value} {b : Bool} (r : RelV x v) : (v == .bool b) = decide (x = .bl b) := by
  cases x with
  | non => cases r; simp
  | bl c => cases r; cases c <;> cases b <;> rfl
  | int i => obtain ⟨t, rfl⟩ := r; simp
  | str i => obtain ⟨t, rfl⟩ := r; simp
  | byt i => obtain ⟨t, rfl⟩ := r; simp
  | flt i => obtain ⟨t, rfl⟩ := r; simp
  | ref i => cases r; simp
  | ty i => cases r; simp
theorem op_isB {X : Cx} : OpR X (compareOp .Is) (fun x y H Q => ∃ b, y = .bl b ∧ Q (.bl (decide (x = .bl b))) H) := by
  intro pins s σ H x y v u Q I rx ry h
  obtain ⟨b, rfl, q⟩ := h
  cases ry
  exact is_bool_gen (relv_nb rx) (fin_bl I q (relv_bool rx).symm)
theorem op_notB {X : Cx} : OpR X (compareOp .IsNot) (fun x y H Q => ∃ b, y = .bl b ∧ Q (.bl (!decide (x = .bl b))) H) := by
  intro pins s σ H x y v u Q I rx ry h
  obtain ⟨b, rfl, q⟩ := h
  cases ry
  exact isnot_bool_gen (relv_nb rx) (fin_bl I q (by rw [relv_bool rx]))
def dIsB : D → D → Option Bool
  | .non, .non => some true
  | _, .non => some false
  | .bl c, .bl b => some (decide (c = b))
  | _, .bl _ => some false
  | _, _ => none
def dIs (x y : D) (s : Store) : Option (D × Store) := (dIsB x y).map fun b => (.bl b, s)
def dIsNot (x y : D) (s : Store) : Option (D × Store) := (dIsB x y).map fun b => (.bl !b, s)
def rIsA : R2 := fun x y H Q => (y = .non ∧ Q (.bl (decide (x = .non))) H) ∨ ∃ b, y = .bl b ∧ Q (.bl (decide (x = .bl b))) H
def rNotA : R2 := fun x y H Q => (y = .non ∧ Q (.bl (!decide (x = .non))) H) ∨ ∃ b, y = .bl b ∧ Q (.bl (!decide (x = .bl b))) H
theorem opA_is {X : Cx} : OpR X (compareOp .Is) rIsA := op_isN.or op_isB
theorem opA_isnot {X : Cx} : OpR X (compareOp .IsNot) rNotA := op_notN.or op_notB
theorem isB_cases {m : List Addr} {H : Hp} {dx dy : D} {x y : V} {b : Bool} (px : Rep K m H dx x) (py : Rep K m H dy y) (e : dIsB dx dy = some b) : (y = .non ∧ decide (x = .non) = b) ∨ ∃ c, y = .bl c ∧ decide (x = .bl c) = b := by
  cases py with
  | non => refine .inl ⟨rfl, ?_⟩; cases px <;> (cases e; simp)
  | bl c => refine .inr ⟨c, rfl, ?_⟩; cases px <;> (cases e; simp)
  | _ => cases px <;> cases e
theorem ops_is : OpS K rIsA dIs := by
  intro mg W σ m H s x y dx dy Q r px py g
  unfold dIs at g
  cases e : dIsB dx dy with
  | none => rw [e] at g; exact g.elim
  | some b =>
    rw [e] at g
    have q := g.now r (.bl b)
    rcases isB_cases px py e with ⟨rfl, h⟩ | ⟨c, rfl, h⟩
    · exact .inl ⟨rfl, by rw [h]; exact q⟩
    · exact .inr ⟨c, rfl, by rw [h]; exact q⟩
theorem ops_isnot : OpS K rNotA dIsNot := by
  intro mg W σ m H s x y dx dy Q r px py g
  unfold dIsNot at g
  cases e : dIsB dx dy with
  | none => rw [e] at g; exact g.elim
  | some b =>
    rw [e] at g
    have q := g.now r (.bl (!b))
    rcases isB_cases px py e with ⟨rfl, h⟩ | ⟨c, rfl, h⟩
    · exact .inl ⟨rfl, by rw [h]; exact q⟩
    · exact .inr ⟨c, rfl, by rw [h]; exact q⟩
end
end Mi
namespace Mi
open PySem PySem.Spec PyProof.Rows L2
section
variable {K : PySem.W.Frag} {m : List Addr} {H : Hp} {s : Store}
theorem Rep.sqT {xs : List D} {v : V} (h : Rep K m H (.tup xs) v) : ∃ a vs, v = .ref a ∧ SqT K H a vs ∧ Reps K m H xs vs := by
  cases h with
  | tup h r => exact ⟨_, _, rfl, h, r⟩
/-- the items of a list: of the store, or never written -/
def lstOf (s : Store) : D → Option (List D)
  | .loc l => match s[l]? with
    | some (.lst xs) => some xs
    | _ => none
  | .fl xs => some xs
  | _ => none
theorem lstOf_sq (r : Rel K m H s) {d : D} {v : V} {xs : List D} (p : Rep K m H d v) (e : lstOf s d = some xs) : ∃ a vs, v = .ref a ∧ SqL K H a vs ∧ Reps K m H xs vs := by
  cases d with
  | loc l =>
    cases p with
    | loc h =>
      unfold lstOf at e
      cases q : s[l]? with
      | none => simp [q] at e
      | some c =>
        cases c with
        | dic _ => simp [q] at e
        | lst ys =>
          simp only [q] at e
          cases e
          obtain ⟨vs, h1, h2⟩ := r.list h q
          exact ⟨_, vs, rfl, .inl (.inl h1), h2⟩
  | fl ys =>
    cases e
    cases p with
    | fl h q => exact ⟨_, _, rfl, h.sq, q⟩
  | _ => cases e
/-- list or tuple -/
def seqOf (s : Store) : D → Option (List D)
  | .tup xs => some xs
  | d => lstOf s d
theorem seqOf_sq (r : Rel K m H s) {d : D} {v : V} {xs : List D} (p : Rep K m H d v) (e : seqOf s d = some xs) : ∃ a vs, v = .ref a ∧ (SqL K H a vs ∨ SqT K H a vs) ∧ Reps K m H xs vs := by
  cases d with
  | tup ys =>
    cases e
    obtain ⟨a, vs, h1, h2, h3⟩ := p.sqT
    exact ⟨a, vs, h1, .inr h2, h3⟩
  | loc l => obtain ⟨a, vs, h1, h2, h3⟩ := lstOf_sq (d := .loc l) r p e; exact ⟨a, vs, h1, .inl h2, h3⟩
  | fl l => obtain ⟨a, vs, h1, h2, h3⟩ := lstOf_sq (d := .fl l) r p e; exact ⟨a, vs, h1, .inl h2, h3⟩
  | _ => cases e
/-! #### a[i] -/
def dIx (x i : D) (s : Store) : Option (D × Store) := match i with
  | .int i => match x with
    | .str z => if z.length ≤ sizeLine then (atI z.cps.toList i).map fun c => (.str ⟨#[c]⟩, s) else none
    | x => (seqOf s x).bind fun xs => (atI xs i).map fun d => (d, s)
  | _ => none
theorem Reps.atI {xs : List D} {vs : List V} {i : Int} {d : D} (r : Reps K m H xs vs) (e : L2.atI xs i = some d) : ∃ v, L2.atI vs i = some v ∧ Rep K m H d v := by
  unfold L2.atI at e ⊢
  rw [← r.length]
  cases q : ixN xs.length i with
  | none => rw [q] at e; cases e
  | some j =>
    rw [q] at e
    exact r.get e
theorem ops_ix : OpS K (rIx K) dIx := by
  intro mg W σ m H s x y dx dy Q r px py g
  cases dy with
  | int i =>
    cases py
    have seq : ∀ xs, seqOf s dx = some xs → (∀ d, L2.atI xs i = some d → G K mg (Rep K) W σ m H Q (.ok d s)) → (L2.atI xs i).isSome → rIx K x (.int i) H Q := by
      intro xs e q hs
      obtain ⟨d, hd⟩ := Option.isSome_iff_exists.mp hs
      obtain ⟨a, vs, rfl, hq, rr⟩ := seqOf_sq r px e
      obtain ⟨v, hv, rv⟩ := rr.atI hd
      have q2 := (q d hd).now r rv
      rcases hq with hq | hq
      · exact .inl ⟨a, vs, i, v, rfl, rfl, hq, hv, q2⟩
      · exact .inr (.inl ⟨a, vs, i, v, rfl, rfl, hq, hv, q2⟩)
    have gen : (∀ z, dx ≠ .str z) → rIx K x (.int i) H Q := by
      intro hn
      have e : dIx dx (.int i) s = (seqOf s dx).bind fun xs => (L2.atI xs i).map fun d => (d, s) := by
        cases dx <;> first | rfl | exact (hn _ rfl).elim
      rw [e] at g
      cases q : seqOf s dx with
      | none => rw [q] at g; exact g.elim
      | some xs =>
        rw [q] at g
        cases q2 : L2.atI xs i with
        | none => simp [q2] at g; exact g.elim
        | some d =>
          simp [q2] at g
          exact seq xs q (fun d' h => by rw [q2] at h; cases h; exact g) (by simp [q2])
    cases dx with
    | str z =>
      cases px
      by_cases hz : z.length ≤ sizeLine
      · cases q2 : L2.atI z.cps.toList i with
        | none => simp [dIx, hz, q2] at g; exact g.elim
        | some c =>
          simp [dIx, hz, q2] at g
          exact .inr (.inr ⟨z, i, c, rfl, rfl, hz, q2, g.now r (.str _)⟩)
      · simp [dIx, hz] at g; exact g.elim
    | _ => exact gen (fun z e => by cases e)
  | _ => exact g.elim
/-! #### slices -/
def cutD (xs : List D) (lo hi : Option Int) : List D := (xs.drop (HT.sIx xs.length 0 lo)).take (HT.sIx xs.length xs.length hi - HT.sIx xs.length 0 lo)
theorem Reps.cut {xs : List D} {vs : List V} (r : Reps K m H xs vs) (lo hi : Option Int) : Reps K m H (cutD xs lo hi) (cutV vs lo hi) := by
  unfold cutD cutV
  rw [← r.length]
  exact (r.drop _).take _
def dSl (x : D) (lo hi : Option Int) (s : Store) : Option (D × Store) := match x with
  | .tup xs => some (.tup (cutD xs lo hi), s)
  | x => (lstOf s x).map fun xs => (.loc s.length, s ++ [.lst (cutD xs lo hi)])
def SlS (K : PySem.W.Frag) (r : V → Option Int → Option Int → Hp → VK → Prop) (g : D → Option Int → Option Int → Store → Option (D × Store)) : Prop :=
  ∀ {mg : Str → Option Value} {W : WX} {σ : L2.St} {m : List Addr} {H : Hp} {s : Store} {x : V} {d : D} {lo hi : Option Int} {Q : VK}, Rel K m H s → Rep K m H d x → G K mg (Rep K) W σ m H Q (R.of (g d lo hi s)) → r x lo hi H Q
def rSlS : V → Option Int → Option Int → Hp → VK → Prop := fun x lo hi H Q => ∃ z : Str, x = .str z ∧ z.length ≤ sizeLine ∧ Q (.str (cutS z lo hi)) H
def rSlLT (K : PySem.W.Frag) : V → Option Int → Option Int → Hp → VK → Prop := fun x lo hi H Q => rSlL K x lo hi H Q ∨ rSlA K x lo hi H Q
theorem sl_LT {X : Cx} : SlR X (rSlLT X.K) := sl_list.or sl_tupA
theorem sls_LT : SlS K (rSlLT K) dSl := by
  intro mg W σ m H s x d lo hi Q r p g
  have lst : ∀ xs, lstOf s d = some xs → G K mg (Rep K) W σ m H Q (.ok (.loc s.length) (s ++ [.lst (cutD xs lo hi)])) → rSlLT K x lo hi H Q := by
    intro xs e q
    obtain ⟨a, vs, rfl, hq, rr⟩ := lstOf_sq r p e
    exact .inl ⟨a, vs, rfl, hq, fun q' hq' => q (m ++ [q']) _ _ (le_more r hq') (rel_newlist r hq' (rr.cut lo hi)) (.loc (len_get r))⟩
  have gen : (∀ ys, d ≠ .tup ys) → rSlLT K x lo hi H Q := by
    intro hn
    have e : dSl d lo hi s = (lstOf s d).map fun xs => (.loc s.length, s ++ [.lst (cutD xs lo hi)]) := by
      cases d <;> first | rfl | exact (hn _ rfl).elim
    rw [e] at g
    cases q : lstOf s d with
    | none => rw [q] at g; exact g.elim
    | some xs => rw [q] at g; exact lst xs q g
  cases d with
  | tup xs =>
    obtain ⟨a, vs, rfl, hq, rr⟩ := p.sqT
    have g' : G K mg (Rep K) W σ m H Q (.ok (.tup (cutD xs lo hi)) s) := g
    refine .inr ⟨a, vs, rfl, hq, fun w => ?_, fun _ q hn => g' m _ _ (le_new hn) (r.tmp hn) (rep_newtup hn (rr.cut lo hi))⟩
    have e : cutD xs lo hi = xs := by
      unfold cutD
      rw [rr.length, w.1, w.2, ← rr.length]
      simp
    rw [e] at g'
    exact g'.now r (.tup hq rr)
  | _ => exact gen (fun z e => by cases e)
def oNone : ME (Option Int) := fun _ s => .ok none s
def oSome (a : ME D) : ME (Option Int) := fun env s => (a env s).bind fun x s => match x with
  | .int i => .ok (some i) s
  | _ => .no
def ρO : List Addr → Hp → Option Int → Option Int → Prop := fun _ _ a b => a = b
abbrev To (K : PySem.W.Frag) (mg : Str → Option Value) (W : WX) (f : ME (Option Int)) : TO := Tm K mg ρO W f
def eSl (g : D → Option Int → Option Int → Store → Option (D × Store)) (a : ME D) (lo hi : ME (Option Int)) : ME D := fun env s => (a env s).bind fun x s => (lo env s).bind fun l s => (hi env s).bind fun u s => R.of (g x l u s)
end
section
variable {X : Cx} {W : WX} {pos p2 : Pos} {a b c e : Expr} {es : List Expr} {fa fb fc : ME D} {ga gb : ME Bool} {fs : ME (List D)} {ol oh : ME (Option Int)} {lo hi : Option Expr}
theorem co_none : PO X none (To X.K X.mg W oNone) := ⟨fun pins s σ H Q I ⟨m, env, st, r, E, g⟩ => po_none.run pins s σ H Q I (g m H none .refl r rfl)⟩
theorem co_some (h : PE X e (Te X.K X.mg W fa)) : PO X (some e) (To X.K X.mg W (oSome fa)) := ⟨fun pins s σ H Q I q =>
  (po_some h).run pins s σ H Q I (Tm.bind (k := fun _ x s => match x with | .int i => R.ok (some i) s | _ => R.no) q fun m1 H1 env x v s1 r1 E1 p1 g1 => by
    cases x with
    | int i => cases p1; exact ⟨i, rfl, g1 m1 H1 (some i) .refl r1 rfl⟩
    | _ => exact g1.elim)⟩
theorem ce_sl {r : V → Option Int → Option Int → Hp → VK → Prop} {g : D → Option Int → Option Int → Store → Option (D × Store)} (hr : SlR X r) (hs : SlS X.K r g) (ha : PE X a (Te X.K X.mg W fa)) (hl : PO X lo (To X.K X.mg W ol)) (hu : PO X hi (To X.K X.mg W oh)) :
    PE X (.Subscript a (.Slice lo hi none p2) pos) (Te X.K X.mg W (eSl g fa ol oh)) :=
  PE.imp (pe_slice hr ha hl hu) fun σ H Q h => Tm.bind (k := fun env x s => (ol env s).bind fun l s => (oh env s).bind fun u s => R.of (g x l u s)) h fun m1 H1 env x v s1 r1 E1 p1 g1 =>
    ⟨m1, env, s1, r1, E1, G.bind g1 fun m2 H2 l l' s2 l2 r2 p2 g2 => ⟨m2, env, s2, r2, E1.mono l2, G.bind g2 fun m3 H3 u u' s3 l3 r3 p3 g3 => by
      cases (show l = l' from p2); cases (show u = u' from p3)
      exact hs r3 ((p1.mono l2).mono l3) g3⟩⟩
end
/-! #### calls of builtins -/
section
variable {K : PySem.W.Frag}
def dLen : List D → Store → Option (D × Store)
  | [.str z], s => if z.length ≤ sizeLine then some (.int z.length, s) else none
  | [x], s => (seqOf s x).map fun xs => (.int xs.length, s)
  | _, _ => none
theorem fns_len : FnS K (fun xs H Q => ∃ x n, xs = [x] ∧ LenV K x H n ∧ Q (.int n) H) dLen := by
  intro mg W σ m H s xs ds Q r p g
  cases p with
  | nil => exact g.elim
  | @cons d v ds2 vs2 h p =>
    cases p with
    | cons h2 p2 => cases d <;> exact g.elim
    | nil =>
      have seq : ∀ xs, seqOf s d = some xs → G K mg (Rep K) W σ m H Q (.ok (.int xs.length) s) → ∃ x n, [v] = [x] ∧ LenV K x H n ∧ Q (.int n) H := by
        intro xs e q
        obtain ⟨a, vs, rfl, hq, rr⟩ := seqOf_sq r h e
        refine ⟨.ref a, xs.length, rfl, ?_, q.now r (.int _)⟩
        rcases hq with hq | hq
        · exact .inl ⟨vs, hq, rr.length⟩
        · exact .inr ⟨vs, hq, rr.length⟩
      have gen : (∀ z, d ≠ .str z) → ∃ x n, [v] = [x] ∧ LenV K x H n ∧ Q (.int n) H := by
        intro hn
        have e : dLen [d] s = (seqOf s d).map fun xs => (.int xs.length, s) := by cases d <;> first | rfl | exact (hn _ rfl).elim
        rw [e] at g
        cases q : seqOf s d with
        | none => rw [q] at g; exact g.elim
        | some xs => rw [q] at g; exact seq xs q g
      cases d with
      | str z =>
        cases h
        by_cases hz : z.length ≤ sizeLine
        · simp [dLen, hz] at g
          exact ⟨.str z, z.length, rfl, ⟨hz, rfl⟩, g.now r (.int _)⟩
        · simp [dLen, hz] at g; exact g.elim
      | _ => exact gen (fun z e => by cases e)
def dInt : List D → Store → Option (D × Store)
  | [.int i], s => some (.int i, s)
  | [.bl k], s => some (.int (if k then 1 else 0), s)
  | _, _ => none
theorem reps1 {m : List Addr} {H : Hp} {d : D} {xs : List V} (p : Reps K m H [d] xs) : ∃ v, xs = [v] ∧ Rep K m H d v := by
  cases p with
  | cons h p => cases p; exact ⟨_, rfl, h⟩
theorem reps2 {m : List Addr} {H : Hp} {d e : D} {xs : List V} (p : Reps K m H [d, e] xs) : ∃ v w, xs = [v, w] ∧ Rep K m H d v ∧ Rep K m H e w := by
  cases p with
  | cons h p =>
    obtain ⟨w, rfl, q⟩ := reps1 p
    exact ⟨_, w, rfl, h, q⟩
theorem fns_int : FnS K (fun xs H Q => (∃ i, xs = [.int i] ∧ Q (.int i) H) ∨ ∃ k, xs = [.bl k] ∧ Q (.int (if k then 1 else 0)) H) dInt := by
  intro mg W σ m H s xs ds Q r p g
  unfold dInt at g
  split at g
  · obtain ⟨v, rfl, h⟩ := reps1 p
    cases h
    exact .inl ⟨_, rfl, g.now r (.int _)⟩
  · obtain ⟨v, rfl, h⟩ := reps1 p
    cases h
    exact .inr ⟨_, rfl, g.now r (.int _)⟩
  · exact g.elim
def dAbs : List D → Store → Option (D × Store)
  | [.int i], s => some (.int (if i < 0 then -i else i), s)
  | _, _ => none
theorem fns_abs : FnS K (fun xs H Q => ∃ i, xs = [.int i] ∧ Q (.int (if i < 0 then -i else i)) H) dAbs := by
  intro mg W σ m H s xs ds Q r p g
  unfold dAbs at g
  split at g
  · obtain ⟨v, rfl, h⟩ := reps1 p
    cases h
    exact ⟨_, rfl, g.now r (.int _)⟩
  · exact g.elim
def dMax2 : List D → Store → Option (D × Store)
  | [.int i, .int j], s => some (.int (if j > i then j else i), s)
  | _, _ => none
theorem fns_max2 : FnS K (fun xs H Q => ∃ i j, xs = [.int i, .int j] ∧ Q (.int (if j > i then j else i)) H) dMax2 := by
  intro mg W σ m H s xs ds Q r p g
  unfold dMax2 at g
  split at g
  · obtain ⟨v, w, rfl, h, h2⟩ := reps2 p
    cases h; cases h2
    exact ⟨_, _, rfl, g.now r (.int _)⟩
  · exact g.elim
def dMin2 : List D → Store → Option (D × Store)
  | [.int i, .int j], s => some (.int (if j < i then j else i), s)
  | _, _ => none
theorem fns_min2 : FnS K (fun xs H Q => ∃ i j, xs = [.int i, .int j] ∧ Q (.int (if j < i then j else i)) H) dMin2 := by
  intro mg W σ m H s xs ds Q r p g
  unfold dMin2 at g
  split at g
  · obtain ⟨v, w, rfl, h, h2⟩ := reps2 p
    cases h; cases h2
    exact ⟨_, _, rfl, g.now r (.int _)⟩
  · exact g.elim
/-- all ints -/
def intsOf : List D → Option (List Int)
  | [] => some []
  | .int i :: r => (intsOf r).map fun x => i :: x
  | _ :: _ => none
theorem intsOf_map (ns : List Int) : intsOf (ns.map D.int) = some ns := by
  induction ns with
  | nil => rfl
  | cons n ns ih => simp [intsOf, ih]
theorem of_intsOf : ∀ {ds : List D} {ns : List Int}, intsOf ds = some ns → ds = ns.map D.int
  | [], _, e => by cases e; rfl
  | d :: ds, ns, e => by
    cases d with
    | int i =>
      unfold intsOf at e
      cases q : intsOf ds with
      | none => rw [q] at e; cases e
      | some x => rw [q] at e; cases e; rw [List.map_cons, of_intsOf q]
    | _ => cases e
def dSum : List D → Store → Option (D × Store)
  | [x], s => (lstOf s x).bind fun xs => (intsOf xs).map fun ns => (.int ns.sum, s)
  | _, _ => none
theorem fns_sum : FnS K (rSum K) dSum := by
  intro mg W σ m H s xs ds Q r p g
  unfold dSum at g
  split at g
  · obtain ⟨v, rfl, h⟩ := reps1 p
    rename_i x
    cases q : lstOf s x with
    | none => rw [q] at g; exact g.elim
    | some ys =>
      rw [q] at g
      cases q2 : intsOf ys with
      | none => simp [q2] at g; exact g.elim
      | some ns =>
        simp [q2] at g
        obtain ⟨a, vs, rfl, hq, rr⟩ := lstOf_sq r h q
        rw [of_intsOf q2] at rr
        have e := rr.ints
        subst e
        exact ⟨a, ns, rfl, hq, g.now r (.int _)⟩
  · exact g.elim
def dTuple : List D → Store → Option (D × Store)
  | [x], s => (seqOf s x).map fun xs => (.tup xs, s)
  | _, _ => none
theorem fns_tuple : FnS K (fun xs H Q => ∃ p ys, xs = [.ref p] ∧ ((SqL K H p ys ∧ ∀ l, H l = none → Q (.ref l) (upd H l (.tup ys))) ∨ (SqT K H p ys ∧ Q (.ref p) H))) dTuple := by
  intro mg W σ m H s xs ds Q r p g
  unfold dTuple at g
  split at g
  · obtain ⟨v, rfl, h⟩ := reps1 p
    rename_i x
    cases q : seqOf s x with
    | none => rw [q] at g; exact g.elim
    | some ys =>
      rw [q] at g
      have g' : G K mg (Rep K) W σ m H Q (.ok (.tup ys) s) := g
      obtain ⟨a, vs, rfl, hq, rr⟩ := seqOf_sq r h q
      refine ⟨a, vs, rfl, ?_⟩
      rcases hq with hq | hq
      · exact .inl ⟨hq, fun l hl => g' m _ _ (le_new hl) (r.tmp hl) (rep_newtup hl rr)⟩
      · exact .inr ⟨hq, g'.now r (.tup hq rr)⟩
  · exact g.elim
def dList : List D → Store → Option (D × Store)
  | [x], s => (seqOf s x).map fun xs => (.loc s.length, s ++ [.lst xs])
  | _, _ => none
theorem fns_list : FnS K (fun xs H Q => ∃ p ys, xs = [.ref p] ∧ (SqL K H p ys ∨ SqT K H p ys) ∧ ∀ l, H l = none → Q (.ref l) (upd H l (.lst ys))) dList := by
  intro mg W σ m H s xs ds Q r p g
  unfold dList at g
  split at g
  · obtain ⟨v, rfl, h⟩ := reps1 p
    rename_i x
    cases q : seqOf s x with
    | none => rw [q] at g; exact g.elim
    | some ys =>
      rw [q] at g
      have g' : G K mg (Rep K) W σ m H Q (.ok (.loc s.length) (s ++ [.lst ys])) := g
      obtain ⟨a, vs, rfl, hq, rr⟩ := seqOf_sq r h q
      exact ⟨a, vs, rfl, hq, fun l hl => g' (m ++ [l]) _ _ (le_more r hl) (rel_newlist r hl rr) (.loc (len_get r))⟩
  · exact g.elim
/-! #### isinstance(x, T), T a built-in type -/
def tyN (s : Store) : D → Option String
  | .non => some "NoneType"
  | .bl _ => some "bool"
  | .int _ => some "int"
  | .str _ => some "str"
  | .tup _ => some "tuple"
  | .fl _ => some "list"
  | .loc l => match s[l]? with
    | some (.lst _) => some "list"
    | some (.dic _) => some "dict"
    | none => none
  | .exv _ _ => none
theorem tyN_tyx {m : List Addr} {H : Hp} {s : Store} (r : Rel K m H s) {d : D} {v : V} {t : String} (p : Rep K m H d v) (e : tyN s d = some t) : TyX K H v (.type t) := by
  cases p with
  | non => cases e; exact .base .non
  | bl b => cases e; exact .base (.bl b)
  | int b => cases e; exact .base (.int b)
  | str b => cases e; exact .base (.str b)
  | tup h q =>
    cases e
    rcases h with (h | ⟨o, h⟩) | ⟨o, _, _, h1, h2, _⟩
    · exact .base (.tup h)
    · exact .fTuple h
    · exact .kTuple h1 h2
  | fl h q =>
    cases e
    rcases h with ⟨o, h⟩ | ⟨o, _, _, h1, h2, _⟩
    · exact .base (.frz h)
    · exact .kList h1 h2
  | @loc l a h =>
    unfold tyN at e
    cases q : s[l]? with
    | none => simp [q] at e
    | some c =>
      cases c with
      | lst xs => simp [q] at e; subst e; obtain ⟨vs, h1, _⟩ := r.list h q; exact .base (.lst h1)
      | dic xs => simp [q] at e; subst e; obtain ⟨vs, h1, _⟩ := r.at_ l a _ h q; exact .base (.dK h1)
  | exv a => cases e
def dIsi (T : String) (x : D) (s : Store) : Option (D × Store) := (tyN s x).bind fun t => (kitB t T).map fun b => (.bl b, s)
end
section
variable {X : Cx} {W : WX} {pos p p2 : Pos} {a b c e : Expr} {es : List Expr} {fa fb fc : ME D} {ga gb : ME Bool} {fs : ME (List D)}
theorem ce_isi {T : String} (hg : Gl X "isinstance") (hm : X.mg "isinstance" = none) (hgT : Gl X (T : Str)) (hmT : X.mg (T : Str) = none) (hvT : bootBuiltins (T : Str) = some (.type T)) (ha : PE X a (Te X.K X.mg W fa))
    (hnT : (T : Str) ≠ "__name__" := by decide) (hdT : ((T : Str) == ("__debug__" : Str)) = false := by decide)
    (hv : bootBuiltins "isinstance" = some (.builtin "isinstance") := by decide +kernel) (he : starEach [a, .Name T p2] X.env = (false, eval a X.env) :: starEach [.Name T p2] X.env := by rfl)
    (he2 : starEach [.Name T p2] X.env = (false, eval (.Name T p2) X.env) :: starEach [] X.env := by rfl)
    (hpl : (backTo pos (starEach [.Name T p2] X.env)).any (·.1) = false := by rfl) : PE X (.Call (.Name "isinstance" p) [a, .Name T p2] [] pos) (Te X.K X.mg W (e1 (dIsi T) fa)) :=
  PE.imp (pe_callB call_isi hg hm hv (pa_cons ha (pa_cons (pe_bltn (v := .ty T) hgT hmT hvT rfl hnT hdT) pa_nil he2) he) (by decide) (by decide) he hpl) fun σ H Q h =>
    Tm.bind (k := fun _ x s => R.of (dIsi T x s)) h fun m1 H1 env x v s1 r1 E1 p1 g1 => by
      unfold dIsi at g1
      cases q : tyN s1 x with
      | none => rw [q] at g1; exact g1.elim
      | some t =>
        rw [q] at g1
        cases q2 : kitB t T with
        | none => simp [q2] at g1; exact g1.elim
        | some k =>
          simp [q2] at g1
          exact ⟨v, .ty T, .type t, .type T, k, rfl, .ty T, tyN_tyx r1 p1 q, kit_ty q2, g1.now r1 (.bl _)⟩
/-! #### methods of builtin types -/
def tyOk (T : String) (s : Store) : D → Bool
  | .str _ => T == "str"
  | .int _ => T == "int"
  | .loc l => match s[l]? with
    | some (.lst _) => T == "list"
    | some (.dic _) => T == "dict"
    | none => false
  | .fl _ => T == "list"
  | _ => false
theorem tyOk_tyV {T : String} {m : List Addr} {H : Hp} {s : Store} {K : PySem.W.Frag} (r : Rel K m H s) {d : D} {v : V} (p : Rep K m H d v) (e : tyOk T s d = true) : tyV K T v H := by
  cases p with
  | str b => exact beq_iff_eq.mp e
  | int b => exact beq_iff_eq.mp e
  | fl h q => exact .inl ⟨beq_iff_eq.mp e, _, h.sq⟩
  | @loc l a h =>
    unfold tyOk at e
    cases q : s[l]? with
    | none => simp [q] at e
    | some c =>
      cases c with
      | lst xs => simp [q] at e; obtain ⟨vs, h1, _⟩ := r.list h q; exact .inl ⟨e, vs, .inl (.inl h1)⟩
      | dic xs => simp [q] at e; obtain ⟨vs, h1, _⟩ := r.at_ l a _ h q; exact .inr (.inr (.inl ⟨e, .inl ⟨vs, h1⟩⟩))
  | _ => cases e
def eMt (T : String) (g : D → List D → Store → Option (D × Store)) (a : ME D) (fs : ME (List D)) : ME D := fun env s => (a env s).bind fun x s => if tyOk T s x = true then (fs env s).bind fun xs s => R.of (g x xs s) else .no
def eMt0 (T : String) (g : D → List D → Store → Option (D × Store)) (a : ME D) : ME D := fun env s => (a env s).bind fun x s => if tyOk T s x = true then R.of (g x [] s) else .no
def MtS (K : PySem.W.Frag) (r : V → List V → Hp → VK → Prop) (g : D → List D → Store → Option (D × Store)) : Prop :=
  ∀ {mg : Str → Option Value} {W : WX} {σ : L2.St} {m : List Addr} {H : Hp} {s : Store} {x : V} {d : D} {xs : List V} {ds : List D} {Q : VK}, Rel K m H s → Rep K m H d x → Reps K m H ds xs → G K mg (Rep K) W σ m H Q (R.of (g d ds s)) → r x xs H Q
variable {o : Expr} {T id : String} {name : Str} {apos cpos : Pos} {r : V → List V → Hp → VK → Prop} {g : D → List D → Store → Option (D × Store)} {fo : ME D}
theorem ce_bm0 (pa : PlainAttrs T) (slot : Slot T name id) (hty : typeOf (.builtin id) = pure (.type "method_descriptor")) (hm : MtR X id r) (hs : MtS X.K r g) (ho : PE X o (Te X.K X.mg W fo))
    (hbase : attributeBase o name X.env (eval o X.env) = eval o X.env := by rfl) (hline : (apos.endLine == cpos.line) = true := by rfl) : PE X (.Call (.Attribute o name apos) [] [] cpos) (Te X.K X.mg W (eMt0 T g fo)) :=
  PE.imp (pe_bm0 pa slot hty hm ho hbase hline) fun σ H Q h => Tm.bind (k := fun env x s => if tyOk T s x = true then R.of (g x [] s) else R.no) h fun m1 H1 env x v s1 r1 E1 p1 g1 => by
    by_cases q : tyOk T s1 x = true
    · simp only [q, if_true] at g1
      exact ⟨tyOk_tyV r1 p1 q, hs r1 p1 .nil g1⟩
    · simp only [q, if_false] at g1
      exact g1.elim
theorem ce_bm (pa : PlainAttrs T) (slot : Slot T name id) (hty : typeOf (.builtin id) = pure (.type "method_descriptor")) (hm : MtR X id r) (hs : MtS X.K r g) (ho : PE X o (Te X.K X.mg W fo)) (ha : PA X (e :: es) (Ta X.K X.mg W fs))
    (hbase : attributeBase o name X.env (eval o X.env) = eval o X.env := by rfl)
    (hfew : ((backTo cpos (starEach (e :: es) X.env)).all (fun x => !x.1) && (backToKw cpos (keywordEach [] X.env)).all (fun x => x.1.isSome)
      && decide ((e :: es).length + ([] : List Keyword).length + (if ([] : List Keyword).isEmpty then 0 else 1) < 30)) = true := by rfl)
    (hline : (apos.endLine == cpos.line) = true := by rfl) (hst : starEach (e :: es) X.env = (false, eval e X.env) :: starEach es X.env := by rfl) (hplain : (backTo cpos (starEach es X.env)).any (·.1) = false := by rfl) :
    PE X (.Call (.Attribute o name apos) (e :: es) [] cpos) (Te X.K X.mg W (eMt T g fo fs)) :=
  PE.imp (pe_bm pa slot hty hm ho ha hbase hfew hline hst hplain) fun σ H Q h => Tm.bind (k := fun env x s => if tyOk T s x = true then (fs env s).bind fun xs s => R.of (g x xs s) else R.no) h fun m1 H1 env x v s1 r1 E1 p1 g1 => by
    by_cases q : tyOk T s1 x = true
    · simp only [q, if_true] at g1
      exact ⟨tyOk_tyV r1 p1 q, ⟨m1, env, s1, r1, E1, G.bind g1 fun m2 H2 xs vs s2 l2 r2 p2 g2 => hs r2 (p1.mono l2) p2 g2⟩⟩
    · simp only [q, if_false] at g1
      exact g1.elim
end
section
variable {K : PySem.W.Frag}
theorem le_setlist {m : List Addr} {H : Hp} {s : Store} (r : Rel K m H s) {l : Nat} {a : Addr} (h : m[l]? = some a) {vs : List V} {xs : List D} (p : Reps K m H xs vs) : Le K m H m (upd H a (.lst vs)) ∧ Rel K m (upd H a (.lst vs)) (s.set l (.lst xs)) :=
  have le := le_put (o := .lst vs) r (List.mem_of_getElem? h)
  ⟨le, r.put h ⟨vs, upd_same, p.mono le⟩⟩
def dAppend (x : D) (ys : List D) (s : Store) : Option (D × Store) := match x, ys with
  | .loc l, [y] => match s[l]? with
    | some (.lst xs) => if xs.length < sizeLine then some (.non, s.set l (.lst (xs ++ [y]))) else none
    | _ => none
  | _, _ => none
theorem mts_append : MtS K rAppend dAppend := by
  intro mg W σ m H s x d xs ds Q r p ps g
  unfold dAppend at g
  split at g
  · rename_i l y
    obtain ⟨w, rfl, h⟩ := reps1 ps
    cases p with
    | loc hl =>
      split at g
      · rename_i ys q
        split at g
        · rename_i hz
          obtain ⟨vs, h1, h2⟩ := r.list hl q
          obtain ⟨le, r2⟩ := le_setlist r hl (h2.append (.cons h .nil))
          exact ⟨_, vs, w, rfl, rfl, h1, by rw [← h2.length]; exact hz, g m _ _ le r2 .non⟩
        · exact g.elim
      · exact g.elim
  · exact g.elim
def dPop (x : D) (ys : List D) (s : Store) : Option (D × Store) := match x, ys with
  | .loc l, [] => match s[l]? with
    | some (.lst xs) => (xs[xs.length - 1]?).map fun y => (y, s.set l (.lst xs.dropLast))
    | _ => none
  | _, _ => none
theorem mts_pop : MtS K rPop dPop := by
  intro mg W σ m H s x d xs ds Q r p ps g
  unfold dPop at g
  split at g
  · rename_i l
    cases ps
    cases p with
    | loc hl =>
      split at g
      · rename_i ys q
        cases q2 : ys[ys.length - 1]? with
        | none => rw [q2] at g; exact g.elim
        | some y =>
          rw [q2] at g
          obtain ⟨vs, h1, h2⟩ := r.list hl q
          obtain ⟨v, hv, rv⟩ := h2.get q2
          obtain ⟨le, r2⟩ := le_setlist r hl h2.dropLast
          exact ⟨_, vs, v, rfl, rfl, h1, by rw [← h2.length]; exact hv, g m _ _ le r2 (rv.mono le)⟩
      · exact g.elim
  · exact g.elim
end
end Mi
namespace Mi
open PySem PySem.Spec PyProof.Rows L2
/-! ### targets -/
def gN (i : Nat) : D → Sl → Option Sl := fun d env => some (env.set i (some d))
def gsN : List D → Sl → Option Sl := fun xs env => match xs with
  | [] => some env
  | _ => none
def gsC (g : D → Sl → Option Sl) (r : List D → Sl → Option Sl) : List D → Sl → Option Sl := fun xs env => match xs with
  | x :: xs => (g x env).bind (r xs)
  | [] => none
def gT (n : Nat) (r : List D → Sl → Option Sl) : D → Sl → Option Sl := fun d env => match d with
  | .tup xs => if xs.length = n then r xs env else none
  | _ => none
def GTm (K : PySem.W.Frag) (vs : List Nat) (g : D → Sl → Option Sl) : TG := fun v σ H Q =>
  ∃ m env s d env', Rel K m H s ∧ RelE K m H env σ ∧ Rep K m H d v ∧ g d env = some env' ∧ ∀ σ', RelE K m H env' σ' → (∀ i, i ∉ vs → σ'[i]? = σ[i]?) → σ'.length = σ.length → Q σ' H
def GTs (K : PySem.W.Frag) (vs : List Nat) (g : List D → Sl → Option Sl) : TGs := fun xs σ H Q =>
  ∃ m env s ds env', Rel K m H s ∧ RelE K m H env σ ∧ Reps K m H ds xs ∧ g ds env = some env' ∧ ∀ σ', RelE K m H env' σ' → (∀ i, i ∉ vs → σ'[i]? = σ[i]?) → σ'.length = σ.length → Q σ' H
theorem relE_set {K : PySem.W.Frag} {m : List Addr} {H : Hp} {env : Sl} {σ : L2.St} (E : RelE K m H env σ) {d : D} {v : V} (p : Rep K m H d v) (i : Nat) : RelE K m H (env.set i (some d)) (σ.set i (some v)) := by
  refine ⟨by simp [E.1], fun j d' h => ?_⟩
  by_cases hj : i = j
  · subst hj
    by_cases hi : i < env.length
    · rw [List.getElem?_set_self hi] at h
      cases h
      exact ⟨v, by rw [List.getElem?_set_self (by rw [← E.1]; exact hi)], p⟩
    · rw [List.getElem?_eq_none (by simpa using hi)] at h; cases h
  · rw [List.getElem?_set_ne hj] at h
    rw [List.getElem?_set_ne hj]
    exact E.2 j d' h
section
variable {X : Cx} {pos : Pos}
theorem PG.imp {e : Expr} {t t' : TG} (h : PG X e t) (i : ∀ v σ H Q, t' v σ H Q → t v σ H Q) : PG X e t' := ⟨fun pins s σ H v u Q I r q => h.run pins s σ H v u Q I r (i v σ H Q q)⟩
theorem PGs.imp {e : List Expr} {t t' : TGs} (h : PGs X e t) (i : ∀ v σ H Q, t' v σ H Q → t v σ H Q) : PGs X e t' := ⟨fun pins s σ H v u Q I r q => h.run pins s σ H v u Q I r (i v σ H Q q)⟩
theorem cg_name {i : Nat} {x : Str} (hN : X.N.Nodup) (hi : X.N[i]? = some x) (hx : Loc X.env.scope x) (hf : X.fn x = true ∨ X.env.scope.names.lookup x = some .local := by first | exact .inl rfl | exact .inr rfl | assumption) : PG X (.Name x pos) (GTm X.K [i] (gN i)) :=
  PG.imp (pg_name hN hi hx hf) fun v σ H Q ⟨m, env, s, d, env', r, E, p, e, q⟩ => by
    cases e
    exact q _ (relE_set E p i) (fun j hj => List.getElem?_set_ne (by simpa [eq_comm] using hj)) (by simp)
theorem cgs_nil {vs : List Nat} : PGs X [] (GTs X.K vs gsN) := PGs.imp pgs_nil fun v σ H Q ⟨m, env, s, ds, env', r, E, p, e, q⟩ => by
  cases ds with
  | nil => cases e; cases p; exact ⟨rfl, q σ E (fun _ _ => rfl) rfl⟩
  | cons _ _ => cases e
theorem cgs_cons {e : Expr} {es : List Expr} {g : D → Sl → Option Sl} {r : List D → Sl → Option Sl} {vs ws us : List Nat} (h1 : PG X e (GTm X.K vs g)) (h2 : PGs X es (GTs X.K ws r)) (hv : ∀ i, i ∈ vs ∨ i ∈ ws → i ∈ us := by simp)
    (hs : (assignEach (e :: es) X.env).map (·.2) = assign e X.env :: (assignEach es X.env).map (·.2) := by rfl) : PGs X (e :: es) (GTs X.K us (gsC g r)) :=
  PGs.imp (pgs_cons h1 h2 hs) fun v σ H Q ⟨m, env, s, ds, env', rl, E, p, e, q⟩ => by
    cases ds with
    | nil => cases e
    | cons d ds =>
      cases p with
      | cons pd p =>
        have e : (g d env).bind (r ds) = some env' := e
        cases q1 : g d env with
        | none => rw [q1] at e; cases e
        | some env1 =>
          rw [q1] at e
          refine ⟨_, _, rfl, m, env, s, d, env1, rl, E, pd, q1, fun σ1 E1 k1 n1 => ⟨m, env1, s, ds, env', rl, E1, p, e, fun σ2 E2 k2 n2 => q σ2 E2 (fun i hi => ?_) (n2.trans n1)⟩⟩
          rw [k2 i (fun z => hi (hv i (.inr z))), k1 i (fun z => hi (hv i (.inl z)))]
theorem cg_tup {es : List Expr} {k n : Nat} {r : List D → Sl → Option Sl} {vs : List Nat} (hc : X.calm = true) (h : PGs X es (GTs X.K vs r)) (hn : (assignEach es X.env).length = n := by rfl) (hst : (assignEach es X.env).findIdx? (·.1) = none := by rfl) :
    PG X (.Tuple es k pos) (GTm X.K vs (gT n r)) := PG.imp (pg_tup (n := n) hc h hn hst) fun v σ H Q ⟨m, env, s, d, env', rl, E, p, e, q⟩ => by
  cases d with
  | tup xs =>
    obtain ⟨a, ws, rfl, hq, rr⟩ := p.sqT
    have e : (if xs.length = n then r xs env else none) = some env' := e
    split at e
    · rename_i hl
      exact ⟨a, ws, rfl, hq, by rw [← rr.length]; exact hl, m, env, s, xs, env', rl, E, rr, e, q⟩
    · cases e
  | _ => cases e
end
/-! ### statements -/
abbrev MS := Sl → Store → RS
section
variable (K : PySem.W.Frag) (mg : Str → Option Value)
def GS (W : WX) (Dn : Ends) (m : List Addr) (H : Hp) : RS → Prop
  | .nx env s => ∀ m' σ' H', Le K m H m' H' → Rel K m' H' s → RelE K m' H' env σ' → Dn.nx σ' H'
  | .rt d s => ∀ m' H' v, Le K m H m' H' → Rel K m' H' s → Rep K m' H' d v → Dn.rt v H'
  | .bk env s => ∀ m' σ' H', Le K m H m' H' → Rel K m' H' s → RelE K m' H' env σ' → Dn.bk σ' H'
  | .ct env s => ∀ m' σ' H', Le K m H m' H' → Rel K m' H' s → RelE K m' H' env σ' → Dn.ct σ' H'
  | .ex e env s => ∀ m' σ' H' c dd, Le K m H m' H' → Rel K m' H' s → RelE K m' H' env σ' → ExR K mg m' H' e c dd → W c dd σ' H'
  | .no => False
def Ts (W : WX) (f : MS) : TS := fun Dn σ H => ∃ m env s, Rel K m H s ∧ RelE K m H env σ ∧ GS K mg W Dn m H (f env s)
end
def RS.bind (r : RS) (k : Sl → Store → RS) : RS := match r with
  | .nx env s => k env s
  | r => r
/-- behind an expression -/
def R.then {α : Type} (r : R α) (env : Sl) (k : α → Store → RS) : RS := match r with
  | .ok a s => k a s
  | .ex e s => .ex e env s
  | .no => .no
@[simp] theorem RS.bind_nx (env : Sl) (s : Store) (k : Sl → Store → RS) : (RS.nx env s).bind k = k env s := rfl
@[simp] theorem RS.bind_rt (d : D) (s : Store) (k : Sl → Store → RS) : (RS.rt d s).bind k = .rt d s := rfl
@[simp] theorem RS.bind_bk (env : Sl) (s : Store) (k : Sl → Store → RS) : (RS.bk env s).bind k = .bk env s := rfl
@[simp] theorem RS.bind_ct (env : Sl) (s : Store) (k : Sl → Store → RS) : (RS.ct env s).bind k = .ct env s := rfl
@[simp] theorem RS.bind_ex (e : Ex) (env : Sl) (s : Store) (k : Sl → Store → RS) : (RS.ex e env s).bind k = .ex e env s := rfl
@[simp] theorem RS.bind_no (k : Sl → Store → RS) : (RS.no).bind k = .no := rfl
@[simp] theorem R.then_ok {α : Type} (a : α) (s : Store) (env : Sl) (k : α → Store → RS) : (R.ok a s).then env k = k a s := rfl
@[simp] theorem R.then_ex {α : Type} (e : Ex) (s : Store) (env : Sl) (k : α → Store → RS) : (R.ex e s : R α).then env k = .ex e env s := rfl
@[simp] theorem R.then_no {α : Type} (env : Sl) (k : α → Store → RS) : (R.no : R α).then env k = .no := rfl
def sNil : MS := fun env s => .nx env s
def sSeq (f g : MS) : MS := fun env s => (f env s).bind g
def sSet (i : Nat) (e : ME D) : MS := fun env s => (e env s).then env fun d s => .nx (env.set i (some d)) s
def sAsg (g : D → Sl → Option Sl) (e : ME D) : MS := fun env s => (e env s).then env fun d s => match g d env with
  | some env' => .nx env' s
  | none => .no
def sIf (c : ME Bool) (f g : MS) : MS := fun env s => (c env s).then env fun b s => if b then f env s else g env s
def sRet (e : ME D) : MS := fun env s => (e env s).then env fun d s => .rt d s
def sRetN : MS := fun _ s => .rt .non s
def sExpr (e : ME D) : MS := fun env s => (e env s).then env fun _ s => .nx env s
def sBrk : MS := fun env s => .bk env s
def sCnt : MS := fun env s => .ct env s
/-- o[i] = e: e, o, i in this sequence -/
def sPut (g : D → D → D → Store → Option Store) (o i e : ME D) : MS := fun env s => (e env s).then env fun d s => (o env s).then env fun x s => (i env s).then env fun y s => match g x y d s with
  | some s' => .nx env s'
  | none => .no
/-- name op= e -/
def sAug (i : Nat) (g : D → D → Store → Option (D × Store)) (e : ME D) : MS := fun env s => match env[i]? with
  | some (some x) => (e env s).then env fun y s => match g x y s with
    | some (z, s') => .nx (env.set i (some z)) s'
    | none => .no
  | _ => .no
structure Itm where
  xs : List D
  guard : Store → Prop
open Classical in
noncomputable def forL (guard : Store → Prop) (g : D → Sl → Option Sl) (b : MS) : List D → Sl → Store → RS
  | [], env, s => if guard s then .nx env s else .no
  | x :: xs, env, s => if guard s then (match g x env with
    | none => .no
    | some env1 => match b env1 s with
      | .nx env2 s2 => forL guard g b xs env2 s2
      | .ct env2 s2 => forL guard g b xs env2 s2
      | .bk env2 s2 => .nx env2 s2
      | .rt d s2 => .rt d s2
      | .ex e env2 s2 => .ex e env2 s2
      | .no => .no) else .no
noncomputable def sFor (it : ME Itm) (g : D → Sl → Option Sl) (b : MS) : MS := fun env s => (it env s).then env fun i s => forL i.guard g b i.xs env s
def whileN (c : ME Bool) (b : MS) : Nat → Sl → Store → RS
  | 0, _, _ => .no
  | n + 1, env, s => (c env s).then env fun k s => if k then (match b env s with
      | .nx env2 s2 => whileN c b n env2 s2
      | .ct env2 s2 => whileN c b n env2 s2
      | .bk env2 s2 => .nx env2 s2
      | .rt d s2 => .rt d s2
      | .ex e env2 s2 => .ex e env2 s2
      | .no => .no) else .nx env s
open Classical in
/-- a while: some number of turns is enough -/
noncomputable def sWhile (c : ME Bool) (b : MS) : MS := fun env s => if h : ∃ n, whileN c b n env s ≠ .no then whileN c b (Classical.choose h) env s else .no
section
variable {K : PySem.W.Frag} {mg : Str → Option Value} {m m1 : List Addr} {H H1 : Hp} {s : Store} {W : WX} {σ : L2.St} {Dn : Ends}
theorem GS.mono (e : Le K m H m1 H1) {r : RS} (h : GS K mg W Dn m H r) : GS K mg W Dn m1 H1 r := by
  cases r with
  | nx env s => exact fun m' σ' H' l => h m' σ' H' (e.trans l)
  | rt d s => exact fun m' σ' H' l => h m' σ' H' (e.trans l)
  | bk env s => exact fun m' σ' H' l => h m' σ' H' (e.trans l)
  | ct env s => exact fun m' σ' H' l => h m' σ' H' (e.trans l)
  | ex x env s => exact fun m' σ' H' c d l => h m' σ' H' c d (e.trans l)
  | no => exact h
/-- an expression first -/
theorem GS.ofE {α β : Type} {ρ : List Addr → Hp → α → β → Prop} {r : R α} {env : Sl} {k : α → Store → RS} {Q : β → Hp → Prop} (E : RelE K m H env σ) (h : GS K mg W Dn m H (r.then env k))
    (q : ∀ m1 H1 a b s1, Le K m H m1 H1 → Rel K m1 H1 s1 → ρ m1 H1 a b → GS K mg W Dn m1 H1 (k a s1) → Q b H1) : G K mg ρ W σ m H Q r := by
  cases r with
  | ok a s => exact fun m' H' b l r p => q m' H' a b s l r p (GS.mono l h)
  | ex x s => exact fun m' H' c d l r p => h m' σ H' c d l r (E.mono l) p
  | no => exact h
theorem Ts.ofE {α β : Type} {ρ : List Addr → Hp → α → β → Prop} {f : Sl → Store → R α} {k : Sl → α → Store → RS} {Q : β → Hp → Prop} (h : Ts K mg W (fun env s => (f env s).then env (k env)) Dn σ H)
    (q : ∀ m1 H1 env a b s1, Rel K m1 H1 s1 → RelE K m1 H1 env σ → ρ m1 H1 a b → GS K mg W Dn m1 H1 (k env a s1) → Q b H1) : Tm K mg ρ W f σ H Q := by
  obtain ⟨m, env, s, r, E, g⟩ := h
  exact ⟨m, env, s, r, E, GS.ofE E g fun m1 H1 a b s1 l r1 p g1 => q m1 H1 env a b s1 r1 (E.mono l) p g1⟩
end
section
variable {X : Cx} {W : WX} {pos : Pos} {e o i c tg iter : Expr} {st : Stmt} {rest body els : List Stmt} {fe fo fi : ME D} {gc : ME Bool} {f g : MS}
theorem css_nil : PSs X [] (Ts X.K X.mg W sNil) := PSs.imp pss_nil fun Dn σ H ⟨m, env, s, r, E, q⟩ => q m σ H .refl r E
theorem css_cons (h1 : PS X st (Ts X.K X.mg W f)) (h2 : PSs X rest (Ts X.K X.mg W g)) : PSs X (st :: rest) (Ts X.K X.mg W (sSeq f g)) :=
  PSs.imp (pss_cons h1 h2) fun Dn σ H ⟨m, env, s, r, E, q⟩ => by
    refine ⟨m, env, s, r, E, ?_⟩
    unfold sSeq at q
    cases hf : f env s with
    | nx env1 s1 => rw [hf] at q; exact fun m' σ' H' l r' E' => ⟨m', env1, s1, r', E', GS.mono l q⟩
    | rt d s1 => rw [hf] at q; exact q
    | bk env1 s1 => rw [hf] at q; exact q
    | ct env1 s1 => rw [hf] at q; exact q
    | ex x env1 s1 => rw [hf] at q; exact q
    | no => rw [hf] at q; exact q
theorem css_one (h1 : PS X st (Ts X.K X.mg W f)) : PSs X [st] (Ts X.K X.mg W f) := pss_one h1
theorem cs_pass : PS X (.Pass pos) (Ts X.K X.mg W sNil) := PS.imp ps_pass fun Dn σ H ⟨m, env, s, r, E, q⟩ => q m σ H .refl r E
theorem cs_doc {x j pos'} : PS X (.Expr (.Constant (.str x) j pos) pos') (Ts X.K X.mg W sNil) := PS.imp ps_doc fun Dn σ H ⟨m, env, s, r, E, q⟩ => q m σ H .refl r E
theorem cs_break : PS X (.Break pos) (Ts X.K X.mg W sBrk) := PS.imp ps_break fun Dn σ H ⟨m, env, s, r, E, q⟩ => q m σ H .refl r E
theorem cs_cont : PS X (.Continue pos) (Ts X.K X.mg W sCnt) := PS.imp ps_continue fun Dn σ H ⟨m, env, s, r, E, q⟩ => q m σ H .refl r E
theorem cs_set {j : Nat} {x : Str} {pos' : Pos} (hN : X.N.Nodup) (hi : X.N[j]? = some x) (hx : Loc X.env.scope x) (he : PE X e (Te X.K X.mg W fe)) (hs : swapsWith e (some (.Name x pos')) pos.line X.env = pure false := by rfl) (hf : X.fn x = true ∨ X.env.scope.names.lookup x = some .local := by first | exact .inl rfl | exact .inr rfl | assumption) :
    PS X (.Assign [.Name x pos'] e pos) (Ts X.K X.mg W (sSet j fe)) := PS.imp (ps_set (i := j) hN hi hx he hs hf) fun Dn σ H h =>
  Ts.ofE (k := fun env d s => .nx (env.set j (some d)) s) h fun m1 H1 env d v s1 r1 E1 p1 g1 => g1 m1 _ H1 .refl r1 (relE_set E1 p1 j)
theorem cs_asg {vs : List Nat} {g : D → Sl → Option Sl} (he : PE X e (Te X.K X.mg W fe)) (hg : PG X tg (GTm X.K vs g)) (hs : swapsWithSole [tg] e pos.line X.env = pure false := by rfl) (hw : swappedStores [tg] e X.env = pure none := by rfl)
    (h1 : (assignEach [tg] X.env).map (·.2) = [assign tg X.env] := by rfl) : PS X (.Assign [tg] e pos) (Ts X.K X.mg W (sAsg g fe)) := PS.imp (ps_asg he hg hs hw h1) fun Dn σ H h =>
  Ts.ofE (k := fun env d s => match g d env with | some env' => RS.nx env' s | none => RS.no) h fun m1 H1 env d v s1 r1 E1 p1 g1 => by
    cases q : g d env with
    | none => simp only [q] at g1; exact g1.elim
    | some env' =>
      simp only [q] at g1
      exact ⟨m1, env, s1, d, env', r1, E1, p1, q, fun σ' E' _ _ => g1 m1 σ' H1 .refl r1 E'⟩
theorem cs_expr (he : PE X e (Te X.K X.mg W fe)) (hs : swapsWith e none pos.line X.env = pure false := by rfl) : PS X (.Expr e pos) (Ts X.K X.mg W (sExpr fe)) := PS.imp (ps_expr he hs) fun Dn σ H h =>
  Ts.ofE (k := fun env _ s => RS.nx env s) h fun m1 H1 env d v s1 r1 E1 p1 g1 => g1 m1 σ H1 .refl r1 E1
theorem cs_ret (he : PE X e (Te X.K X.mg W fe)) : PS X (.Return (some e) pos) (Ts X.K X.mg W (sRet fe)) := PS.imp (ps_ret he) fun Dn σ H h =>
  Ts.ofE (k := fun _ d s => RS.rt d s) h fun m1 H1 env d v s1 r1 E1 p1 g1 => g1 m1 H1 v .refl r1 p1
theorem cs_retN : PS X (.Return none pos) (Ts X.K X.mg W sRetN) := PS.imp ps_retN fun Dn σ H ⟨m, env, s, r, E, q⟩ => q m H _ .refl r .non
theorem cs_if (hc : PT X c (Tt X.K X.mg W gc)) (ha : PSs X body (Ts X.K X.mg W f)) (hb : PSs X els (Ts X.K X.mg W g)) : PS X (.If c body els pos) (Ts X.K X.mg W (sIf gc f g)) := PS.imp (ps_if hc ha hb) fun Dn σ H h =>
  Ts.ofE (k := fun env (b : Bool) s => if b then f env s else g env s) h fun m1 H1 env d v s1 r1 E1 p1 g1 => by
    cases (show d = v from p1)
    cases d with
    | true => exact iteT ⟨m1, env, s1, r1, E1, g1⟩
    | false => exact iteF ⟨m1, env, s1, r1, E1, g1⟩
def PutS (K : PySem.W.Frag) (t : TSet) (g : D → D → D → Store → Option Store) : Prop :=
  ∀ {m : List Addr} {H : Hp} {s s' : Store} {x y z : V} {dx dy dz : D} {Q : Hp → Prop}, Rel K m H s → Rep K m H dx x → Rep K m H dy y → Rep K m H dz z → g dx dy dz s = some s' → (∀ H', Le K m H m H' → Rel K m H' s' → Q H') → t x y z H Q
theorem cs_put {t : TSet} {g : D → D → D → Store → Option Store} (he : PE X e (Te X.K X.mg W fe)) (ho : PE X o (Te X.K X.mg W fo)) (hi : PE X i (Te X.K X.mg W fi)) (hs : PSet X t) (hp : PutS X.K t g)
    (ha : ∀ v, assign (.Subscript o i pos) X.env v = (do
      let ov ← holding [v] (eval o X.env)
      let iv ← holding [v, ov] (eval i X.env)
      standAt pos
      holding [v, ov, iv] (setItem ov iv v)
      release [v, ov, iv] []) := by intro _; rfl) {pos' : Pos} (hs1 : swapsWithSole [.Subscript o i pos] e pos'.line X.env = pure false := by rfl) (hw : swappedStores [.Subscript o i pos] e X.env = pure none := by rfl)
    (h1 : (assignEach [.Subscript o i pos] X.env).map (·.2) = [assign (.Subscript o i pos) X.env] := by rfl) : PS X (.Assign [.Subscript o i pos] e pos') (Ts X.K X.mg W (sPut g fo fi fe)) :=
  PS.imp (ps_asg he (pg_sub ho hi hs ha) hs1 hw h1) fun Dn σ H h =>
    Ts.ofE (k := fun env d s => (fo env s).then env fun x s => (fi env s).then env fun y s => match g x y d s with | some s' => RS.nx env s' | none => RS.no) h fun m1 H1 env d v s1 r1 E1 p1 g1 =>
      ⟨m1, env, s1, r1, E1, GS.ofE E1 g1 fun m2 H2 x vx s2 l2 r2 p2 g2 => ⟨m2, env, s2, r2, E1.mono l2, GS.ofE (E1.mono l2) g2 fun m3 H3 y vy s3 l3 r3 p3 g3 => by
        cases q : g x y d s3 with
        | none => simp only [q] at g3; exact g3.elim
        | some s' =>
          simp only [q] at g3
          exact hp r3 (p2.mono l3) p3 ((p1.mono l2).mono l3) q fun H' l' r' => g3 m3 σ H' l' r' (((E1.mono l2).mono l3).mono l')⟩⟩
def IpS (K : PySem.W.Frag) (t : TIp) (g : D → D → Store → Option (D × Store)) : Prop := OpS K t g
theorem cs_aug {j : Nat} {x : Str} {op : Operator} {ti : TIp} {g : D → D → Store → Option (D × Store)} {pos' : Pos} (hN : X.N.Nodup) (hi : X.N[j]? = some x) (hx : Loc X.env.scope x) (he : PE X e (Te X.K X.mg W fe)) (ho : PIp X op ti) (hp : OpS X.K ti g) (hf : X.fn x = true ∨ X.env.scope.names.lookup x = some .local := by first | exact .inl rfl | exact .inr rfl | assumption) :
    PS X (.AugAssign (.Name x pos') op e pos) (Ts X.K X.mg W (sAug j g fe)) := PS.imp (ps_aug (i := j) hN hi hx he ho hf) fun Dn σ H ⟨m, env, s, r, E, q⟩ => by
  unfold sAug at q
  cases q1 : env[j]? with
  | none => simp only [q1] at q; exact q.elim
  | some o1 =>
    cases o1 with
    | none => simp only [q1] at q; exact q.elim
    | some d =>
      simp only [q1] at q
      obtain ⟨v, h1, h2⟩ := E.2 j d q1
      refine ⟨v, h1, m, env, s, r, E, GS.ofE E q fun m1 H1 y vy s1 l1 r1 p1 g1 => ?_⟩
      refine hp (mg := X.mg) (W := W) (σ := σ) r1 (h2.mono l1) p1 ?_
      cases q2 : g d y s1 with
      | none => simp only [q2] at g1; exact g1.elim
      | some zs =>
        obtain ⟨z, s'⟩ := zs
        simp only [q2] at g1
        exact fun m' H' b l r p => g1 m' _ H' l r (relE_set ((E.mono l1).mono l) p j)
/-! #### loops -/
def ItR (K : PySem.W.Frag) (m : List Addr) (H : Hp) (it : Itm) (J : It) : Prop := ∀ m2 H2 s2, Le K m H m2 H2 → Rel K m2 H2 s2 → it.guard s2 →
  (∀ i d, it.xs[i]? = some d → J.go i H2 ∧ ∀ v H3, J.yld i H2 v H3 → Le K m2 H2 m2 H3 ∧ Rel K m2 H3 s2 ∧ Rep K m2 H3 d v) ∧ J.stop it.xs.length H2
abbrev Ti (K : PySem.W.Frag) (mg : Str → Option Value) (W : WX) (f : ME Itm) : TI := Tm K mg (ItR K) W f
theorem cs_for {fi : ME Itm} {vs : List Nat} {gt : D → Sl → Option Sl} (hp : PassesOwn (model X.prog X.w) X.A X.env X.xe) (hc : X.calm = true) (hi : PI X tg iter (Ti X.K X.mg W fi)) (hg : PG X tg (GTm X.K vs gt)) (hb : PSs X body (Ts X.K X.mg W f))
    (hs : ∀ x, foldedSetIterable iter X.env x = pure x := by intro _; rfl) : PS X (.For tg iter body [] pos) (Ts X.K X.mg W (sFor fi gt f)) :=
  PS.imp (ps_for hp hc hi hg hb hs) fun Dn σ H h => Ts.ofE (k := fun env (i : Itm) s => forL i.guard gt f i.xs env s) h fun m1 H1 env it J s1 r1 E1 p1 g1 => by
    refine ⟨fun i k σ H => k = it.xs.length - i ∧ i ≤ it.xs.length ∧ ∃ m2 env2 s2, Le X.K m1 H1 m2 H ∧ Rel X.K m2 H s2 ∧ RelE X.K m2 H env2 σ ∧ GS X.K X.mg W Dn m2 H (forL it.guard gt f (it.xs.drop i) env2 s2),
      ⟨it.xs.length, by simp, Nat.zero_le _, m1, env, s1, .refl, r1, E1, g1⟩, ?_⟩
    rintro i k σ2 H2 ⟨rfl, hi, m2, env2, s2, l2, r2, E2, g2⟩
    by_cases hlt : i < it.xs.length
    · have hx : it.xs[i]? = some it.xs[i] := by simp [hlt]
      have hd : it.xs.drop i = it.xs[i] :: it.xs.drop (i + 1) := List.drop_eq_getElem_cons hlt
      rw [hd] at g2
      unfold forL at g2
      by_cases hgd : it.guard s2
      · simp only [hgd, if_true] at g2
        obtain ⟨hall, _⟩ := p1 m2 H2 s2 l2 r2 hgd
        obtain ⟨hgo, hy⟩ := hall i _ hx
        refine .inr ⟨hgo, fun σ' H' => ∃ m3 env3 s3, Le X.K m1 H1 m3 H' ∧ Rel X.K m3 H' s3 ∧ RelE X.K m3 H' env3 σ' ∧ GS X.K X.mg W Dn m3 H' (forL it.guard gt f (it.xs.drop (i + 1)) env3 s3),
          fun σ' H' ⟨m3, env3, s3, l3, r3, E3, g3⟩ => ⟨it.xs.length - (i + 1), by omega, rfl, hlt, m3, env3, s3, l3, r3, E3, g3⟩, fun v H3 y => ?_⟩
        obtain ⟨l3, r3, p3⟩ := hy v H3 y
        cases q : gt it.xs[i] env2 with
        | none => simp only [q] at g2; exact g2.elim
        | some env3 =>
          simp only [q] at g2
          refine ⟨m2, env2, s2, it.xs[i], env3, r3, E2.mono l3, p3, q, fun σ4 E4 _ _ => ⟨m2, env3, s2, r3, E4, ?_⟩⟩
          have g3 := GS.mono l3 g2
          have l4 := l2.trans l3
          cases hb2 : f env3 s2 with
          | nx env5 s5 => rw [hb2] at g3; exact fun m' σ' H' l r E => ⟨m', env5, s5, l4.trans l, r, E, GS.mono l g3⟩
          | ct env5 s5 => rw [hb2] at g3; exact fun m' σ' H' l r E => ⟨m', env5, s5, l4.trans l, r, E, GS.mono l g3⟩
          | bk env5 s5 => rw [hb2] at g3; exact g3
          | rt d s5 => rw [hb2] at g3; exact g3
          | ex x env5 s5 => rw [hb2] at g3; exact g3
          | no => rw [hb2] at g3; exact g3
      · simp only [hgd, if_false] at g2
        exact g2.elim
    · have e : i = it.xs.length := by omega
      subst e
      rw [List.drop_length] at g2
      unfold forL at g2
      by_cases hgd : it.guard s2
      · simp only [hgd, if_true] at g2
        exact .inl ⟨(p1 m2 H2 s2 l2 r2 hgd).2, g2 m2 σ2 H2 .refl r2 E2⟩
      · simp only [hgd, if_false] at g2
        exact g2.elim
theorem cs_while (hp : PassesOwn (model X.prog X.w) X.A X.env X.xe) (hc : PT X c (Tt X.K X.mg W gc)) (hb : PSs X body (Ts X.K X.mg W f)) : PS X (.While c body [] pos) (Ts X.K X.mg W (sWhile gc f)) :=
  PS.imp (ps_while hp hc hb) fun Dn σ H ⟨m, env, s, r, E, g⟩ => by
    unfold sWhile at g
    split at g
    · rename_i hx
      refine ⟨fun n σ H => ∃ m2 env2 s2, Rel X.K m2 H s2 ∧ RelE X.K m2 H env2 σ ∧ GS X.K X.mg W Dn m2 H (whileN gc f n env2 s2), ⟨_, m, env, s, r, E, g⟩, ?_⟩
      rintro n σ1 H1 ⟨m1, env1, s1, r1, E1, g1⟩
      cases n with
      | zero => exact g1.elim
      | succ n =>
        unfold whileN at g1
        refine ⟨m1, env1, s1, r1, E1, GS.ofE E1 g1 fun m2 H2 k kb s2 l2 r2 p2 g2 => ?_⟩
        cases (show k = kb from p2)
        cases k with
        | false => exact iteF (g2 m2 σ1 H2 .refl r2 (E1.mono l2))
        | true =>
          refine iteT ⟨fun σ' H' => ∃ m3 env3 s3, Rel X.K m3 H' s3 ∧ RelE X.K m3 H' env3 σ' ∧ GS X.K X.mg W Dn m3 H' (whileN gc f n env3 s3), fun σ' H' q => ⟨n, Nat.lt_succ_self n, q⟩, m2, env1, s2, r2, E1.mono l2, ?_⟩
          simp only [if_true] at g2
          cases hb2 : f env1 s2 with
          | nx env5 s5 => rw [hb2] at g2; exact fun m' σ' H' l r E => ⟨m', env5, s5, r, E, GS.mono l g2⟩
          | ct env5 s5 => rw [hb2] at g2; exact fun m' σ' H' l r E => ⟨m', env5, s5, r, E, GS.mono l g2⟩
          | bk env5 s5 => rw [hb2] at g2; exact g2
          | rt d s5 => rw [hb2] at g2; exact g2
          | ex x env5 s5 => rw [hb2] at g2; exact g2
          | no => rw [hb2] at g2; exact g2
    · exact g.elim
end
/-! #### what a loop walks -/
def always : Store → Prop := fun _ => True
/-- a list, a tuple, a text -/
def iSeq (a : ME D) : ME Itm := fun env s => (a env s).bind fun x s => match x with
  | .tup xs => .ok (Itm.mk (xs) (always)) s
  | .fl xs => .ok (Itm.mk (xs) (always)) s
  | .str z => .ok (Itm.mk (z.cps.toList.map fun c => .str ⟨#[c]⟩) (always)) s
  | .loc l => match s[l]? with
    | some (.lst xs) => .ok (Itm.mk (xs) (fun s2 => s2[l]? = some (.lst xs))) s
    | _ => .no
  | _ => .no
/-- a bound of a range -/
def InR (j : Int) : Prop := -(2 ^ 62) ≤ j ∧ j < 2 ^ 62
noncomputable instance (j : Int) : Decidable (InR j) := Classical.propDecidable _
noncomputable def iRange1 (a : ME (List D)) : ME Itm := fun env s => (a env s).bind fun x s => match x with
  | [.int j] => if InR j then .ok (Itm.mk ((List.range j.toNat).map fun i => .int ((0 : Int) + (i : Nat))) (always)) s else .no
  | _ => .no
noncomputable def iRange2 (a : ME (List D)) : ME Itm := fun env s => (a env s).bind fun x s => match x with
  | [.int i, .int j] => if InR i ∧ InR j then .ok (Itm.mk ((List.range (j - i).toNat).map fun k => .int (i + (k : Nat))) (always)) s else .no
  | _ => .no
section
variable {K : PySem.W.Frag} {m : List Addr} {H : Hp}
theorem itr_list {l : Nat} {xs : List D} {a : Addr} (h : m[l]? = some a) : ItR K m H ⟨xs, fun s2 => s2[l]? = some (.lst xs)⟩ (Itl K a) := fun m2 H2 s2 l2 r2 g => by
  have g' : s2[l]? = some (.lst xs) := g
  obtain ⟨vs, h1, h2⟩ := r2.list (l2.get h) g'
  have hq : SqL K H2 a vs := .inl (.inl h1)
  refine ⟨fun i d e => ?_, ⟨vs, hq, by rw [← h2.length]; exact Nat.le_refl _⟩⟩
  obtain ⟨v, hv, rv⟩ := h2.get e
  refine ⟨⟨vs, v, hq, hv⟩, fun w H3 y => ?_⟩
  obtain ⟨rfl, y⟩ := y
  have e2 := y vs hq
  rw [hv] at e2; cases e2
  exact ⟨.refl, r2, rv⟩
theorem itr_fl {xs : List D} {vs : List V} {a : Addr} (h : FrL K H a vs) (p : Reps K m H xs vs) : ItR K m H ⟨xs, always⟩ (Itl K a) := fun m2 H2 s2 l2 r2 g => by
  have hq : SqL K H2 a vs := (l2.frl a vs h).sq
  have h2 := p.mono l2
  refine ⟨fun i d e => ?_, ⟨vs, hq, by rw [← h2.length]; exact Nat.le_refl _⟩⟩
  obtain ⟨v, hv, rv⟩ := h2.get e
  refine ⟨⟨vs, v, hq, hv⟩, fun w H3 y => ?_⟩
  obtain ⟨rfl, y⟩ := y
  have e2 := y vs hq
  rw [hv] at e2; cases e2
  exact ⟨.refl, r2, rv⟩
theorem itr_tup {xs : List D} {vs : List V} {a : Addr} (h : SqT K H a vs) (p : Reps K m H xs vs) : ItR K m H ⟨xs, always⟩ (Itt K a) := fun m2 H2 s2 l2 r2 g => by
  have hq : SqT K H2 a vs := l2.tup a vs h
  have h2 := p.mono l2
  refine ⟨fun i d e => ?_, ⟨vs, hq, by rw [← h2.length]; exact Nat.le_refl _⟩⟩
  obtain ⟨v, hv, rv⟩ := h2.get e
  refine ⟨⟨vs, v, hq, hv⟩, fun w H3 y => ?_⟩
  obtain ⟨rfl, y⟩ := y
  have e2 := y vs hq
  rw [hv] at e2; cases e2
  exact ⟨.refl, r2, rv⟩
theorem itr_str {z : Str} : ItR K m H ⟨z.cps.toList.map fun c => .str ⟨#[c]⟩, always⟩ (Its z) := fun m2 H2 s2 l2 r2 g => by
  have w := walk_str (z := z)
  refine ⟨fun i d e => ?_, by
    have q := w.stops H2 trivial
    show (Its z).stop (List.map _ z.cps.toList).length H2
    rw [List.length_map, Array.length_toList]
    exact q⟩
  rw [List.getElem?_map, Array.getElem?_toList] at e
  cases hc : z.cps[i]? with
  | none => rw [hc] at e; cases e
  | some c =>
    rw [hc] at e; cases e
    have hi : i < z.cps.size := (Array.getElem?_eq_some_iff.mp hc).1
    refine ⟨w.goes i H2 hi trivial, fun v H3 y => ?_⟩
    obtain ⟨rfl, c', h1, rfl⟩ := w.yields i H2 v H3 hi trivial y
    rw [hc] at h1; cases h1
    exact ⟨.refl, r2, .str _⟩
theorem itr_range {lo : Int} {n : Nat} : ItR K m H ⟨(List.range n).map fun (i : Nat) => .int (lo + (i : Int)), always⟩ (Itr lo n) := fun m2 H2 s2 l2 r2 g => by
  refine ⟨fun i d e => ?_, by show n ≤ (List.map _ (List.range n)).length; simp⟩
  rw [List.getElem?_map] at e
  by_cases hi : i < n
  · rw [List.getElem?_range hi] at e
    cases e
    refine ⟨hi, fun v H3 y => ?_⟩
    obtain ⟨rfl, rfl⟩ := y
    exact ⟨.refl, r2, .int _⟩
  · rw [List.getElem?_eq_none (by simpa using hi)] at e; cases e
end
section
variable {X : Cx} {W : WX} {tg e a b : Expr} {p pos : Pos} {fe : ME D} {fs : ME (List D)}
theorem PI.imp {e : Expr} {t t' : TI} (h : PI X tg e t) (i : ∀ σ H Q, t' σ H Q → t σ H Q) : PI X tg e t' := ⟨fun pins s σ H Q I q => h.run pins s σ H Q I (i σ H Q q)⟩
def iAny (K : PySem.W.Frag) (tl : TE) : TI := fun σ H R => tl σ H fun x H1 => (∃ a, x = .ref a ∧ ((∃ xs, SqL K H1 a xs) ∧ R (Itl K a) H1 ∨ (∃ xs, SqT K H1 a xs) ∧ R (Itt K a) H1)) ∨ ∃ z, x = .str z ∧ R (Its z) H1
theorem pi_any {tl : TE} (hl : PE X e tl) : PI X tg e (iAny X.K tl) := by
  refine ⟨fun pins s σ H R I h => ?_⟩
  refine thn (hl.run pins s σ H _ I h) fun v s1 ⟨x, H1, I1, r1, q1⟩ => ?_
  rcases q1 with ⟨a, rfl, ⟨⟨xs, hq⟩, q⟩ | ⟨⟨xs, hq⟩, q⟩⟩ | ⟨z, rfl, q⟩
  · cases r1
    obtain ⟨its, rv, p, hz⟩ := I1.list hq
    refine wpAny_pyIter_list p.isList ?_
    refine ⟨s1.heap.objs.size, [s1.heap.objs.size], _, _, H1, rfl, I1.kept (t' := s1.toks) fun b o e => Heap.get?_push_of_some _ e, turn_list a _, ⟨_, Heap.get?_push_size _ rfl, rfl, rfl⟩, fun b hb => ?_, q⟩
    have e : b = s1.heap.objs.size := by simpa using hb
    subst e
    exact I1.fpOk (Nat.le_refl _) (I1.hok.fresh (Nat.le_refl _))
  · cases r1
    obtain ⟨its, rv, p, hz⟩ := I1.tuple hq
    refine wpAny_pyIter_tuple (show s1.heap.IsTuple a its.toArray from p) ?_
    refine ⟨s1.heap.objs.size, [s1.heap.objs.size], _, _, H1, rfl, I1.kept (t' := s1.toks) fun b o e => Heap.get?_push_of_some _ e, turn_tuple a _, ⟨_, Heap.get?_push_size _ rfl, rfl, rfl⟩, fun b hb => ?_, q⟩
    have e : b = s1.heap.objs.size := by simpa using hb
    subst e
    exact I1.fpOk (Nat.le_refl _) (I1.hok.fresh (Nat.le_refl _))
  · obtain ⟨t, rfl⟩ := r1
    cases ha : z.cps.all (· < 128)
    · exact wpAny_pyIter_wide ha (pi_one (tk := s1.toks) I1 _ (turn_str _ z t "str_iterator" (.inr rfl)) ⟨_, Heap.get?_push_size _ rfl, rfl, rfl⟩ q)
    · exact wpAny_pyIter_ascii ha (pi_one (tk := s1.toks) I1 _ (turn_str _ z t "str_ascii_iterator" (.inl rfl)) ⟨_, Heap.get?_push_size _ rfl, rfl, rfl⟩ q)
theorem ci_seq (he : PE X e (Te X.K X.mg W fe)) : PI X tg e (Ti X.K X.mg W (iSeq fe)) := PI.imp (pi_any he) fun σ H Rw h =>
  Tm.bind (k := fun _ x s => match x with
  | .tup xs => R.ok (Itm.mk (xs) (always)) s
  | .fl xs => R.ok (Itm.mk (xs) (always)) s
  | .str z => R.ok (Itm.mk (z.cps.toList.map fun c => .str ⟨#[c]⟩) (always)) s
  | .loc l => match s[l]? with
    | some (.lst xs) => R.ok (Itm.mk (xs) (fun s2 => s2[l]? = some (.lst xs))) s
    | _ => R.no
  | _ => R.no) h fun m1 H1 env x v s1 r1 E1 p1 g1 => by
    cases x with
    | tup xs =>
      obtain ⟨a, vs, rfl, hq, rr⟩ := p1.sqT
      exact .inl ⟨a, rfl, .inr ⟨⟨vs, hq⟩, g1 m1 H1 _ .refl r1 (itr_tup hq rr)⟩⟩
    | fl xs =>
      cases p1 with
      | fl hq rr => exact .inl ⟨_, rfl, .inl ⟨⟨_, hq.sq⟩, g1 m1 H1 _ .refl r1 (itr_fl hq rr)⟩⟩
    | str z => cases p1; exact .inr ⟨z, rfl, g1 m1 H1 _ .refl r1 itr_str⟩
    | loc l =>
      cases p1 with
      | loc hl =>
        cases q : s1[l]? with
        | none => simp only [q] at g1; exact g1.elim
        | some c =>
          cases c with
          | dic _ => simp only [q] at g1; exact g1.elim
          | lst xs =>
            simp only [q] at g1
            obtain ⟨vs, h1, h2⟩ := r1.list hl q
            exact .inl ⟨_, rfl, .inl ⟨⟨vs, .inl (.inl h1)⟩, g1 m1 H1 _ .refl r1 (itr_list hl)⟩⟩
    | _ => exact g1.elim
theorem ci_range1 (hg : Gl X "range") (hm : X.mg "range" = none) (ha : PA X [a] (Ta X.K X.mg W fs)) (hs : starEach [a] X.env = [(false, eval a X.env)] := by rfl) : PI X tg (.Call (.Name "range" p) [a] [] pos) (Ti X.K X.mg W (iRange1 fs)) :=
  PI.imp (pi_range1 hg hm ha hs) fun σ H Rw h => Tm.bind (k := fun _ x s => match x with
  | [.int j] => if InR j then R.ok (Itm.mk ((List.range j.toNat).map fun i => .int ((0 : Int) + (i : Nat))) (always)) s else R.no
  | _ => R.no) h fun m1 H1 env x v s1 r1 E1 p1 g1 => by
    match x, p1, g1 with
    | [.int j], p1, g1 =>
      obtain ⟨v, rfl, h⟩ := reps1 p1
      cases h
      by_cases hj : InR j
      · simp only [hj, if_true] at g1
        exact ⟨j, rfl, hj.1, hj.2, g1 m1 H1 _ .refl r1 itr_range⟩
      · simp only [hj, if_false] at g1
        exact g1.elim
    | [], _, g1 => exact g1.elim
    | [.non], _, g1 => exact g1.elim
    | [.bl _], _, g1 => exact g1.elim
    | [.str _], _, g1 => exact g1.elim
    | [.tup _], _, g1 => exact g1.elim
    | [.fl _], _, g1 => exact g1.elim
    | [.loc _], _, g1 => exact g1.elim
    | [.exv _ _], _, g1 => exact g1.elim
    | .non :: _ :: _, _, g1 => exact g1.elim
    | .bl _ :: _ :: _, _, g1 => exact g1.elim
    | .int _ :: _ :: _, _, g1 => exact g1.elim
    | .str _ :: _ :: _, _, g1 => exact g1.elim
    | .tup _ :: _ :: _, _, g1 => exact g1.elim
    | .fl _ :: _ :: _, _, g1 => exact g1.elim
    | .loc _ :: _ :: _, _, g1 => exact g1.elim
    | .exv _ _ :: _ :: _, _, g1 => exact g1.elim
theorem ci_range2 (hg : Gl X "range") (hm : X.mg "range" = none) (ha : PA X [a, b] (Ta X.K X.mg W fs)) (hs : starEach [a, b] X.env = [(false, eval a X.env), (false, eval b X.env)] := by rfl) (hs2 : starEach [b] X.env = [(false, eval b X.env)] := by rfl) :
    PI X tg (.Call (.Name "range" p) [a, b] [] pos) (Ti X.K X.mg W (iRange2 fs)) :=
  PI.imp (pi_range2 hg hm ha hs hs2) fun σ H Rw h => Tm.bind (k := fun _ x s => match x with
  | [.int i, .int j] => if InR i ∧ InR j then R.ok (Itm.mk ((List.range (j - i).toNat).map fun k => .int (i + (k : Nat))) (always)) s else R.no
  | _ => R.no) h fun m1 H1 env x v s1 r1 E1 p1 g1 => by
    split at g1
    · rename_i i j
      obtain ⟨v, w, rfl, h, h2⟩ := reps2 p1
      cases h; cases h2
      by_cases hj : InR i ∧ InR j
      · simp only [hj, and_self, if_true] at g1
        exact ⟨i, j, rfl, ⟨hj.1.1, hj.1.2, hj.2.1, hj.2.2⟩, g1 m1 H1 _ .refl r1 itr_range⟩
      · simp only [hj, if_false] at g1
        exact g1.elim
    · exact g1.elim
end
/-- o[i] = e of a list -/
def pList (x y z : D) (s : Store) : Option Store := match x, y with
  | .loc l, .int i => match s[l]? with
    | some (.lst xs) => (ixN xs.length i).map fun j => s.set l (.lst (xs.set j z))
    | _ => none
  | _, _ => none
theorem puts_list {K : PySem.W.Frag} : PutS K rSetL pList := by
  intro m H s s' x y z dx dy dz Q r px py pz e q
  unfold pList at e
  split at e
  · rename_i l i
    cases px with
    | loc hl =>
      cases py
      split at e
      · rename_i xs q1
        cases q2 : ixN xs.length i with
        | none => rw [q2] at e; cases e
        | some j =>
          rw [q2] at e
          cases e
          obtain ⟨vs, h1, h2⟩ := r.list hl q1
          obtain ⟨le, r2⟩ := le_setlist r hl (h2.set pz j)
          exact ⟨_, vs, i, j, rfl, rfl, h1, by rw [← h2.length]; exact q2, q _ le r2⟩
      · cases e
  · cases e
end Mi
namespace Mi
open PySem PySem.Spec PyProof.Rows L2
/-! ### list comprehensions -/
/-- a list that is being made is no cell yet: what a value's standing needs -/
structure Lw (K : PySem.W.Frag) (m : List Addr) (H : Hp) (m' : List Addr) (H' : Hp) : Prop where
  pre : ∃ r, m' = m ++ r
  tup : ∀ a xs, SqT K H a xs → SqT K H' a xs
  frl : ∀ a xs, FrL K H a xs → FrL K H' a xs
section
variable {K : PySem.W.Frag} {mg : Str → Option Value} {m m1 m2 : List Addr} {H H1 H2 : Hp} {s : Store} {p : Addr}
theorem Le.w (e : Le K m H m1 H1) : Lw K m H m1 H1 := ⟨e.pre, e.tup, e.frl⟩
theorem Lw.get (e : Lw K m H m1 H1) {l : Nat} {a : Addr} (h : m[l]? = some a) : m1[l]? = some a := by
  obtain ⟨r, rfl⟩ := e.pre
  rw [List.getElem?_append_left (by
    rcases Nat.lt_or_ge l m.length with q | q
    · exact q
    · rw [List.getElem?_eq_none q] at h; cases h)]
  exact h
mutual
theorem Rep.monoW (e : Lw K m H m1 H1) : ∀ {d : D} {v : V}, Rep K m H d v → Rep K m1 H1 d v
  | _, _, .non => .non
  | _, _, .bl b => .bl b
  | _, _, .int i => .int i
  | _, _, .str x => .str x
  | _, _, .tup h r => .tup (e.tup _ _ h) (Reps.monoW e r)
  | _, _, .fl h r => .fl (e.frl _ _ h) (Reps.monoW e r)
  | _, _, .loc h => .loc (e.get h)
  | _, _, .exv a => .exv a
theorem Reps.monoW (e : Lw K m H m1 H1) : ∀ {ds : List D} {vs : List V}, Reps K m H ds vs → Reps K m1 H1 ds vs
  | _, _, .nil => .nil
  | _, _, .cons h r => .cons (Rep.monoW e h) (Reps.monoW e r)
end
theorem RepK.monoW (e : Lw K m H m1 H1) : ∀ {ds : List (Key × D)} {vs : List (Key × V)}, RepK K m H ds vs → RepK K m1 H1 ds vs
  | _, _, .nil => .nil
  | _, _, .cons h r => .cons (h.monoW e) (RepK.monoW e r)
theorem RelE.monoW (e : Lw K m H m1 H1) {env : Sl} {σ : L2.St} (h : RelE K m H env σ) : RelE K m1 H1 env σ :=
  ⟨h.1, fun i d q => let ⟨v, h1, h2⟩ := h.2 i d q; ⟨v, h1, h2.monoW e⟩⟩
theorem CellR.monoW {c : Cell} {a : Addr} (e : Lw K m H m1 H1) (hs : H1 a = H a) (h : CellR K m H a c) : CellR K m1 H1 a c := by
  cases c with
  | lst xs => obtain ⟨vs, h1, h2⟩ := h; exact ⟨vs, hs.trans h1, h2.monoW e⟩
  | dic kvs => obtain ⟨ws, h1, h2⟩ := h; exact ⟨ws, hs.trans h1, h2.monoW e⟩
/-- a list of ours that is no cell is written -/
theorem lw_side {vs ws : List V} (h : H p = some (.lst vs)) : Lw K m H m (upd H p (HO.lst ws)) :=
  ⟨⟨[], by simp⟩, fun b xs q => by
    rcases q with (q | ⟨ob, q⟩) | q
    · exact .inl (.inl (by rw [upd_ne (fun z => by subst z; rw [h] at q; cases q)]; exact q))
    · exact .inl (.inr ⟨ob, by rw [upd_ne (fun z => by subst z; rw [h] at q; cases q)]; exact q⟩)
    · exact .inr q, fun b xs q => by
    rcases q with ⟨ob, q⟩ | q
    · exact .inl ⟨ob, by rw [upd_ne (fun z => by subst z; rw [h] at q; cases q)]; exact q⟩
    · exact .inr q⟩
theorem Rel.side (r : Rel K m H s) {vs ws : List V} (h : H p = some (.lst vs)) (n : p ∉ m) : Rel K m (upd H p (HO.lst ws)) s :=
  ⟨r.len, r.nd, fun l a c h1 h2 => (r.at_ l a c h1 h2).monoW (lw_side h) (upd_ne fun z => by subst z; exact n (List.mem_of_getElem? h1))⟩
theorem Le.side (e : Le K m H m1 H1) {vs ws : List V} (h0 : H p = none) (h : H1 p = some (.lst vs)) : Le K m H m1 (upd H1 p (HO.lst ws)) :=
  ⟨e.pre, fun a xs q => (lw_side (m := m1) h).tup a xs (e.tup a xs q), fun a xs q => (lw_side (m := m1) h).frl a xs (e.frl a xs q), fun b o q n => by
    rw [upd_ne (fun z => by subst z; rw [h0] at q; cases q)]; exact e.fr b o q n, e.nw⟩
theorem lw_adopt : Lw K m H (m ++ [p]) H := ⟨⟨[p], rfl⟩, fun _ _ q => q, fun _ _ q => q⟩
theorem Rel.adopt (r : Rel K m H s) {xs : List D} {vs : List V} (n : p ∉ m) (h : H p = some (.lst vs)) (q : Reps K m H xs vs) : Rel K (m ++ [p]) H (s ++ [Cell.lst xs]) := by
  refine ⟨by simp [r.len], ?_, fun j b d h1 h2 => ?_⟩
  · rw [List.nodup_append]
    exact ⟨r.nd, by simp, fun x hx y hy => by rw [List.mem_singleton.mp hy]; exact fun z => n (z ▸ hx)⟩
  · rcases Nat.lt_or_ge j m.length with w | w
    · rw [List.getElem?_append_left w] at h1
      rw [List.getElem?_append_left (by rw [← r.len]; exact w)] at h2
      exact (r.at_ j b d h1 h2).monoW lw_adopt rfl
    · rw [List.getElem?_append_right w] at h1
      rw [List.getElem?_append_right (by rw [← r.len]; exact w), ← r.len] at h2
      cases hk : j - m.length with
      | zero =>
        rw [hk] at h1 h2
        simp at h1 h2
        subst h1; subst h2
        exact ⟨vs, h, q.monoW lw_adopt⟩
      | succ n => rw [hk] at h1; simp at h1
theorem Le.adopt (e : Le K m H m1 H1) (h0 : H p = none) : Le K m H (m1 ++ [p]) H1 := by
  refine ⟨?_, e.tup, e.frl, e.fr, fun b h => ?_⟩
  · obtain ⟨r, rfl⟩ := e.pre
    exact ⟨r ++ [p], by simp⟩
  · rcases List.mem_append.mp h with q | q
    · exact e.nw b q
    · rw [List.mem_singleton.mp q]; exact .inr h0
end
def wipeE (env : Sl) : List Nat → Sl
  | [] => env
  | v :: vs => (wipeE env vs).set v none
theorem wipeE_length (env : Sl) : ∀ vs : List Nat, (wipeE env vs).length = env.length
  | [] => rfl
  | v :: vs => by unfold wipeE; rw [List.length_set, wipeE_length env vs]
theorem wipeE_some {env : Sl} {i : Nat} {x : D} : ∀ {vs : List Nat}, (wipeE env vs)[i]? = some (some x) → env[i]? = some (some x) ∧ i ∉ vs
  | [], h => ⟨h, by simp⟩
  | v :: vs, h => by
    unfold wipeE at h
    by_cases hi : v = i
    · subst hi
      by_cases hv : v < (wipeE env vs).length
      · rw [List.getElem?_set_self hv] at h; cases h
      · rw [List.getElem?_eq_none (by simpa using hv)] at h; cases h
    · rw [List.getElem?_set_ne hi] at h
      obtain ⟨h1, h2⟩ := wipeE_some h
      exact ⟨h1, by simp only [List.mem_cons, not_or]; exact ⟨fun e => hi e.symm, h2⟩⟩
theorem relE_wipe {K : PySem.W.Frag} {m : List Addr} {H : Hp} {env : Sl} {σ : L2.St} (E : RelE K m H env σ) (vs : List Nat) : RelE K m H (wipeE env vs) (wipe σ vs) := by
  refine ⟨by rw [wipeE_length, wipe_length]; exact E.1, fun i d h => ?_⟩
  obtain ⟨h1, h2⟩ := wipeE_some h
  obtain ⟨v, h3, h4⟩ := E.2 i d h1
  exact ⟨v, by rw [wipe_out h2]; exact h3, h4⟩
theorem wipe_in {σ : L2.St} {i : Nat} : ∀ {vs : List Nat}, i ∈ vs → i < σ.length → (wipe σ vs)[i]? = some none
  | v :: vs, h, hl => by
    unfold wipe
    by_cases hv : v = i
    · subst hv
      rw [List.getElem?_set_self (by rw [wipe_length]; exact hl)]
    · rw [List.getElem?_set_ne hv]
      exact wipe_in (by rcases List.mem_cons.mp h with e | e; exact absurd e.symm hv; exact e) hl
theorem wipe_congr {σ σ' : L2.St} {vs : List Nat} (hl : σ'.length = σ.length) (h : ∀ i, i ∉ vs → σ'[i]? = σ[i]?) : wipe σ' vs = wipe σ vs := by
  apply List.ext_getElem?
  intro i
  by_cases hi : i ∈ vs
  · by_cases hn : i < σ.length
    · rw [wipe_in hi (by rw [hl]; exact hn), wipe_in hi hn]
    · rw [List.getElem?_eq_none (by rw [wipe_length, hl]; omega), List.getElem?_eq_none (by rw [wipe_length]; omega)]
  · rw [wipe_out hi, wipe_out hi, h i hi]
theorem wipe_wipe (σ : L2.St) (vs : List Nat) : wipe (wipe σ vs) vs = wipe σ vs := wipe_congr (wipe_length σ vs) fun i hi => wipe_out hi
/-- nothing is raised within a comprehension -/
def noX {α : Type} : R α → R α
  | .ok a s => .ok a s
  | _ => .no
open Classical in
noncomputable def lcL (guard : Store → Prop) (g : D → Sl → Option Sl) (t : ME Bool) (e : ME D) (env : Sl) : List D → List D → Store → R (List D)
  | [], acc, s => if guard s then .ok acc s else .no
  | x :: xs, acc, s => if guard s then (match g x env with
    | none => .no
    | some env1 => match t env1 s with
      | .ok b s1 => if b then (match e env1 s1 with
        | .ok y s2 => if acc.length < sizeLine then lcL guard g t e env xs (acc ++ [y]) s2 else .no
        | _ => .no) else lcL guard g t e env xs acc s1
      | _ => .no) else .no
noncomputable def eLc (it : ME Itm) (vs : List Nat) (g : D → Sl → Option Sl) (t : ME Bool) (e : ME D) : ME D := fun env s => (it env s).bind fun i s => (lcL i.guard g t e (wipeE env vs) i.xs [] s).bind fun acc s => .ok (.loc s.length) (s ++ [.lst acc])
def tT : ME Bool := fun _ s => .ok true s
abbrev WF : WX := fun _ _ _ _ => False
section
variable {X : Cx} {W : WX}
theorem lc_run {fi : ME Itm} {vs : List Nat} {gt : D → Sl → Option Sl} {ft : ME Bool} {fe : ME D} : ∀ σ H Q, Te X.K X.mg W (eLc fi vs gt ft fe) σ H Q →
    tLc (Ti X.K X.mg W fi) (GTm X.K vs gt) (Tt X.K X.mg WF ft) (Te X.K X.mg WF fe) vs σ H Q := fun σ H Q h =>
  Tm.bind (k := fun env (i : Itm) s => (lcL i.guard gt ft fe (wipeE env vs) i.xs [] s).bind fun acc s => R.ok (D.loc s.length) (s ++ [Cell.lst acc])) h fun m1 H1 env it J s1 r1 E1 p1 g1 => by
    intro P hP
    refine ⟨fun i k H => k = it.xs.length - i ∧ i ≤ it.xs.length ∧ ∃ m2 s2 acc accV, Le X.K m1 H1 m2 H ∧ Rel X.K m2 H s2 ∧ H P = some (.lst accV) ∧ P ∉ m2 ∧ Reps X.K m2 H acc accV ∧
        G X.K X.mg (Rep X.K) W σ m1 H1 Q ((lcL it.guard gt ft fe (wipeE env vs) (it.xs.drop i) acc s2).bind fun acc s => R.ok (D.loc s.length) (s ++ [Cell.lst acc])),
      ⟨it.xs.length, by simp, Nat.zero_le _, m1, s1, [], [], le_new hP, r1.tmp hP, upd_same, r1.new_notin hP, .nil, g1⟩, ?_⟩
    rintro i k H2 ⟨rfl, hi, m2, s2, acc, accV, l2, r2, hD, nD, pA, g2⟩
    by_cases hlt : i < it.xs.length
    · have hx : it.xs[i]? = some it.xs[i] := by simp [hlt]
      have hd : it.xs.drop i = it.xs[i] :: it.xs.drop (i + 1) := List.drop_eq_getElem_cons hlt
      rw [hd] at g2
      unfold lcL at g2
      by_cases hgd : it.guard s2
      · simp only [hgd, if_true] at g2
        obtain ⟨hall, _⟩ := p1 m2 H2 s2 l2 r2 hgd
        obtain ⟨hgo, hy⟩ := hall i _ hx
        refine .inr ⟨hgo, fun H' => ∃ m2 s2 acc accV, Le X.K m1 H1 m2 H' ∧ Rel X.K m2 H' s2 ∧ H' P = some (.lst accV) ∧ P ∉ m2 ∧ Reps X.K m2 H' acc accV ∧
          G X.K X.mg (Rep X.K) W σ m1 H1 Q ((lcL it.guard gt ft fe (wipeE env vs) (it.xs.drop (i + 1)) acc s2).bind fun acc s => R.ok (D.loc s.length) (s ++ [Cell.lst acc])),
          fun H' q => ⟨it.xs.length - (i + 1), by omega, rfl, hlt, q⟩, fun v H3 y => ?_⟩
        obtain ⟨l3, r3, p3⟩ := hy v H3 y
        cases q : gt it.xs[i] (wipeE env vs) with
        | none => simp only [q] at g2; exact g2.elim
        | some env3 =>
          simp only [q] at g2
          have l13 := l2.trans l3
          have hD3 := l3.fr P _ hD nD
          refine ⟨m2, wipeE env vs, s2, it.xs[i], env3, r3, relE_wipe (E1.mono l13) vs, p3, q, fun σ4 E4 k4 n4 => ⟨by rw [wipe_congr n4 k4, wipe_wipe], m2, env3, s2, r3, E4, ?_⟩⟩
          cases ht : ft env3 s2 with
          | no => rw [ht] at g2; exact g2.elim
          | ex x s4 => rw [ht] at g2; exact g2.elim
          | ok b s4 =>
            simp only [ht] at g2
            intro m5 H5 b' l5 r5 eb
            cases (show b = b' from eb)
            have hD5 := l5.fr P _ hD3 nD
            have nD5 : P ∉ m5 := fun z => by
              rcases l5.nw P z with w | w
              · exact nD w
              · rw [hD3] at w; cases w
            have l15 := l13.trans l5
            cases b with
            | false =>
              refine iteF ⟨m5, s4, acc, accV, l15, r5, hD5, nD5, (pA.mono l3).mono l5, ?_⟩
              simpa using g2
            | true =>
              simp only [if_true] at g2
              refine iteT ⟨m5, env3, s4, r5, E4.mono l5, ?_⟩
              cases he : fe env3 s4 with
              | no => rw [he] at g2; exact g2.elim
              | ex x s6 => rw [he] at g2; exact g2.elim
              | ok y s6 =>
                simp only [he] at g2
                by_cases hz : acc.length < sizeLine
                · simp only [hz, if_true] at g2
                  intro m7 H7 yv l7 r7 p7
                  have hD7 := l7.fr P _ hD5 nD5
                  have nD7 : P ∉ m7 := fun z => by
                    rcases l7.nw P z with w | w
                    · exact nD5 w
                    · rw [hD5] at w; cases w
                  have pA7 := ((pA.mono l3).mono l5).mono l7
                  exact ⟨accV, hD7, by rw [← pA.length]; exact hz, m7, s6, acc ++ [y], accV ++ [yv], (l15.trans l7).side hP hD7, r7.side hD7 nD7, upd_same, nD7,
                    (pA7.monoW (lw_side hD7)).append (.cons (p7.monoW (lw_side hD7)) .nil), g2⟩
                · simp only [hz, if_false] at g2
                  exact g2.elim
      · simp only [hgd, if_false] at g2
        exact g2.elim
    · have e : i = it.xs.length := by omega
      subst e
      rw [List.drop_length] at g2
      unfold lcL at g2
      by_cases hgd : it.guard s2
      · simp only [hgd, if_true] at g2
        refine .inl ⟨(p1 m2 H2 s2 l2 r2 hgd).2, ?_⟩
        exact g2 (m2 ++ [P]) H2 (.ref P) (l2.adopt hP) (r2.adopt nD hD pA) (.loc (len_get r2))
      · simp only [hgd, if_false] at g2
        exact g2.elim
variable {elt tg iter c : Expr} {ifs : List Expr} {scope : Scope} {own : List (Str × Nat)} {pos : Pos} {fi : ME Itm} {gt : D → Sl → Option Sl} {ft : ME Bool} {fe : ME D}
theorem cts_nil : PTs X [] (Tt X.K X.mg W tT) := ⟨fun pins s σ H Q I ⟨m, env, st, r, E, g⟩ => pts_nil.run pins s σ H Q I (g.nowB r)⟩
theorem cts_one (h : PT X c (Tt X.K X.mg W ft)) : PTs X [c] (Tt X.K X.mg W ft) := pts_one h
theorem ce_lc (hc : X.calm = true) (hN : X.N.Nodup) (hi : PI X tg iter (Ti X.K X.mg W fi)) (ok : BlkOk X.N X.env.scope scope own)
    (hg : ∀ (s : Shared) (H : Hp) (C : Addr) (cl : List (Str × Addr)) (fp : List Addr), PG (X.blk s H scope (compEnvC scope cl C X.env) fp) tg (GTm X.K (own.map (·.2)) gt)) (ht : ∀ (s : Shared) (H : Hp) (C : Addr) (cl : List (Str × Addr)) (fp : List Addr), PTs (X.blk s H scope (compEnvC scope cl C X.env) fp) ifs (Tt X.K X.mg WF ft))
    (he : ∀ (s : Shared) (H : Hp) (C : Addr) (cl : List (Str × Addr)) (fp : List Addr), PE (X.blk s H scope (compEnvC scope cl C X.env) fp) elt (Te X.K X.mg WF fe)) (hs : ∀ x, foldedSetIterable iter X.env x = pure x := by intro _; rfl) :
    PE X (.ListComp elt [⟨tg, iter, ifs, 0⟩] scope pos) (Te X.K X.mg W (eLc fi (own.map (·.2)) gt ft fe)) := PE.imp (pe_lc hc hN hi ok hg ht he hs) lc_run
theorem cs_setLc {i : Nat} {y : Str} {py spos : Pos} (hc : X.calm = true) (hN : X.N.Nodup) (hy : X.N[i]? = some y) (hyl : X.env.scope.names.lookup y = some .local)
    (hsw : swapsWith (.ListComp elt [⟨tg, iter, ifs, 0⟩] scope pos) (some (.Name y py)) spos.line X.env = pure true) (hi : PI X tg iter (Ti X.K X.mg W fi)) (ok : BlkOk X.N X.env.scope scope own)
    (hg : ∀ (s : Shared) (H : Hp) (C : Addr) (cl : List (Str × Addr)) (fp : List Addr), PG (X.blk s H scope (compEnvC scope cl C X.env) fp) tg (GTm X.K (own.map (·.2)) gt)) (ht : ∀ (s : Shared) (H : Hp) (C : Addr) (cl : List (Str × Addr)) (fp : List Addr), PTs (X.blk s H scope (compEnvC scope cl C X.env) fp) ifs (Tt X.K X.mg WF ft))
    (he : ∀ (s : Shared) (H : Hp) (C : Addr) (cl : List (Str × Addr)) (fp : List Addr), PE (X.blk s H scope (compEnvC scope cl C X.env) fp) elt (Te X.K X.mg WF fe)) (hs : ∀ x, foldedSetIterable iter X.env x = pure x := by intro _; rfl) :
    PS X (.Assign [.Name y py] (.ListComp elt [⟨tg, iter, ifs, 0⟩] scope pos) spos) (Ts X.K X.mg W (sSet i (eLc fi (own.map (·.2)) gt ft fe))) := PS.imp (ps_setLc (i := i) hc hN hy hyl hsw hi ok hg ht he hs) fun Dn σ H h =>
  lc_run σ H _ (Ts.ofE (k := fun env d s => RS.nx (env.set i (some d)) s) h fun m1 H1 env d v s1 r1 E1 p1 g1 => g1 m1 _ H1 .refl r1 (relE_set E1 p1 i))
end
/-! ### a def -/
/-- the mirror of a def: N names, n of them parameters -/
def fnM (N n : Nat) (b : MS) : List D → Store → R D := fun ds s => match b (ds.map some ++ List.replicate (N - n) none) s with
  | .rt d s => .ok d s
  | .nx _ s => .ok .non s
  | .ex e _ s => .ex e s
  | _ => .no
theorem relE_start {K : PySem.W.Frag} {m : List Addr} {H : Hp} {N : List Str} {ds : List D} {vs : List V} (p : Reps K m H ds vs) : RelE K m H (ds.map some ++ List.replicate (N.length - ds.length) none) (L2.start N vs) := by
  have hl := p.length
  refine ⟨by simp [L2.start, hl], fun i d h => ?_⟩
  by_cases hi : i < ds.length
  · rw [List.getElem?_append_left (by simpa using hi), List.getElem?_map] at h
    cases q : ds[i]? with
    | none => rw [q] at h; cases h
    | some d' =>
      rw [q] at h; cases h
      obtain ⟨v, h1, h2⟩ := p.get q
      refine ⟨v, ?_, h2⟩
      unfold L2.start
      rw [List.getElem?_append_left (by simpa using (hl ▸ hi)), List.getElem?_map, h1]
      rfl
  · rw [List.getElem?_append_right (by simpa using Nat.le_of_not_lt hi), List.getElem?_replicate] at h
    split at h <;> cases h
theorem okM {P : Program} {w : World} {K : PySem.W.Frag} {mg : Str → Option Value} {base : Heap} {x qual : Str} {st : Stmt} {f : Addr} {fd : FuncData} {N ps : List Str} {k n : Nat} {b : MS} (F : Fun K x qual st f fd) (S : FnScope N ps (defScope st)) (hn : ps.length = n)
    (hb : ∀ (cdv : Value) (A : Around) (outer : List Env) (s : Shared) (H : Hp) (E : XK), Room k (A.deeper (envOfC qual (defScope st) s.heap.objs.size f cdv)) → Takes (cxOf (L2.CX P w) P w K mg base N qual (defScope st) f cdv A outer s H E) (fun c d _ H => E c d H) →
      PSs (cxOf (L2.CX P w) P w K mg base N qual (defScope st) f cdv A outer s H E) (defBody st) (Ts K mg (fun c d _ H => E c d H) b)) :
    FnOk P w K mg base (L2.CX P w) (k + 1) f fd ps (spM K mg n (fnM N.length n b)) := by
  refine F.okX S (fun vs H Q E h => by rw [hn]; exact h.1) fun cdv A outer s H vs Q E hr h => ⟨_, hb cdv A outer s H E hr (takes_of rfl rfl rfl rfl), ?_⟩
  obtain ⟨hl, m, s, ds, r, p, g⟩ := h
  refine ⟨m, _, s, r, relE_start (N := N) p, ?_⟩
  have hd : ds.length = n := by rw [p.length, hl]
  unfold fnM at g
  rw [hd]
  cases q : b (ds.map some ++ List.replicate (N.length - n) none) s with
  | nx env s1 => rw [q] at g; exact fun m' σ' H' l r' _ => g m' H' .non l r' .non
  | rt d s1 => rw [q] at g; exact g
  | ex e env s1 => rw [q] at g; exact fun m' σ' H' c dd l r' _ x => g m' H' c dd l r' x
  | bk env s1 => rw [q] at g; exact g.elim
  | ct env s1 => rw [q] at g; exact g.elim
  | no => rw [q] at g; exact g.elim
end Mi
namespace Mi
open PySem PySem.Spec PyProof.Rows L2
/-! ### the law's end -/
theorem an_nil : ∀ (xs : List D) (s : Store) (env : Sl) (s' : Store), aNil env s = .ok xs s' → xs.length = 0 := fun xs s env s' h => by cases h; rfl
theorem an_cons {a : ME D} {r : ME (List D)} {n : Nat} (h : ∀ (xs : List D) (s : Store) (env : Sl) (s' : Store), r env s = .ok xs s' → xs.length = n) :
    ∀ (xs : List D) (s : Store) (env : Sl) (s' : Store), aCons a r env s = .ok xs s' → xs.length = n + 1 := fun xs s env s' e => by
  unfold aCons at e
  cases q : a env s with
  | no => rw [q] at e; cases e
  | ex x s1 => rw [q] at e; cases e
  | ok x s1 =>
    rw [q] at e
    simp only [R.bind_ok] at e
    cases q2 : r env s1 with
    | no => rw [q2] at e; cases e
    | ex x s2 => rw [q2] at e; cases e
    | ok ys s2 =>
      rw [q2] at e
      simp only [R.bind_ok] at e
      have z := h ys s1 env s2 q2
      cases e
      rw [List.length_cons, z]
def dAddI : D → D → Store → Option (D × Store) := dI fun i j => some (.int (i + j))
theorem ips_add {K : PySem.W.Frag} : OpS K (ipI fun i j => i + j) dAddI := fun {mg W σ m H s x y dx dy Q} r px py g => ops_dI0 (K := K) (gv := fun i j => .int (i + j)) (fun _ _ _ _ => .int _) r px py g
theorem ips_sub {K : PySem.W.Frag} : OpS K (ipI fun i j => i - j) dSub := fun {mg W σ m H s x y dx dy Q} r px py g => ops_sub (K := K) r px py g
theorem cx_none {P : Program} {w : World} {l : List Env} {H : Hp} {s : Shared} {e : Value} {s' : Shared} (h : L2.CX P w l H s (fun _ _ _ => False) e s') : False := by
  obtain ⟨_, _, _, _, _, _, _, _, _, _, _, _, z⟩ := h
  exact z
def spLaw (K : PySem.W.Frag) : Sp := fun vs H Q _ => ∃ (a : Addr) (ns : List Int), vs = [.ref a] ∧ SqL K H a (ns.map V.int) ∧ ns.length ≤ 63 ∧ Only H ∧ ∀ H', Q (.bl true) H'
theorem law_imp {K : PySem.W.Frag} {mg : Str → Option Value} {g : List D → Store → R D} (h : ∀ ns : List Int, ns.length ≤ 63 → ∃ s, g [.fl (ns.map D.int)] [] = .ok (.bl true) s) :
    ∀ vs H Q E, spLaw K vs H Q E → spM K mg 1 g vs H Q E := fun vs H Q E ⟨a, ns, e, hS, hl, hO, q⟩ => by
  subst e
  refine ⟨rfl, [], [], [.fl (ns.map D.int)], ⟨rfl, List.nodup_nil, fun l a c h => by simp at h⟩, .cons (.fl (vs := ns.map V.int) ?_ (reps_ints ns)) .nil, ?_⟩
  · rcases hS with (hS | hS) | hS
    · rcases hO a with z | ⟨o, xs, z⟩
      · rw [hS] at z; cases z
      · rw [hS] at z; cases z
    · exact .inl hS
    · exact .inr hS
  · obtain ⟨s, e⟩ := h ns hl
    rw [e]
    intro m' H' v _ _ p
    cases p
    exact q H'
end Mi
namespace Mi
open PySem PySem.Spec PyProof.Rows L2
/-! ### running a mirror by simp -/
@[simp] theorem line_num : sizeLine = 16777216 := sizeLine_eq
/-- what range(n) gives -/
def rng (n : Nat) : List D := (List.range n).map fun i => .int ((0 : Int) + (i : Nat))
section
variable (env : Sl) (s : Store)
@[simp] theorem eC_eq (d : D) : eC d env s = .ok d s := rfl
@[simp] theorem eV_0 (d : D) (r : Sl) : eV 0 (some d :: r) s = .ok d s := rfl
@[simp] theorem eV_s (i : Nat) (o : Option D) (r : Sl) : eV (i + 1) (o :: r) s = eV i r s := rfl
@[simp] theorem e2_eq (g) (a b : ME D) : e2 g a b env s = (a env s).bind fun x s => (b env s).bind fun y s => R.of (g x y s) := rfl
@[simp] theorem e1_eq (g) (a : ME D) : e1 g a env s = (a env s).bind fun x s => R.of (g x s) := rfl
@[simp] theorem aNil_eq : aNil env s = .ok [] s := rfl
@[simp] theorem aCons_eq (a : ME D) (r : ME (List D)) : aCons a r env s = (a env s).bind fun x s => (r env s).bind fun xs s => .ok (x :: xs) s := rfl
@[simp] theorem eFn_eq (g) (a : ME (List D)) : eFn g a env s = (a env s).bind fun xs s => R.of (g xs s) := rfl
theorem le_line {n : Nat} (h : n ≤ 1000000) : n ≤ sizeLine := by rw [sizeLine_eq]; omega
theorem lt_line {n : Nat} (h : n ≤ 1000000) : n < sizeLine := by rw [sizeLine_eq]; omega
@[simp] theorem eTup_eq (a : ME (List D)) : eTup a env s = (a env s).bind fun xs s => if xs.length ≤ sizeLine then .ok (.tup xs) s else .no := rfl
@[simp] theorem eLst_eq (a : ME (List D)) : eLst a env s = (a env s).bind fun xs s => if xs.length ≤ sizeLine then .ok (.loc s.length) (s ++ [.lst xs]) else .no := rfl
/-- written displays -/
def arity : ME (List D) → Nat → Prop := fun a n => ∀ env s xs s', a env s = .ok xs s' → xs.length = n
theorem tup_short (xs : List D) (h : xs.length ≤ 1000000) : (if xs.length ≤ sizeLine then (R.ok (D.tup xs) s : R D) else .no) = .ok (.tup xs) s := if_pos (le_line h)
@[simp] theorem eCall_eq (g : List D → Store → R D) (a : ME (List D)) : eCall g a env s = (a env s).bind g := rfl
@[simp] theorem tV_eq (a : ME D) : tV a env s = (a env s).bind fun x s => match x with | .bl b => .ok b s | _ => .no := rfl
@[simp] theorem tAnd_eq (a b : ME Bool) : tAnd a b env s = (a env s).bind fun x s => if x then b env s else .ok false s := rfl
@[simp] theorem tOr_eq (a b : ME Bool) : tOr a b env s = (a env s).bind fun x s => if x then .ok true s else b env s := rfl
@[simp] theorem tNot_eq (a : ME Bool) : tNot a env s = (a env s).bind fun x s => .ok (!x) s := rfl
@[simp] theorem eIf_eq (c : ME Bool) (a b : ME D) : eIf c a b env s = (c env s).bind fun x s => if x then a env s else b env s := rfl
@[simp] theorem eAnd_eq (a b : ME D) : eAnd a b env s = (a env s).bind fun x s => match x with | .bl true => b env s | .bl false => .ok (.bl false) s | _ => .no := rfl
@[simp] theorem eOr_eq (a b : ME D) : eOr a b env s = (a env s).bind fun x s => match x with | .bl true => .ok (.bl true) s | .bl false => b env s | _ => .no := rfl
@[simp] theorem eNot_eq (a : ME D) : eNot a env s = (a env s).bind fun x s => match x with | .bl c => .ok (.bl !c) s | _ => .no := rfl
@[simp] theorem eChain_eq (g g') (a b c : ME D) : eChain g g' a b c env s = (a env s).bind fun x s => (b env s).bind fun y s => (R.of (g x y s)).bind fun z s => match z with
  | .bl true => (c env s).bind fun w s => R.of (g' y w s)
  | .bl false => .ok (.bl false) s
  | _ => .no := rfl
@[simp] theorem eMt_eq (T : String) (g) (a : ME D) (fs : ME (List D)) : eMt T g a fs env s = (a env s).bind fun x s => if tyOk T s x = true then (fs env s).bind fun xs s => R.of (g x xs s) else .no := rfl
@[simp] theorem eMt0_eq (T : String) (g) (a : ME D) : eMt0 T g a env s = (a env s).bind fun x s => if tyOk T s x = true then R.of (g x [] s) else .no := rfl
@[simp] theorem oNone_eq : oNone env s = .ok none s := rfl
@[simp] theorem oSome_eq (a : ME D) : oSome a env s = (a env s).bind fun x s => match x with | .int i => .ok (some i) s | _ => .no := rfl
@[simp] theorem eSl_eq (g) (a : ME D) (lo hi : ME (Option Int)) : eSl g a lo hi env s = (a env s).bind fun x s => (lo env s).bind fun l s => (hi env s).bind fun u s => R.of (g x l u s) := rfl
@[simp] theorem gN_eq (i : Nat) (d : D) : gN i d env = some (env.set i (some d)) := rfl
@[simp] theorem gsN_eq : gsN [] env = some env := rfl
@[simp] theorem gsC_eq (g) (r) (x : D) (xs : List D) : gsC g r (x :: xs) env = (g x env).bind (r xs) := rfl
@[simp] theorem gT_eq (n : Nat) (r) (xs : List D) : gT n r (.tup xs) env = if xs.length = n then r xs env else none := rfl
@[simp] theorem sNil_eq : sNil env s = .nx env s := rfl
@[simp] theorem sSeq_eq (f g : MS) : sSeq f g env s = (f env s).bind g := rfl
@[simp] theorem sSet_eq (i : Nat) (e : ME D) : sSet i e env s = (e env s).then env fun d s => .nx (env.set i (some d)) s := rfl
@[simp] theorem sAsg_eq (g) (e : ME D) : sAsg g e env s = (e env s).then env fun d s => match g d env with | some env' => .nx env' s | none => .no := rfl
@[simp] theorem sIf_eq (c : ME Bool) (f g : MS) : sIf c f g env s = (c env s).then env fun b s => if b then f env s else g env s := rfl
@[simp] theorem sRet_eq (e : ME D) : sRet e env s = (e env s).then env fun d s => .rt d s := rfl
@[simp] theorem sRetN_eq : sRetN env s = .rt .non s := rfl
@[simp] theorem sExpr_eq (e : ME D) : sExpr e env s = (e env s).then env fun _ s => .nx env s := rfl
@[simp] theorem sBrk_eq : sBrk env s = .bk env s := rfl
@[simp] theorem sCnt_eq : sCnt env s = .ct env s := rfl
@[simp] theorem sPut_eq (g) (o i e : ME D) : sPut g o i e env s = (e env s).then env fun d s => (o env s).then env fun x s => (i env s).then env fun y s => match g x y d s with
  | some s' => .nx env s'
  | none => .no := rfl
@[simp] theorem sFor_eq (it : ME Itm) (g) (b : MS) : sFor it g b env s = (it env s).then env fun i s => forL i.guard g b i.xs env s := rfl
@[simp] theorem eLc_eq (it : ME Itm) (vs g t e) : eLc it vs g t e env s = (it env s).bind fun i s => (lcL i.guard g t e (wipeE env vs) i.xs [] s).bind fun acc s => .ok (.loc s.length) (s ++ [.lst acc]) := rfl
@[simp] theorem tT_eq : tT env s = .ok true s := rfl
@[simp] theorem iSeq_eq (a : ME D) : iSeq a env s = (a env s).bind fun x s => match x with
  | .tup xs => .ok (Itm.mk xs always) s
  | .fl xs => .ok (Itm.mk xs always) s
  | .str z => .ok (Itm.mk (z.cps.toList.map fun c => .str ⟨#[c]⟩) always) s
  | .loc l => match s[l]? with
    | some (.lst xs) => .ok (Itm.mk xs fun s2 => s2[l]? = some (.lst xs)) s
    | _ => .no
  | _ => .no := rfl
noncomputable def rangeOf (x : List D) (s : Store) : R Itm := match x with
  | [.int j] => if InR j then .ok (Itm.mk (rng j.toNat) always) s else .no
  | _ => .no
@[simp] theorem iRange1_eq (a : ME (List D)) : iRange1 a env s = (a env s).bind rangeOf := (rfl)
theorem big62 : (1000000000 : Int) < 2 ^ 62 := by decide
@[simp] theorem rangeOf_int (j : Int) (h0 : 0 ≤ j) (h1 : j ≤ 1000000000) : rangeOf [.int j] s = .ok (Itm.mk (rng j.toNat) always) s :=
  if_pos ⟨Int.le_trans (by decide) h0, Int.lt_of_le_of_lt h1 big62⟩
noncomputable def rangeOf2 (x : List D) (s : Store) : R Itm := match x with
  | [.int i, .int j] => if InR i ∧ InR j then .ok (Itm.mk ((List.range (j - i).toNat).map fun k => .int (i + (k : Nat))) always) s else .no
  | _ => .no
@[simp] theorem iRange2_eq (a : ME (List D)) : iRange2 a env s = (a env s).bind rangeOf2 := (rfl)
@[simp] theorem rangeOf2_int (i j : Int) (h0 : 0 ≤ i) (h1 : i ≤ 1000000000) (h2 : 0 ≤ j) (h3 : j ≤ 1000000000) : rangeOf2 [.int i, .int j] s = .ok (Itm.mk ((List.range (j - i).toNat).map fun k => .int (i + (k : Nat))) always) s :=
  if_pos ⟨⟨Int.le_trans (by decide) h0, Int.lt_of_le_of_lt h1 big62⟩, Int.le_trans (by decide) h2, Int.lt_of_le_of_lt h3 big62⟩
@[simp] theorem wipeE_nil : wipeE env [] = env := rfl
@[simp] theorem wipeE_cons (v : Nat) (vs : List Nat) : wipeE env (v :: vs) = (wipeE env vs).set v none := rfl
@[simp] theorem forL_nil_always (g) (b : MS) : forL always g b [] env s = .nx env s := by unfold forL; simp [always]
theorem forL_cons_always (g) (b : MS) (x : D) (xs : List D) : forL always g b (x :: xs) env s = match g x env with
    | none => .no
    | some env1 => match b env1 s with
      | .nx env2 s2 => forL always g b xs env2 s2
      | .ct env2 s2 => forL always g b xs env2 s2
      | .bk env2 s2 => .nx env2 s2
      | .rt d s2 => .rt d s2
      | .ex e env2 s2 => .ex e env2 s2
      | .no => .no := by
  conv => lhs; unfold forL
  exact (if_pos trivial).trans rfl
theorem forL_nil (gd : Store → Prop) (h : gd s) (g) (b : MS) : forL gd g b [] env s = .nx env s := by unfold forL; simp [h]
theorem forL_cons (gd : Store → Prop) (h : gd s) (g) (b : MS) (x : D) (xs : List D) : forL gd g b (x :: xs) env s = match g x env with
    | none => .no
    | some env1 => match b env1 s with
      | .nx env2 s2 => forL gd g b xs env2 s2
      | .ct env2 s2 => forL gd g b xs env2 s2
      | .bk env2 s2 => .nx env2 s2
      | .rt d s2 => .rt d s2
      | .ex e env2 s2 => .ex e env2 s2
      | .no => .no := by
  conv => lhs; unfold forL
  exact (if_pos h).trans rfl
theorem lcL_nil (gd : Store → Prop) (h : gd s) (g t e) (acc : List D) : lcL gd g t e env [] acc s = .ok acc s := by unfold lcL; simp [h]
theorem lcL_cons (gd : Store → Prop) (h : gd s) (g t e) (acc : List D) (x : D) (xs : List D) : lcL gd g t e env (x :: xs) acc s = match g x env with
    | none => .no
    | some env1 => match t env1 s with
      | .ok b s1 => if b then (match e env1 s1 with
        | .ok y s2 => if acc.length < sizeLine then lcL gd g t e env xs (acc ++ [y]) s2 else .no
        | _ => .no) else lcL gd g t e env xs acc s1
      | _ => .no := by
  conv => lhs; unfold lcL
  exact (if_pos h).trans rfl
end
@[simp] theorem dI_eq (f : Int → Int → Option D) (i j : Int) (s : Store) : dI f (.int i) (.int j) s = (f i j).map fun d => (d, s) := rfl
@[simp] theorem dAdd_int (i j : Int) (s : Store) : dAdd (.int i) (.int j) s = some (.int (i + j), s) := rfl
theorem dAdd_loc {s : Store} {l k : Nat} {xs ys : List D} (h : s[l]? = some (.lst xs)) (h2 : s[k]? = some (.lst ys)) (hz : xs.length + ys.length ≤ 1000000) : dAdd (.loc l) (.loc k) s = some (.loc s.length, s ++ [.lst (xs ++ ys)]) := by
  have q := le_line hz
  simp only [dAdd, h, h2, q, if_true]
theorem dAdd_tup {s : Store} {xs ys : List D} (hz : xs.length + ys.length ≤ 1000000) : dAdd (.tup xs) (.tup ys) s = some (.tup (xs ++ ys), s) := by
  have q := le_line hz
  simp only [dAdd, q, if_true]
@[simp] theorem dSub_int (i j : Int) (s : Store) : dSub (.int i) (.int j) s = some (.int (i - j), s) := rfl
theorem dMul_int (i j : Int) (s : Store) (h : CMul i j) : dMul (.int i) (.int j) s = some (.int (i * j), s) := by simp [dMul, h]
/-- one factor is small -/
@[simp] theorem dMul_r (i j : Int) (s : Store) (h : -(2 ^ 64) < j ∧ j < 2 ^ 64) : dMul (.int i) (.int j) s = some (.int (i * j), s) := dMul_int i j s (.inr h)
theorem dMul_l (i j : Int) (s : Store) (h : -(2 ^ 64) < i ∧ i < 2 ^ 64) : dMul (.int i) (.int j) s = some (.int (i * j), s) := dMul_int i j s (.inl h)
@[simp] theorem dDiv_int (i j : Int) (s : Store) (h : 0 < j ∧ j < 1073741824) : dDiv (.int i) (.int j) s = some (.int (i / j), s) := by
  have q : CDiv i j := h
  simp [dDiv, q]
@[simp] theorem dMod_int (i j : Int) (s : Store) (h : 0 < j) : dMod (.int i) (.int j) s = some (.int (i % j), s) := by simp [dMod, h]
@[simp] theorem dPow_int (i j : Int) (s : Store) (h : 0 ≤ j ∧ j ≤ 1000000 ∧ i.natAbs < 2 ^ 64) : dPow (.int i) (.int j) s = some (.int (i ^ j.toNat), s) := by
  have q : CPow i j := h
  simp [dPow, q]
@[simp] theorem dNeg_int (i : Int) (s : Store) : dNeg (.int i) s = some (.int (-i), s) := rfl
@[simp] theorem dLt_int (i j : Int) (s : Store) : dLt (.int i) (.int j) s = some (.bl (decide (i < j)), s) := rfl
@[simp] theorem dLe_int (i j : Int) (s : Store) : dLe (.int i) (.int j) s = some (.bl (decide (i ≤ j)), s) := rfl
@[simp] theorem dGt_int (i j : Int) (s : Store) : dGt (.int i) (.int j) s = some (.bl (decide (j < i)), s) := rfl
@[simp] theorem dGe_int (i j : Int) (s : Store) : dGe (.int i) (.int j) s = some (.bl (decide (j ≤ i)), s) := rfl
@[simp] theorem dEq_int (i j : Int) (s : Store) : dEq (.int i) (.int j) s = some (.bl (decide (i = j)), s) := rfl
@[simp] theorem dNe_int (i j : Int) (s : Store) : dNe (.int i) (.int j) s = some (.bl (!decide (i = j)), s) := rfl
@[simp] theorem dEq_bl (i j : Bool) (s : Store) : dEq (.bl i) (.bl j) s = some (.bl (decide (i = j)), s) := rfl
@[simp] theorem dNe_bl (i j : Bool) (s : Store) : dNe (.bl i) (.bl j) s = some (.bl (!decide (i = j)), s) := rfl
@[simp] theorem dEq_str (i j : Str) (s : Store) : dEq (.str i) (.str j) s = some (.bl (decide (i = j)), s) := rfl
@[simp] theorem dNe_str (i j : Str) (s : Store) : dNe (.str i) (.str j) s = some (.bl (!decide (i = j)), s) := rfl
@[simp] theorem dIs_non_non (s : Store) : dIs .non .non s = some (.bl true, s) := rfl
@[simp] theorem dIs_int_non (i : Int) (s : Store) : dIs (.int i) .non s = some (.bl false, s) := rfl
@[simp] theorem dIs_bl_bl (i j : Bool) (s : Store) : dIs (.bl i) (.bl j) s = some (.bl (decide (i = j)), s) := rfl
@[simp] theorem dIs_str_non (i : Str) (s : Store) : dIs (.str i) .non s = some (.bl false, s) := rfl
@[simp] theorem dIs_tup_non (i : List D) (s : Store) : dIs (.tup i) .non s = some (.bl false, s) := rfl
@[simp] theorem dIsNot_non_non (s : Store) : dIsNot .non .non s = some (.bl false, s) := rfl
@[simp] theorem dIsNot_int_non (i : Int) (s : Store) : dIsNot (.int i) .non s = some (.bl true, s) := rfl
@[simp] theorem dIsNot_bl_bl (i j : Bool) (s : Store) : dIsNot (.bl i) (.bl j) s = some (.bl (!decide (i = j)), s) := rfl
@[simp] theorem dIsNot_str_non (i : Str) (s : Store) : dIsNot (.str i) .non s = some (.bl true, s) := rfl
@[simp] theorem dIsNot_tup_non (i : List D) (s : Store) : dIsNot (.tup i) .non s = some (.bl true, s) := rfl
@[simp] theorem dInt_int (i : Int) (s : Store) : dInt [.int i] s = some (.int i, s) := rfl
@[simp] theorem dInt_bl (i : Bool) (s : Store) : dInt [.bl i] s = some (.int (if i then 1 else 0), s) := rfl
theorem dMax2_int (i j : Int) (s : Store) : dMax2 [.int i, .int j] s = some (.int (if j > i then j else i), s) := rfl
theorem dMin2_int (i j : Int) (s : Store) : dMin2 [.int i, .int j] s = some (.int (if j < i then j else i), s) := rfl
theorem max_if (i j : Int) : (if j > i then j else i) = max i j := by
  rw [Int.max_def]; split <;> split <;> omega
theorem min_if (i j : Int) : (if j < i then j else i) = min i j := by
  rw [Int.min_def]; split <;> split <;> omega
@[simp] theorem dMax2_max (i j : Int) (s : Store) : dMax2 [.int i, .int j] s = some (.int (max i j), s) := by rw [dMax2_int, max_if]
@[simp] theorem dMin2_min (i j : Int) (s : Store) : dMin2 [.int i, .int j] s = some (.int (min i j), s) := by rw [dMin2_int, min_if]
@[simp] theorem lstOf_fl (s : Store) (xs : List D) : lstOf s (.fl xs) = some xs := rfl
theorem lstOf_loc {s : Store} {l : Nat} {xs : List D} (h : s[l]? = some (.lst xs)) : lstOf s (.loc l) = some xs := by simp [lstOf, h]
@[simp] theorem seqOf_tup (s : Store) (xs : List D) : seqOf s (.tup xs) = some xs := rfl
@[simp] theorem seqOf_fl (s : Store) (xs : List D) : seqOf s (.fl xs) = some xs := rfl
theorem seqOf_loc {s : Store} {l : Nat} {xs : List D} (h : s[l]? = some (.lst xs)) : seqOf s (.loc l) = some xs := by simp [seqOf, lstOf, h]
@[simp] theorem dLen_tup (s : Store) (xs : List D) : dLen [.tup xs] s = some (.int xs.length, s) := rfl
@[simp] theorem dLen_fl (s : Store) (xs : List D) : dLen [.fl xs] s = some (.int xs.length, s) := rfl
theorem dLen_loc {s : Store} {l : Nat} {xs : List D} (h : s[l]? = some (.lst xs)) : dLen [.loc l] s = some (.int xs.length, s) := by simp [dLen, seqOf, lstOf, h]
@[simp] theorem dTuple_tup (s : Store) (xs : List D) : dTuple [.tup xs] s = some (.tup xs, s) := rfl
theorem dTuple_loc {s : Store} {l : Nat} {xs : List D} (h : s[l]? = some (.lst xs)) : dTuple [.loc l] s = some (.tup xs, s) := by simp [dTuple, seqOf, lstOf, h]
theorem dSum_loc {s : Store} {l : Nat} {ns : List Int} (h : s[l]? = some (.lst (ns.map D.int))) : dSum [.loc l] s = some (.int ns.sum, s) := by simp [dSum, lstOf, h, intsOf_map]
theorem dIx_tup (s : Store) (xs : List D) (i : Int) : dIx (.tup xs) (.int i) s = (atI xs i).map fun d => (d, s) := rfl
theorem dIx_loc {s : Store} {l : Nat} {xs : List D} (h : s[l]? = some (.lst xs)) (i : Int) : dIx (.loc l) (.int i) s = (atI xs i).map fun d => (d, s) := by simp [dIx, seqOf, lstOf, h]
theorem atI_ofNat (xs : List D) (j : Nat) (d : D) (h : xs[j]? = some d) : atI xs (j : Int) = some d := atI_nat h
@[simp] theorem atI_zero (x : D) (xs : List D) : atI (x :: xs) 0 = some x := atI_nat (j := 0) rfl
@[simp] theorem atI_one (x y : D) (xs : List D) : atI (x :: y :: xs) 1 = some y := atI_nat (j := 1) rfl
@[simp] theorem atI_two (x y z : D) (xs : List D) : atI (x :: y :: z :: xs) 2 = some z := atI_nat (j := 2) rfl
@[simp] theorem atI_three (x y z w : D) (xs : List D) : atI (x :: y :: z :: w :: xs) 3 = some w := atI_nat (j := 3) rfl
theorem dAppend_loc {s : Store} {l : Nat} {xs : List D} (h : s[l]? = some (.lst xs)) (hz : xs.length ≤ 1000000) (y : D) : dAppend (.loc l) [y] s = some (.non, s.set l (.lst (xs ++ [y]))) := by
  have q := lt_line hz
  simp only [dAppend, h, q, if_true]
theorem dPop_loc {s : Store} {l : Nat} {xs : List D} {y : D} (h : s[l]? = some (.lst (xs ++ [y]))) : dPop (.loc l) [] s = some (y, s.set l (.lst xs)) := by simp [dPop, h]
theorem tyOk_list {s : Store} {l : Nat} {xs : List D} (h : s[l]? = some (.lst xs)) : tyOk "list" s (.loc l) = true := by simp [tyOk, h]
theorem pList_loc {s : Store} {l : Nat} {xs : List D} (h : s[l]? = some (.lst xs)) (j : Nat) (hj : j < xs.length) (z : D) : pList (.loc l) (.int j) z s = some (s.set l (.lst (xs.set j z))) := by
  have e : ixN xs.length (j : Int) = some j := by
    unfold ixN
    rw [if_pos (by omega), if_pos (by omega)]
    simp
  simp [pList, h, e]
theorem pList_zero {s : Store} {l : Nat} {x : D} {xs : List D} (h : s[l]? = some (.lst (x :: xs))) (z : D) : pList (.loc l) (.int 0) z s = some (s.set l (.lst (z :: xs))) :=
  pList_loc h 0 (by simp) z
@[simp] theorem fnM_eq (N n : Nat) (b : MS) (ds : List D) (s : Store) : fnM N n b ds s = match b (ds.map some ++ List.replicate (N - n) none) s with
  | .rt d s => .ok d s
  | .nx _ s => .ok .non s
  | .ex e _ s => .ex e s
  | _ => .no := rfl
/-! ### stores: what stays -/
/-- all places of s but p are as they were -/
def Kp (p : Nat) (s s' : Store) : Prop := s.length ≤ s'.length ∧ ∀ l, l < s.length → l ≠ p → s'[l]? = s[l]?
theorem Kp.refl (p : Nat) (s : Store) : Kp p s s := ⟨Nat.le_refl _, fun _ _ _ => rfl⟩
theorem Kp.trans {p : Nat} {s s1 s2 : Store} (a : Kp p s s1) (b : Kp p s1 s2) : Kp p s s2 :=
  ⟨Nat.le_trans a.1 b.1, fun l h n => (b.2 l (Nat.lt_of_lt_of_le h a.1) n).trans (a.2 l h n)⟩
theorem Kp.set (p : Nat) (s : Store) (c : Cell) : Kp p s (s.set p c) := ⟨by simp, fun l _ n => List.getElem?_set_ne (Ne.symm n)⟩
theorem Kp.app (p : Nat) (s r : Store) : Kp p s (s ++ r) := ⟨by simp, fun l h _ => List.getElem?_append_left h⟩
theorem Kp.get {p : Nat} {s s' : Store} (a : Kp p s s') {l : Nat} {c : Cell} (h : s[l]? = some c) (n : l ≠ p) : s'[l]? = some c := by
  rw [a.2 l (by
    rcases Nat.lt_or_ge l s.length with q | q
    · exact q
    · rw [List.getElem?_eq_none q] at h; cases h) n]
  exact h
theorem lt_of_get {s : Store} {l : Nat} {c : Cell} (h : s[l]? = some c) : l < s.length := by
  rcases Nat.lt_or_ge l s.length with q | q
  · exact q
  · rw [List.getElem?_eq_none q] at h; cases h
theorem get_new (s : Store) (c : Cell) : (s ++ [c])[s.length]? = some c := by simp
theorem get_set {s : Store} {l : Nat} {c c' : Cell} (h : s[l]? = some c) : (s.set l c')[l]? = some c' := List.getElem?_set_self (lt_of_get h)
/-! #### isinstance -/
@[simp] theorem kit_NoneType_int : kitB "NoneType" "int" = some false := by decide +kernel
@[simp] theorem kit_NoneType_bool : kitB "NoneType" "bool" = some false := by decide +kernel
@[simp] theorem kit_NoneType_str : kitB "NoneType" "str" = some false := by decide +kernel
@[simp] theorem kit_NoneType_tuple : kitB "NoneType" "tuple" = some false := by decide +kernel
@[simp] theorem kit_NoneType_list : kitB "NoneType" "list" = some false := by decide +kernel
@[simp] theorem kit_NoneType_dict : kitB "NoneType" "dict" = some false := by decide +kernel
@[simp] theorem kit_bool_int : kitB "bool" "int" = some true := by decide +kernel
@[simp] theorem kit_bool_bool : kitB "bool" "bool" = some true := by decide +kernel
@[simp] theorem kit_bool_str : kitB "bool" "str" = some false := by decide +kernel
@[simp] theorem kit_bool_tuple : kitB "bool" "tuple" = some false := by decide +kernel
@[simp] theorem kit_bool_list : kitB "bool" "list" = some false := by decide +kernel
@[simp] theorem kit_bool_dict : kitB "bool" "dict" = some false := by decide +kernel
@[simp] theorem kit_int_int : kitB "int" "int" = some true := by decide +kernel
@[simp] theorem kit_int_bool : kitB "int" "bool" = some false := by decide +kernel
@[simp] theorem kit_int_str : kitB "int" "str" = some false := by decide +kernel
@[simp] theorem kit_int_tuple : kitB "int" "tuple" = some false := by decide +kernel
@[simp] theorem kit_int_list : kitB "int" "list" = some false := by decide +kernel
@[simp] theorem kit_int_dict : kitB "int" "dict" = some false := by decide +kernel
@[simp] theorem kit_str_int : kitB "str" "int" = some false := by decide +kernel
@[simp] theorem kit_str_bool : kitB "str" "bool" = some false := by decide +kernel
@[simp] theorem kit_str_str : kitB "str" "str" = some true := by decide +kernel
@[simp] theorem kit_str_tuple : kitB "str" "tuple" = some false := by decide +kernel
@[simp] theorem kit_str_list : kitB "str" "list" = some false := by decide +kernel
@[simp] theorem kit_str_dict : kitB "str" "dict" = some false := by decide +kernel
@[simp] theorem kit_tuple_int : kitB "tuple" "int" = some false := by decide +kernel
@[simp] theorem kit_tuple_bool : kitB "tuple" "bool" = some false := by decide +kernel
@[simp] theorem kit_tuple_str : kitB "tuple" "str" = some false := by decide +kernel
@[simp] theorem kit_tuple_tuple : kitB "tuple" "tuple" = some true := by decide +kernel
@[simp] theorem kit_tuple_list : kitB "tuple" "list" = some false := by decide +kernel
@[simp] theorem kit_tuple_dict : kitB "tuple" "dict" = some false := by decide +kernel
@[simp] theorem kit_list_int : kitB "list" "int" = some false := by decide +kernel
@[simp] theorem kit_list_bool : kitB "list" "bool" = some false := by decide +kernel
@[simp] theorem kit_list_str : kitB "list" "str" = some false := by decide +kernel
@[simp] theorem kit_list_tuple : kitB "list" "tuple" = some false := by decide +kernel
@[simp] theorem kit_list_list : kitB "list" "list" = some true := by decide +kernel
@[simp] theorem kit_list_dict : kitB "list" "dict" = some false := by decide +kernel
@[simp] theorem kit_dict_int : kitB "dict" "int" = some false := by decide +kernel
@[simp] theorem kit_dict_bool : kitB "dict" "bool" = some false := by decide +kernel
@[simp] theorem kit_dict_str : kitB "dict" "str" = some false := by decide +kernel
@[simp] theorem kit_dict_tuple : kitB "dict" "tuple" = some false := by decide +kernel
@[simp] theorem kit_dict_list : kitB "dict" "list" = some false := by decide +kernel
@[simp] theorem kit_dict_dict : kitB "dict" "dict" = some true := by decide +kernel
@[simp] theorem dIsi_eq (T : String) (x : D) (s : Store) : dIsi T x s = (tyN s x).bind fun t => (kitB t T).map fun b => (.bl b, s) := rfl
@[simp] theorem tyN_non (s : Store) : tyN s .non = some "NoneType" := rfl
@[simp] theorem tyN_bl (s : Store) (b : Bool) : tyN s (.bl b) = some "bool" := rfl
@[simp] theorem tyN_int (s : Store) (b : Int) : tyN s (.int b) = some "int" := rfl
@[simp] theorem tyN_str (s : Store) (b : Str) : tyN s (.str b) = some "str" := rfl
@[simp] theorem tyN_tup (s : Store) (b : List D) : tyN s (.tup b) = some "tuple" := rfl
theorem tyN_lst {s : Store} {l : Nat} {xs : List D} (h : s[l]? = some (.lst xs)) : tyN s (.loc l) = some "list" := by simp [tyN, h]
/-! ### loops by what holds between the turns -/
/-- a call's end -/
def Rets {α : Type} (P : α → Store → Prop) : R α → Prop
  | .ok d s => P d s
  | _ => False
@[simp] theorem Rets_ok {α : Type} (P : α → Store → Prop) (d : α) (s : Store) : Rets P (.ok d s) = P d s := rfl
@[simp] theorem Rets_no {α : Type} (P : α → Store → Prop) : Rets P .no = False := rfl
@[simp] theorem Rets_ex {α : Type} (P : α → Store → Prop) (e : Ex) (s : Store) : Rets P (.ex e s) = False := rfl
theorem Rets.out {α : Type} {P : α → Store → Prop} {r : R α} (h : Rets P r) : ∃ d s, r = .ok d s ∧ P d s := by
  cases r with
  | ok d s => exact ⟨d, s, rfl, h⟩
  | ex e s => exact h.elim
  | no => exact h.elim
/-- what a turn's end asks: I of the next turn, Q of leaving -/
def Turns (I : Sl → Store → Prop) (Q : RS → Prop) : RS → Prop
  | .nx env s => I env s
  | .ct env s => I env s
  | .bk env s => Q (.nx env s)
  | .rt d s => Q (.rt d s)
  | .ex e env s => Q (.ex e env s)
  | .no => False
section
variable (I : Sl → Store → Prop) (Q : RS → Prop) (env : Sl) (s : Store)
@[simp] theorem Turns_nx : Turns I Q (.nx env s) = I env s := rfl
@[simp] theorem Turns_ct : Turns I Q (.ct env s) = I env s := rfl
@[simp] theorem Turns_bk : Turns I Q (.bk env s) = Q (.nx env s) := rfl
@[simp] theorem Turns_rt (d : D) : Turns I Q (.rt d s) = Q (.rt d s) := rfl
@[simp] theorem Turns_ex (e : Ex) : Turns I Q (.ex e env s) = Q (.ex e env s) := rfl
@[simp] theorem Turns_no : Turns I Q .no = False := rfl
end
/-- store the item, run the body -/
def turn (g : D → Sl → Option Sl) (b : MS) (x : D) : MS := fun env s => match g x env with
  | none => .no
  | some env1 => b env1 s
@[simp] theorem turn_gN (i : Nat) (b : MS) (x : D) (env : Sl) (s : Store) : turn (gN i) b x env s = b (env.set i (some x)) s := rfl
@[simp] theorem turn_gT (n : Nat) (r) (b : MS) (xs : List D) (env : Sl) (s : Store) : turn (gT n r) b (.tup xs) env s = match (if xs.length = n then r xs env else none) with
  | none => .no
  | some env1 => b env1 s := rfl
theorem forL_rule {gd : Store → Prop} {g : D → Sl → Option Sl} {b : MS} (I : List D → Sl → Store → Prop) (Q : RS → Prop) (hg : ∀ xs env s, I xs env s → gd s)
    (hs : ∀ x xs env s, I (x :: xs) env s → Turns (I xs) Q (turn g b x env s)) (he : ∀ env s, I [] env s → Q (.nx env s)) : ∀ {xs : List D} {env : Sl} {s : Store}, I xs env s → Q (forL gd g b xs env s) := by
  intro xs
  induction xs with
  | nil => intro env s h; rw [forL_nil env s gd (hg _ _ _ h)]; exact he env s h
  | cons x xs ih =>
    intro env s h
    rw [forL_cons env s gd (hg _ _ _ h)]
    have h1 := hs x xs env s h
    unfold turn at h1
    cases e1 : g x env with
    | none => rw [e1] at h1; exact h1.elim
    | some env1 =>
      rw [e1] at h1
      dsimp only at h1 ⊢
      cases q : b env1 s with
      | nx env2 s2 => rw [q] at h1; exact ih h1
      | ct env2 s2 => rw [q] at h1; exact ih h1
      | bk env2 s2 => rw [q] at h1; exact h1
      | rt d s2 => rw [q] at h1; exact h1
      | ex e env2 s2 => rw [q] at h1; exact h1
      | no => rw [q] at h1; exact h1.elim
/-- a loop that runs through -/
theorem forL_thru {gd : Store → Prop} {g : D → Sl → Option Sl} {b : MS} (I : List D → Sl → Store → Prop) (hg : ∀ xs env s, I xs env s → gd s)
    (hs : ∀ x xs env s, I (x :: xs) env s → Turns (I xs) (fun _ => False) (turn g b x env s)) {xs : List D} {env : Sl} {s : Store} (h : I xs env s) : ∃ env' s', forL gd g b xs env s = .nx env' s' ∧ I [] env' s' :=
  forL_rule I (fun r => ∃ env' s', r = .nx env' s' ∧ I [] env' s') hg (fun x xs env s h => by
    have z := hs x xs env s h
    cases q : turn g b x env s with
    | nx env2 s2 => rw [q] at z; exact z
    | ct env2 s2 => rw [q] at z; exact z
    | bk env2 s2 => rw [q] at z; exact z.elim
    | rt d s2 => rw [q] at z; exact z.elim
    | ex e env2 s2 => rw [q] at z; exact z.elim
    | no => rw [q] at z; exact z.elim) (fun env s h => ⟨env, s, rfl, h⟩) h
/-! a loop over range(n) -/
theorem rng_drop {n i : Nat} (h : i < n) : (rng n).drop i = .int ((0 : Int) + (i : Nat)) :: (rng n).drop (i + 1) := by
  have hl : i < (rng n).length := by simpa [rng] using h
  rw [List.drop_eq_getElem_cons hl]
  simp [rng]
theorem rng_lt {n i : Nat} {x : D} {xs : List D} (e : x :: xs = (rng n).drop i) : i < n ∧ x = .int (i : Nat) ∧ xs = (rng n).drop (i + 1) := by
  have hlt : i < n := by
    rcases Nat.lt_or_ge i n with w | w
    · exact w
    · rw [List.drop_eq_nil_of_le (by simpa [rng] using w)] at e; cases e
  rw [rng_drop hlt] at e
  obtain ⟨rfl, rfl⟩ := List.cons.inj e
  exact ⟨hlt, by rw [Int.zero_add], rfl⟩
theorem rng_end {n i : Nat} (hi : i ≤ n) (e : [] = (rng n).drop i) : i = n := by
  rcases Nat.lt_or_ge i n with w | w
  · rw [rng_drop w] at e; cases e
  · omega
theorem forL_range {gd : Store → Prop} {g : D → Sl → Option Sl} {b : MS} (n : Nat) (I : Nat → Sl → Store → Prop) (Q : RS → Prop) (hg : ∀ i env s, i ≤ n → I i env s → gd s)
    (hs : ∀ i env s, i < n → I i env s → Turns (I (i + 1)) Q (turn g b (.int (i : Nat)) env s)) (he : ∀ env s, I n env s → Q (.nx env s)) {env : Sl} {s : Store} (h : I 0 env s) : Q (forL gd g b (rng n) env s) := by
  refine forL_rule (fun xs env s => ∃ i, i ≤ n ∧ xs = (rng n).drop i ∧ I i env s) Q (fun xs env s ⟨i, hi, _, q⟩ => hg i env s hi q) (fun x xs env s ⟨i, hi, e, q⟩ => ?_) (fun env s ⟨i, hi, e, q⟩ => ?_) ⟨0, Nat.zero_le _, rfl, h⟩
  · obtain ⟨hlt, rfl, rfl⟩ := rng_lt e
    have t1 := hs i env s hlt q
    cases hb : turn g b (.int (i : Nat)) env s with
    | nx env2 s2 => rw [hb] at t1; exact ⟨i + 1, hlt, rfl, t1⟩
    | ct env2 s2 => rw [hb] at t1; exact ⟨i + 1, hlt, rfl, t1⟩
    | bk env2 s2 => rw [hb] at t1; exact t1
    | rt d s2 => rw [hb] at t1; exact t1
    | ex x env2 s2 => rw [hb] at t1; exact t1
    | no => rw [hb] at t1; exact t1
  · have hlt := rng_end hi e
    subst hlt
    exact he env s q
theorem forL_rangeT {gd : Store → Prop} {g : D → Sl → Option Sl} {b : MS} (n : Nat) (I : Nat → Sl → Store → Prop) (hg : ∀ i env s, i ≤ n → I i env s → gd s)
    (hs : ∀ i env s, i < n → I i env s → Turns (I (i + 1)) (fun _ => False) (turn g b (.int (i : Nat)) env s)) {env : Sl} {s : Store} (h : I 0 env s) : ∃ env' s', forL gd g b (rng n) env s = .nx env' s' ∧ I n env' s' :=
  forL_range n I (fun r => ∃ env' s', r = .nx env' s' ∧ I n env' s') hg (fun i env s hi h => by
    have z := hs i env s hi h
    cases q : turn g b (.int (i : Nat)) env s with
    | nx env2 s2 => rw [q] at z; exact z
    | ct env2 s2 => rw [q] at z; exact z
    | bk env2 s2 => rw [q] at z; exact z.elim
    | rt d s2 => rw [q] at z; exact z.elim
    | ex e env2 s2 => rw [q] at z; exact z.elim
    | no => rw [q] at z; exact z.elim) (fun env s h => ⟨env, s, rfl, h⟩) h
/-! comprehensions -/
/-- one item: kept with its value, or not -/
def pick (g : D → Sl → Option Sl) (t : ME Bool) (e : ME D) (x : D) (env : Sl) (s : Store) : R (Option D) := match g x env with
  | none => .no
  | some env1 => (t env1 s).bind fun b s => if b then (e env1 s).bind fun y s => .ok (some y) s else .ok none s
@[simp] theorem pick_gN (i : Nat) (t : ME Bool) (e : ME D) (x : D) (env : Sl) (s : Store) : pick (gN i) t e x env s = (t (env.set i (some x)) s).bind fun b s => if b then (e (env.set i (some x)) s).bind fun y s => .ok (some y) s else .ok none s := rfl
@[simp] theorem pick_gT (n : Nat) (r) (t : ME Bool) (e : ME D) (xs : List D) (env : Sl) (s : Store) : pick (gT n r) t e (.tup xs) env s = match (if xs.length = n then r xs env else none) with
  | none => .no
  | some env1 => (t env1 s).bind fun b s => if b then (e env1 s).bind fun y s => .ok (some y) s else .ok none s := rfl
/-- what an item's end asks of the list so far -/
def Kept (I : List D → Store → Prop) (acc : List D) : R (Option D) → Prop
  | .ok (some y) s => acc.length ≤ 1000000 ∧ I (acc ++ [y]) s
  | .ok none s => I acc s
  | _ => False
@[simp] theorem Kept_some (I : List D → Store → Prop) (acc : List D) (y : D) (s : Store) : Kept I acc (.ok (some y) s) = (acc.length ≤ 1000000 ∧ I (acc ++ [y]) s) := rfl
@[simp] theorem Kept_none (I : List D → Store → Prop) (acc : List D) (s : Store) : Kept I acc (.ok none s) = I acc s := rfl
@[simp] theorem Kept_no (I : List D → Store → Prop) (acc : List D) : Kept I acc .no = False := rfl
theorem lcL_thru {gd : Store → Prop} {g : D → Sl → Option Sl} {t : ME Bool} {e : ME D} {env : Sl} (I : List D → List D → Store → Prop) (hg : ∀ xs acc s, I xs acc s → gd s)
    (hs : ∀ x xs acc s, I (x :: xs) acc s → Kept (I xs) acc (pick g t e x env s)) :
    ∀ {xs acc : List D} {s : Store}, I xs acc s → ∃ acc' s', lcL gd g t e env xs acc s = .ok acc' s' ∧ I [] acc' s' := by
  intro xs
  induction xs with
  | nil => intro acc s h; exact ⟨acc, s, lcL_nil env s gd (hg _ _ _ h) g t e acc, h⟩
  | cons x xs ih =>
    intro acc s h
    rw [lcL_cons env s gd (hg _ _ _ h)]
    have h1 := hs x xs acc s h
    unfold pick at h1
    cases e1 : g x env with
    | none => rw [e1] at h1; exact h1.elim
    | some env1 =>
      rw [e1] at h1
      dsimp only at h1 ⊢
      cases e2 : t env1 s with
      | no => rw [e2] at h1; exact h1.elim
      | ex x s => rw [e2] at h1; exact h1.elim
      | ok k s1 =>
        rw [e2] at h1
        simp only [R.bind_ok] at h1
        cases k with
        | false => simpa using ih (by simpa using h1)
        | true =>
          simp only [if_true] at h1 ⊢
          cases e3 : e env1 s1 with
          | no => rw [e3] at h1; exact h1.elim
          | ex x s => rw [e3] at h1; exact h1.elim
          | ok y s2 =>
            rw [e3] at h1
            obtain ⟨hz, h3⟩ := (show acc.length ≤ 1000000 ∧ I xs (acc ++ [y]) s2 from h1)
            have z := lt_line hz
            simp only [z, if_true]
            exact ih h3
/-- a comprehension that leaves the store as it is -/
theorem lcL_fm {β : Type} {gd : Store → Prop} {g : D → Sl → Option Sl} {t : ME Bool} {e : ME D} {env : Sl} {s : Store} (hg : gd s) (h : β → D) (f : β → Option D) :
    ∀ (xs : List β) (acc : List D), (∀ x ∈ xs, pick g t e (h x) env s = .ok (f x) s) → acc.length + xs.length ≤ 1000000 → lcL gd g t e env (xs.map h) acc s = .ok (acc ++ xs.filterMap f) s := by
  intro xs
  induction xs with
  | nil => intro acc _ _; rw [List.map_nil, lcL_nil env s gd hg]; simp
  | cons x xs ih =>
    intro acc hp hz
    rw [List.length_cons] at hz
    rw [List.map_cons, lcL_cons env s gd hg]
    have h1 := hp x (by simp)
    unfold pick at h1
    cases e1 : g (h x) env with
    | none => rw [e1] at h1; cases h1
    | some env1 =>
      rw [e1] at h1
      dsimp only at h1 ⊢
      cases e2 : t env1 s with
      | no => rw [e2] at h1; cases h1
      | ex x s => rw [e2] at h1; cases h1
      | ok k s1 =>
        rw [e2] at h1
        simp only [R.bind_ok] at h1
        cases k with
        | false =>
          simp at h1
          obtain ⟨h2, rfl⟩ := h1
          simp only [Bool.false_eq_true, if_false]
          rw [ih acc (fun y hy => hp y (by simp [hy])) (by omega), List.filterMap_cons, ← h2]
        | true =>
          simp only [if_true] at h1 ⊢
          cases e3 : e env1 s1 with
          | no => rw [e3] at h1; cases h1
          | ex x s => rw [e3] at h1; cases h1
          | ok y s2 =>
            rw [e3] at h1
            simp at h1
            obtain ⟨h2, rfl⟩ := h1
            have z : acc.length < sizeLine := lt_line (by omega)
            simp only [z, if_true]
            rw [ih (acc ++ [y]) (fun y hy => hp y (by simp [hy])) (by simp; omega), List.filterMap_cons, ← h2]
            simp
theorem lcL_map {β : Type} {gd : Store → Prop} {g : D → Sl → Option Sl} {t : ME Bool} {e : ME D} {env : Sl} {s : Store} (hg : gd s) (h : β → D) (f : β → D) (xs : List β)
    (hp : ∀ x ∈ xs, pick g t e (h x) env s = .ok (some (f x)) s) (hz : xs.length ≤ 1000000) : lcL gd g t e env (xs.map h) [] s = .ok (xs.map f) s := by
  have w := lcL_fm hg h (fun x => some (f x)) xs [] hp (by simpa using hz)
  rw [w]
  simp
theorem lcL_range {gd : Store → Prop} {g : D → Sl → Option Sl} {t : ME Bool} {e : ME D} {env : Sl} (n : Nat) (I : Nat → List D → Store → Prop) (hg : ∀ i acc s, i ≤ n → I i acc s → gd s)
    (hs : ∀ i acc s, i < n → I i acc s → Kept (I (i + 1)) acc (pick g t e (.int (i : Nat)) env s)) {acc : List D} {s : Store}
    (h : I 0 acc s) : ∃ acc' s', lcL gd g t e env (rng n) acc s = .ok acc' s' ∧ I n acc' s' := by
  obtain ⟨acc', s', h1, i, hi, e, h2⟩ := lcL_thru (gd := gd) (g := g) (t := t) (e := e) (env := env) (fun xs acc s => ∃ i, i ≤ n ∧ xs = (rng n).drop i ∧ I i acc s) (fun xs acc s ⟨i, hi, _, q⟩ => hg i acc s hi q) (fun x xs acc s ⟨i, hi, e, q⟩ => by
    obtain ⟨hlt, rfl, rfl⟩ := rng_lt e
    have z := hs i acc s hlt q
    cases hp : pick g t _ (.int (i : Nat)) env s with
    | no => rw [hp] at z; exact z
    | ex x s => rw [hp] at z; exact z
    | ok o s2 =>
      rw [hp] at z
      cases o with
      | none => exact ⟨i + 1, hlt, rfl, z⟩
      | some y => exact ⟨z.1, i + 1, hlt, rfl, z.2⟩) (xs := rng n) ⟨0, Nat.zero_le _, rfl, h⟩
  have hlt := rng_end hi e
  subst hlt
  exact ⟨acc', s', h1, h2⟩
/-- all ints -/
def Ints (xs : List D) : Prop := ∃ ns : List Int, xs = ns.map D.int
theorem cut_ints {xs : List D} (h : Ints xs) (lo hi : Option Int) : Ints (Mi.cutD xs lo hi) := by
  obtain ⟨ns, rfl⟩ := h
  unfold Mi.cutD
  exact ⟨_, by rw [← List.map_drop, ← List.map_take]⟩
theorem cut_len (xs : List D) (lo hi : Option Int) : (Mi.cutD xs lo hi).length ≤ xs.length := by
  unfold Mi.cutD
  simp
  omega
end Mi
namespace Mi
open PySem PySem.W PySem.Spec PySem.Calls PyProof.Rows L2
section
variable {prog : Program} {w : World} {A : Around} {E : Value → Shared → Prop} {s : Shared}
/-- the items of a tuple, collected -/
theorem tup_coll {t : Addr} {us : List Value} {R : List Value → Shared → Prop} (ht : IsTup s.heap t us.toArray) (hz : us.length ≤ sizeLine)
    (q : R us { s with heap := (s.heap.push (seqObj "list" #[] 0)).update s.heap.objs.size (Obj.mapSeq (· ++ us.toArray)) }) : wpAny (model prog w) A (collect (.ref t)) R E s := by
  obtain ⟨o, ho, hc, n, hd⟩ := ht
  have ho1 : (s.heap.push (seqObj "list" #[] 0)).get? t = some o := Heap.get?_push_of_some _ ho
  have hn1 : (s.heap.push (seqObj "list" #[] 0)).get? s.heap.objs.size = some (seqObj "list" #[] 0) := Heap.get?_push_size _ rfl
  have hT : (Value.type "tuple" == Value.type "tuple") = true := by rfl
  unfold collect
  refine wpAny_bind (wpAny_runValue (codeAny_builtin entry_proto_collect' ?_))
  show wpAny _ _ (do again (.builtin "list.__iadd__" ⟨[← newList [], .ref t], []⟩)) _ _ s
  refine wpAny_bind (wpAny_newList (wpAny_pure ⟨Code.quiet_builtin _ (by decide +kernel), ?_⟩))
  refine codeAny_builtin entry_list_iadd' ?_
  show wpAny _ _ (Builtin.List.listExtendWith (.ref s.heap.objs.size) (.ref t) (.ref s.heap.objs.size)) _ _ { s with heap := s.heap.push (seqObj "list" #[] 0) }
  unfold Builtin.List.listExtendWith
  refine wpAny_bind (wpAny_typeOf (T := "tuple") ⟨o, ho1, hc⟩ ?_)
  rw [if_pos (by rw [hT]; simp)]
  refine wpAny_bind (listItems_at ho1 hd (wpAny_bind (listItems_at (xs := #[]) (n := 0) hn1 rfl ?_)))
  rw [if_neg (by simp)]
  refine wpAny_bind (listUpdate_at (xs := #[]) (n := 0) hn1 rfl ?_ (Nat.zero_le _) (by rw [Array.size_append]; simp; have := sizeLine_eq; omega))
  refine wpAny_pure ?_
  refine wpAny_bind (wpAny_load (get?_update_seq hn1 _) ?_)
  have e : (((#[] : Array Value) ++ us.toArray).toList) = us := by simp
  show wpAny _ _ (pure ((#[] : Array Value) ++ us.toArray).toList) R E _
  rw [e]
  exact wpAny_pure q
/-- sorted(a tuple), by what sorts the new list -/
theorem tup_sorted {κ : _} {t : Addr} {us : List Value} {R : Value → Shared → Prop} (ht : IsTup s.heap t us.toArray) (hz : us.length ≤ sizeLine)
    (S : SortsAt prog w A.in1.in1 { s with heap := sortingHeap (copyHeap s.heap us) (s.heap.objs.size + 1) us } κ us)
    (q : R (.ref (s.heap.objs.size + 1)) { s with heap := sortedAll s.heap us (sortVals κ false us us).toArray }) : wpAny (model prog w) A (call (.builtin "sorted") [.ref t]) R E s := by
  have hs : ((s.heap.push (seqObj "list" #[] 0)).update s.heap.objs.size (Obj.mapSeq (· ++ us.toArray))).objs.size = s.heap.objs.size + 1 := by rw [Heap.size_update, size_push']
  refine call_function_entry_kw kind_sorted plain_sorted entry_sorted (args_sorted1 _) ?_
  unfold Builtin.«sorted»
  refine wpAny_bind (m := checkCount "sorted" 1 1 _) (wpAny_pure (wpAny_bind (tup_coll ht hz (wpAny_bind (wpAny_newList ?_ hz)))))
  show wpAny _ _ _ _ _ { s with heap := copyHeap s.heap us }
  rw [hs]
  refine wpAny_bind (wpAny_holding (wpAny_call_entry_kw slot_list_sort ⟨_, copyHeap_at s.heap us, rfl⟩ entry_list_sort ?body (args_list_sort _)))
  case body =>
    have b := list_sort_vals (s := { s with heap := copyHeap s.heap us }) (A := A.in1.in1) (E := E) (P := fun f s' => f = .done (.ret .none) ∧ R (.ref (s.heap.objs.size + 1)) s') (copyHeap_at s.heap us) S hz ⟨rfl, q⟩
    refine wpAny_mono b (fun f s' hf => ?_) fun _ _ e => e
    obtain ⟨rfl, hq⟩ := hf
    exact ⟨_, rfl, wpAny_pure ⟨_, rfl, hq⟩⟩
end
/-! ### sorted as a call -/
noncomputable def pyD (d : D) : PyData := (py0 d).getD .none
def rSortB (K : PySem.W.Frag) : List V → Hp → VK → Prop := fun vs H Q => ∃ (a : Addr) (bs : List (D × V)), vs = [.ref a] ∧ (SqL K H a (bs.map Prod.snd) ∨ SqT K H a (bs.map Prod.snd)) ∧ (∀ b ∈ bs, Dp K H b.2 (pyD b.1)) ∧
  AllAlike (bs.map fun b => pyD b.1) ∧ Sortable (bs.map fun b => pyD b.1) ∧ (∀ b ∈ bs, (pyD b.1).depth ≤ 60) ∧ ∀ p, H p = none → Q (.ref p) (upd H p (.lst ((bs.mergeSort (dataLe false fun b => pyD b.1)).map Prod.snd)))
theorem each_vals : ∀ {bs : List (D × V)} {us : List Value}, Vals (bs.map Prod.snd) us → EachIs (fun u b => RelV b.2 u) us bs
  | [], _, .nil => .nil
  | _ :: bs, _, .cons r t => .cons r (each_vals (bs := bs) t)
theorem vals_each : ∀ {bs : List (D × V)} {us : List Value}, EachIs (fun u b => RelV b.2 u) us bs → Vals (bs.map Prod.snd) us
  | [], _, .nil => .nil
  | _ :: bs, _, .cons r t => .cons r (vals_each (bs := bs) t)
theorem each_dp {X : Cx} {pins : List (Addr × Obj)} {σ : L2.St} {H : Hp} {s : Shared} (I : Inv X pins σ H s) : ∀ {bs : List (D × V)} {us : List Value}, (∀ b ∈ bs, Dp X.K H b.2 (pyD b.1)) → EachIs (fun u b => RelV b.2 u) us bs → EachIs (fun u b => ∃ as, Reads s.heap u (pyD b.1) as) us bs
  | [], _, _, .nil => .nil
  | b :: bs, _, h, .cons r t => .cons (Dp.reads I _ _ _ (h b (by simp)) r) (each_dp I (fun z hz => h z (by simp [hz])) t)
theorem cr_sortedB {X : Cx} (hu : X.A.units + 64 < cLine) : CallR X (.builtin "sorted") (rSortB X.K) := by
  intro pins s σ H vs us Q I r h
  obtain ⟨a, bs, rfl, hs, hd, hal, hk, hdep, q⟩ := h
  rw [Vals.ref1 r]
  have fin : ∀ (its out : List Value), its.length = bs.length → bs.length ≤ sizeLine → EachIs (fun u b => RelV b.2 u) out (bs.mergeSort (dataLe false fun b => pyD b.1)) → out.length = bs.length →
      ∃ v H', Inv X pins σ H' { s with heap := sortedAll s.heap its out.toArray } ∧ RelV v (Value.ref (s.heap.objs.size + 1)) ∧ Q v H' := fun its out h1 h2 h3 h4 => by
    obtain ⟨n, hn⟩ := sortedAll_at s.heap its out.toArray
    exact ⟨.ref _, upd H (s.heap.objs.size + 1) (.lst ((bs.mergeSort (dataLe false fun b => pyD b.1)).map Prod.snd)), I.laid (t' := s.toks) (fun _ _ => sortedAll_old) (Nat.le_succ _) ⟨by rw [List.length_map, List.length_mergeSort]; exact h2, out, n, vals_each h3, hn⟩, rfl, q _ (I.hok.fresh (Nat.le_succ _))⟩
  rcases hs with hs | hs
  · obtain ⟨its, rv, hl, hz⟩ := I.list hs
    have hL : bs.length ≤ sizeLine := by simpa using hz
    have e1 := each_vals rv
    refine sorted_data hl.isList e1 (each_dp I hd e1) hal hk hL (fun b hb => by have := hdep b hb; omega) fun out h1 h2 => ?_
    exact fin its out e1.length hL h2 h1
  · obtain ⟨its, rv, hl, hz⟩ := I.tuple hs
    have hL : bs.length ≤ sizeLine := by simpa using hz
    have e1 := each_vals rv
    have er := (each_dp I hd e1).mono fun _ _ ⟨as, z⟩ => (⟨as, PyProof.Rows.Reads.keeps (fun _ _ => sorting_copy_old) z⟩ : ∃ as, Reads (sortingHeap (copyHeap s.heap its) (s.heap.objs.size + 1) its) _ _ as)
    refine tup_sorted hl (by rw [e1.length]; exact hL) (SortsAt.data (A := X.A.in1.in1) (s := { s with heap := sortingHeap (copyHeap s.heap its) (s.heap.objs.size + 1) its }) (each_map (R := fun v d => ∃ as, Reads (sortingHeap (copyHeap s.heap its) (s.heap.objs.size + 1) its) v d as) (fun b : D × V => pyD b.1) er) hal hk (bound_map (enc := fun b : D × V => pyD b.1) (bs := bs) fun b hb => by have := hdep b hb; show X.A.units + 1 + 1 + (pyD b.1).depth < cLine; omega)) ?_
    exact fin its _ e1.length hL (sortVals_data false e1 er hal) (by rw [sortVals_length false rfl]; exact e1.length)
/-! ### its mirror -/
def sortOk (xs : List D) : Prop := (∀ d ∈ xs, (py0 d).isSome = true ∧ (pyD d).depth ≤ 60) ∧ AllAlike (xs.map pyD) ∧ Sortable (xs.map pyD)
noncomputable def sortD (xs : List D) : List D := xs.mergeSort (dataLe false pyD)
open Classical in
noncomputable def dSorted : List D → Store → Option (D × Store)
  | [x], s => (seqOf s x).bind fun xs => if sortOk xs then some (.loc s.length, s ++ [.lst (sortD xs)]) else none
  | _, _ => none
theorem zip_map1 {K : PySem.W.Frag} {m : List Addr} {H : Hp} : ∀ {xs : List D} {vs : List V}, Reps K m H xs vs → (xs.zip vs).map Prod.fst = xs ∧ (xs.zip vs).map Prod.snd = vs ∧ ∀ b ∈ xs.zip vs, Rep K m H b.1 b.2
  | [], _, .nil => ⟨rfl, rfl, fun _ h => by cases h⟩
  | x :: xs, _, .cons h r => by
    obtain ⟨a, b, c⟩ := zip_map1 r
    exact ⟨by simp [a], by simp [b], fun z hz => by
      rcases List.mem_cons.mp hz with e | e
      · rw [e]; exact h
      · exact c z e⟩
theorem reps_map {K : PySem.W.Frag} {m : List Addr} {H : Hp} : ∀ {bs : List (D × V)}, (∀ b ∈ bs, Rep K m H b.1 b.2) → Reps K m H (bs.map Prod.fst) (bs.map Prod.snd)
  | [], _ => .nil
  | b :: bs, h => .cons (h b (by simp)) (reps_map fun z hz => h z (by simp [hz]))
theorem fns_sorted {K : PySem.W.Frag} : FnS K (rSortB K) dSorted := by
  intro mg W σ m H s xs ds Q r p g
  unfold dSorted at g
  split at g
  · obtain ⟨v, rfl, h⟩ := reps1 p
    rename_i x
    cases q : seqOf s x with
    | none => rw [q] at g; exact g.elim
    | some ys =>
      rw [q] at g
      simp only [Option.bind_some] at g
      split at g
      · rename_i ok
        have g' : G K mg (Rep K) W σ m H Q (.ok (.loc s.length) (s ++ [.lst (sortD ys)])) := g
        obtain ⟨a, vs, rfl, hq, rr⟩ := seqOf_sq r h q
        obtain ⟨z1, z2, z3⟩ := zip_map1 rr
        have e1 : ((ys.zip vs).map fun b => pyD b.1) = ys.map pyD := by
          conv => rhs; rw [← z1, List.map_map]
          rfl
        have z4 : ∀ b ∈ ys.zip vs, b.1 ∈ ys := fun b hb => by
          have := List.mem_map.mpr ⟨b, hb, (rfl : b.1 = b.1)⟩
          rw [z1] at this
          exact this
        refine ⟨a, ys.zip vs, rfl, by rw [z2]; exact hq, fun b hb => ?_, by rw [e1]; exact ok.2.1, by rw [e1]; exact ok.2.2, fun b hb => (ok.1 _ (z4 b hb)).2, fun l hl => ?_⟩
        · obtain ⟨w1, _⟩ := ok.1 _ (z4 b hb)
          obtain ⟨pd, hp⟩ := Option.isSome_iff_exists.mp w1
          have := py0_dp (z3 b hb) hp
          unfold pyD
          rw [hp]
          exact this
        · have e2 : sortD ys = ((ys.zip vs).mergeSort (dataLe false fun b => pyD b.1)).map Prod.fst := by
            rw [List.map_mergeSort (r := dataLe false fun b : D × V => pyD b.1) (s := dataLe false pyD) (fun _ _ _ _ => rfl), z1]
            rfl
          rw [e2] at g'
          refine g' (m ++ [l]) _ _ (le_more r hl) (rel_newlist r hl (reps_map fun b hb => z3 b ?_)) (.loc (len_get r))
          exact (List.mergeSort_perm _ _).mem_iff.mp hb
      · exact g.elim
  · exact g.elim
end Mi
namespace HT
open PySem PySem.Spec PyProof.Rows
section
variable {prog : Program} {w : World} {A : Around} {E : Value → Shared → Prop} {s : Shared}
theorem rev_pick (xs : Array Value) : ((List.range xs.size).filterMap fun (m : Nat) => xs[((xs.size : Int) - 1 + (m : Int) * (-1)).toNat]?).toArray = xs.toList.reverse.toArray := by
  have q := PySem.W.krv_pick xs
  unfold slicePick at q
  rw [PySem.W.krv_bounds] at q
  have q' : ((sliceRange ((xs.size : Int) - 1) (-1) (-1)).filterMap (xs[·]?)).toArray = xs.toList.reverse.toArray := q
  rw [PySem.W.krv_sliceRange, List.filterMap_map] at q'
  rw [← q']
  refine congrArg List.toArray (congrArg (fun f => List.filterMap f (List.range xs.size)) (funext fun m => ?_))
  show xs[_]? = xs[_]?
  refine congrArg (fun i : Nat => xs[i]?) ?_
  show ((xs.size : Int) - 1 + (m : Int) * (-1)).toNat = xs.size - 1 - m
  omega
theorem sliced_back {sl : Addr} {vl vu vs : Value} {n : Nat} {R : Int × Int × Nat → Shared → Prop} (hs : s.heap.IsSliceOf sl vl vu vs) (pl : IsPart vl none) (pu : IsPart vu none) (ps : IsPart vs (some (-1)))
    (q : R ((n : Int) - 1, -1, n) s) : wpAny (model prog w) A (Builtin.Slice.sliceApplied (.ref sl) (pure (n : Int))) R E s := by
  obtain ⟨os, hos, hcs, hds⟩ := id hs
  have e : Builtin.Slice.slicePlaces ((n : Int) - 1) (-1) (-1) = n := by
    unfold Builtin.Slice.slicePlaces
    rw [if_neg (by omega)]
    by_cases c : (n : Int) - 1 > -1
    · rw [if_pos c]
      simp
    · rw [if_neg c]
      omega
  unfold Builtin.Slice.sliceApplied Builtin.Slice.sliceFields
  refine wpAny_bind (wpAny_bind (wpAny_field hos hds (x := vl) rfl (wpAny_bind (wpAny_field hos hds (x := vu) rfl (wpAny_bind (wpAny_field hos hds (x := vs) rfl (wpAny_pure ?_)))))))
  refine wpAny_bind (slicePart_ ps ?_)
  show wpAny _ _ (if ((-1 : Int) == 0) = true then _ else _) _ _ s
  rw [if_neg (by decide)]
  refine wpAny_bind (slicePart_ pl (wpAny_bind (slicePart_ pu (wpAny_bind (wpAny_pure ?_)))))
  show wpAny _ _ (pure ((n : Int) - 1, (-1 : Int), Builtin.Slice.slicePlaces ((n : Int) - 1) (-1) (-1))) _ _ s
  rw [e]
  exact wpAny_pure q
theorem tup_back {t sl : Addr} {items : Array Value} {vl vu vs : Value} {R : Value → Shared → Prop} (ht : IsTup s.heap t items) (hs : s.heap.IsSliceOf sl vl vu vs) (pl : IsPart vl none) (pu : IsPart vu none) (ps : IsPart vs (some (-1)))
    (hz : items.size ≤ sizeLine) (h : R (.ref s.heap.objs.size) { s with heap := s.heap.push { cls := .type "tuple", data := .seq items.toList.reverse.toArray } }) : wpAny (model prog w) A (getItem (.ref t) (.ref sl)) R E s := by
  have room : sizeOk (.seq items.toList.reverse.toArray) := by
    show items.toList.reverse.toArray.size ≤ sizeLine
    rw [List.size_toArray, List.length_reverse]
    exact hz
  obtain ⟨os, hos, hcs, hds⟩ := id hs
  have hT : s.TypeIs (.ref sl) "slice" := ⟨os, hos, hcs⟩
  unfold getItem
  try with_reducible refine wpAny_holding ?_
  first | refine wpAny_bind (wpAny_pure ?_) | skip
  refine wpAny_bind (wpAny_sequenceKey ht.typeIs (by decide) ?_)
  refine wpAny_bind (wpAny_callSpecial?_slot (name := Str.ofString "__getitem__") ht.typeIs PyProof.Rows.slot_tuple_getitem (wpAny_call_entry PyProof.Rows.slot_tuple_getitem ht.typeIs entry_tuple_getitem ?_ (args_tuple_getitem _ _)))
  show wpAny _ _ (Builtin.Tuple.tupleItemsOf (.ref t) >>= _) _ _ s
  refine wpAny_bind (tupleItemsOf_ ht (wpAny_bind (wpAny_typeOf hT ?_)))
  rw [if_pos (by decide)]
  refine wpAny_bind (sliced_back hs pl pu ps ?_)
  show wpAny _ _ (if ((((items.size : Int) - 1) == 0 && (-1 : Int) == 1 && items.size == items.size) = true) then _ else _) _ _ s
  rw [if_neg (by simp), rev_pick]
  first
    | exact wpAny_bind (m := Builtin.Tuple.tupleExact _) (wpAny_newObj_type (wpAny_pure ⟨_, rfl, wpAny_pure h⟩) room)
    | exact wpAny_bind (m := Builtin.Tuple.tupleExact _) (wpAny_newObj_type (wpAny_bind (wpAny_pure (wpAny_pure ⟨_, rfl, wpAny_pure h⟩))) room)
    | exact wpAny_bind (wpAny_bind (m := Builtin.Tuple.tupleExact _) (wpAny_newObj_type (wpAny_pure (wpAny_pure ⟨_, rfl, wpAny_pure h⟩)) room))
    | exact wpAny_bind (wpAny_bind (m := Builtin.Tuple.tupleExact _) (wpAny_newObj_type (wpAny_pure ⟨_, rfl, wpAny_pure h⟩) room))
end
end HT
namespace Mi
open PySem PySem.Spec PyProof.Rows L2
/-- a[::-1], a list or a tuple -/
def tBack (K : PySem.W.Frag) (te : TE) : TE := fun σ H Q => te σ H fun x H1 => ∃ a xs, x = .ref a ∧ ((SqL K H1 a xs ∧ ∀ p, H1 p = none → Q (.ref p) (upd H1 p (.lst xs.reverse))) ∨ (SqT K H1 a xs ∧ ∀ p, H1 p = none → Q (.ref p) (upd H1 p (.tup xs.reverse))))
theorem pe_back {X : Cx} {e : Expr} {te : TE} {k : Nat} {p1 p2 p3 pos : Pos} (he : PE X e te) : PE X (.Subscript e (.Slice none none (some (.UnaryOp .USub (.Constant (.int 1) k p1) p2)) p3) pos) (tBack X.K te) := by
  refine ⟨fun pins s σ H Q I h => Subscript_ (thn (he.run pins s σ H _ I h) fun v s1 ⟨x, H1, I1, r1, a, xs, ex, q⟩ => ?_)⟩
  subst ex
  cases r1
  have step : PO X (some (.UnaryOp .USub (.Constant (.int 1) k p1) p2)) (tPart (tUn (rU fun i => .int (-i)) (tC (.int 1)))) := po_some (pe_un un_neg pe_int)
  refine wpAny_Slice (thn (po_none.run pins s1 σ H1 (fun o H2 => o = none ∧ H2 = H1) I1 ⟨rfl, rfl⟩) fun vl s2 ⟨l, H2, I2, pl, el, e2⟩ => ?_)
  cases el
  cases e2
  refine thn (po_none.run pins s2 σ H1 (fun o H3 => o = none ∧ H3 = H1) I2 ⟨rfl, rfl⟩) fun vu s3 ⟨u, H3, I3, pu, eu, e3⟩ => ?_
  cases eu
  cases e3
  refine thn (step.run pins s3 σ H1 (fun o H4 => o = some (-1) ∧ H4 = H1) I3 ⟨1, rfl, -1, rfl, rfl, rfl⟩) fun vs s4 ⟨o, H4, I4, ps, eo, e4⟩ => ?_
  cases eo
  cases e4
  have I5 : Inv X pins σ H1 { s4 with heap := s4.heap.push { cls := .type "slice", data := .fields #[vl, vu, vs] } } := I4.kept (t' := s4.toks) fun b ob q => Heap.get?_push_of_some _ q
  show wpAny (model X.prog X.w) X.A (subscriptTail e (.Slice none none (some (.UnaryOp .USub (.Constant (.int 1) k p1) p2)) p3) (.ref a) (.ref s4.heap.objs.size)) (EP X pins σ Q) X.xe { s4 with heap := s4.heap.push { cls := .type "slice", data := .fields #[vl, vu, vs] } }
  rcases q with ⟨hx, q⟩ | ⟨hx, q⟩
  · obtain ⟨its, r, ht, hz⟩ := I5.list hx
    have hlen := r.length
    refine tail_any (ops := [.ref a, .ref s4.heap.objs.size]) ht.isList.typeIs (PySem.slot_list_getitem.lookup) ?_ (by with_unfolding_all rfl)
    refine wpAny_getItem_list_slice ht.isList (Heap.IsSliceOf.new _ vl vu vs) pl pu ps (by decide) ?_ (by rw [List.size_toArray]; omega)
    rw [PySem.W.krv_pick]
    refine ⟨.ref _, _, I5.laid (t' := s4.toks) (o := .lst xs.reverse) (fun b ob q => Heap.get?_push_of_some _ q) (Nat.le_refl _) ?_, rfl, q _ (I5.hok.fresh (Nat.le_refl _))⟩
    exact ⟨by rw [List.length_reverse]; exact hz, _, 0, r.reverse, Heap.get?_push_size _ rfl⟩
  · obtain ⟨its, r, ht, hz⟩ := I5.tuple hx
    have hlen := r.length
    refine tail_any (ops := [.ref a, .ref s4.heap.objs.size]) ht.typeIs (PyProof.Rows.slot_tuple_getitem.lookup) ?_ (by with_unfolding_all rfl)
    refine HT.tup_back ht (Heap.IsSliceOf.new _ vl vu vs) pl pu ps (by rw [List.size_toArray]; omega) ?_
    refine ⟨.ref _, _, I5.laid (t' := s4.toks) (o := .tup xs.reverse) (fun b ob q => Heap.get?_push_of_some _ q) (Nat.le_refl _) ?_, rfl, q _ (I5.hok.fresh (Nat.le_refl _))⟩
    exact ⟨by rw [List.length_reverse]; exact hz, _, r.reverse, IsTup.new _ _⟩
def dRev (x : D) (s : Store) : Option (D × Store) := match x with
  | .tup xs => some (.tup xs.reverse, s)
  | x => (lstOf s x).map fun xs => (.loc s.length, s ++ [.lst xs.reverse])
theorem Reps.rev {K : PySem.W.Frag} {m : List Addr} {H : Hp} {xs : List D} {vs : List V} (h : Reps K m H xs vs) : Reps K m H xs.reverse vs.reverse := by
  obtain ⟨a, b, c⟩ := zip_map1 h
  have q := reps_map (bs := (xs.zip vs).reverse) fun z hz => c z (List.mem_reverse.mp hz)
  rw [List.map_reverse, List.map_reverse, a, b] at q
  exact q
section
variable {X : Cx} {W : WX} {pos p1 p2 p3 : Pos} {k : Nat} {a : Expr} {fa : ME D}
theorem ce_back (ha : PE X a (Te X.K X.mg W fa)) : PE X (.Subscript a (.Slice none none (some (.UnaryOp .USub (.Constant (.int 1) k p1) p2)) p3) pos) (Te X.K X.mg W (e1 dRev fa)) :=
  PE.imp (pe_back ha) fun σ H Q h => Tm.bind (k := fun env x s => R.of (dRev x s)) h fun m1 H1 env x v s1 r1 E1 p g1 => by
    have gen : (∀ ys, x ≠ .tup ys) → ∃ a xs, v = .ref a ∧ ((SqL X.K H1 a xs ∧ ∀ p, H1 p = none → Q (.ref p) (upd H1 p (.lst xs.reverse))) ∨ (SqT X.K H1 a xs ∧ ∀ p, H1 p = none → Q (.ref p) (upd H1 p (.tup xs.reverse)))) := by
      intro hn
      have e : dRev x s1 = (lstOf s1 x).map fun xs => (.loc s1.length, s1 ++ [.lst xs.reverse]) := by
        cases x <;> first | rfl | exact (hn _ rfl).elim
      rw [e] at g1
      cases q : lstOf s1 x with
      | none => rw [q] at g1; exact g1.elim
      | some xs =>
        rw [q] at g1
        have g2 : G X.K X.mg (Rep X.K) W σ m1 H1 Q (.ok (.loc s1.length) (s1 ++ [.lst xs.reverse])) := g1
        obtain ⟨a, vs, rfl, hq, rr⟩ := lstOf_sq r1 p q
        exact ⟨a, vs, rfl, .inl ⟨hq, fun l hl => g2 (m1 ++ [l]) _ _ (le_more r1 hl) (rel_newlist r1 hl rr.rev) (.loc (len_get r1))⟩⟩
    cases x with
    | tup xs =>
      obtain ⟨a, vs, rfl, hq, rr⟩ := p.sqT
      have g2 : G X.K X.mg (Rep X.K) W σ m1 H1 Q (.ok (.tup xs.reverse) s1) := g1
      exact ⟨a, vs, rfl, .inr ⟨hq, fun l hl => g2 m1 _ _ (le_new hl) (r1.tmp hl) (rep_newtup hl rr.rev)⟩⟩
    | _ => exact gen (fun _ h => nomatch h)
end
end Mi
namespace Mi
open PySem PySem.Spec PyProof.Rows L2
section
variable {K : PySem.W.Frag}
theorem reps3 {m : List Addr} {H : Hp} {d e f : D} {xs : List V} (p : Reps K m H [d, e, f] xs) : ∃ u v w, xs = [u, v, w] ∧ Rep K m H d u ∧ Rep K m H e v ∧ Rep K m H f w := by
  cases p with
  | cons h r =>
    obtain ⟨v, w, rfl, h2, h3⟩ := reps2 r
    exact ⟨_, v, w, rfl, h, h2, h3⟩
/-! #### min, max of three -/
def dMax3 : List D → Store → Option (D × Store)
  | [.int i, .int j, .int k], s => some (.int (max (max i j) k), s)
  | _, _ => none
def dMin3 : List D → Store → Option (D × Store)
  | [.int i, .int j, .int k], s => some (.int (min (min i j) k), s)
  | _, _ => none
theorem nu_lt (i j : Int) : nuLt (.int i) (.int j) = some (decide (i < j)) := rfl
theorem nu_max (i j : Int) : nuMax2 (.int i) (.int j) = some (.int (max i j)) := by
  show (nuLt (.int i) (.int j)).map _ = _
  rw [nu_lt, Option.map_some]
  by_cases c : i < j
  · simp [c, Int.max_def, Int.le_of_lt c]
  · simp [c, Int.max_def]
    omega
theorem nu_min (i j : Int) : nuMin2 (.int i) (.int j) = some (.int (min i j)) := by
  show (nuLt (.int j) (.int i)).map _ = _
  rw [nu_lt, Option.map_some]
  by_cases c : j < i
  · simp [c, Int.min_def]
    omega
  · simp [c, Int.min_def]
theorem fns_max3 : FnS K (rNuC3 nuMax3) dMax3 := by
  intro mg W σ m H s xs ds Q r p g
  unfold dMax3 at g
  split at g
  · obtain ⟨u, v, w, rfl, h, h2, h3⟩ := reps3 p
    cases h; cases h2; cases h3
    exact ⟨_, _, _, _, rfl, by rw [nuMax3, nu_max, Option.bind_some, nu_max], g.now r (.int _)⟩
  · exact g.elim
theorem fns_min3 : FnS K (rNuC3 nuMin3) dMin3 := by
  intro mg W σ m H s xs ds Q r p g
  unfold dMin3 at g
  split at g
  · obtain ⟨u, v, w, rfl, h, h2, h3⟩ := reps3 p
    cases h; cases h2; cases h3
    exact ⟨_, _, _, _, rfl, by rw [nuMin3, nu_min, Option.bind_some, nu_min], g.now r (.int _)⟩
  · exact g.elim
/-! #### min, max of a list of ints -/
def dMaxL : List D → Store → Option (D × Store)
  | [x], s => (lstOf s x).bind fun xs => (intsOf xs).bind fun ns => ns.max?.map fun z => (.int z, s)
  | _, _ => none
def dMinL : List D → Store → Option (D × Store)
  | [x], s => (lstOf s x).bind fun xs => (intsOf xs).bind fun ns => ns.min?.map fun z => (.int z, s)
  | _, _ => none
theorem fns_maxL : FnS K (rMax K) dMaxL := by
  intro mg W σ m H s xs ds Q r p g
  unfold dMaxL at g
  split at g
  · obtain ⟨v, rfl, h⟩ := reps1 p
    rename_i x
    cases q : lstOf s x with
    | none => rw [q] at g; exact g.elim
    | some ys =>
      rw [q, Option.bind_some] at g
      cases q2 : intsOf ys with
      | none => rw [q2] at g; exact g.elim
      | some ns =>
        rw [q2, Option.bind_some] at g
        cases q3 : ns.max? with
        | none => rw [q3] at g; exact g.elim
        | some z =>
          rw [q3] at g
          obtain ⟨a, vs, rfl, hq, rr⟩ := lstOf_sq r h q
          rw [of_intsOf q2] at rr
          have e := rr.ints
          subst e
          obtain ⟨z1, z2⟩ := List.max?_eq_some_iff.mp q3
          refine ⟨a, ns, rfl, hq, List.length_pos_iff_exists_mem.mpr ⟨z, z1⟩, fun y h1 h2 => ?_⟩
          have e : y = z := Int.le_antisymm (z2 y h1) (h2 z z1)
          rw [e]
          exact G.now (d := D.int z) g r (.int _)
  · exact g.elim
theorem fns_minL : FnS K (rMin K) dMinL := by
  intro mg W σ m H s xs ds Q r p g
  unfold dMinL at g
  split at g
  · obtain ⟨v, rfl, h⟩ := reps1 p
    rename_i x
    cases q : lstOf s x with
    | none => rw [q] at g; exact g.elim
    | some ys =>
      rw [q, Option.bind_some] at g
      cases q2 : intsOf ys with
      | none => rw [q2] at g; exact g.elim
      | some ns =>
        rw [q2, Option.bind_some] at g
        cases q3 : ns.min? with
        | none => rw [q3] at g; exact g.elim
        | some z =>
          rw [q3] at g
          obtain ⟨a, vs, rfl, hq, rr⟩ := lstOf_sq r h q
          rw [of_intsOf q2] at rr
          have e := rr.ints
          subst e
          obtain ⟨z1, z2⟩ := List.min?_eq_some_iff.mp q3
          refine ⟨a, ns, rfl, hq, List.length_pos_iff_exists_mem.mpr ⟨z, z1⟩, fun y h1 h2 => ?_⟩
          have e : y = z := Int.le_antisymm (h2 z z1) (z2 y h1)
          rw [e]
          exact G.now (d := D.int z) g r (.int _)
  · exact g.elim
end
end Mi
namespace Mi
open PySem PySem.Spec PyProof.Rows L2
/-! ### a while by an invariant and a measure -/
theorem whileN_more {c : ME Bool} {b : MS} : ∀ {n : Nat} {env : Sl} {s : Store}, whileN c b n env s ≠ .no → whileN c b (n + 1) env s = whileN c b n env s := by
  intro n
  induction n with
  | zero => intro env s h; exact (h rfl).elim
  | succ n ih =>
    intro env s h
    unfold whileN at h ⊢
    cases e : c env s with
    | no => rfl
    | ex x s1 => rfl
    | ok k s1 =>
      rw [e] at h
      cases k with
      | false => rfl
      | true =>
        simp only [R.then, if_true] at h ⊢
        cases e2 : b env s1 with
        | nx env2 s2 => rw [e2] at h; exact ih h
        | ct env2 s2 => rw [e2] at h; exact ih h
        | bk env2 s2 => rfl
        | rt d s2 => rfl
        | ex x env2 s2 => rfl
        | no => rfl
theorem whileN_add {c : ME Bool} {b : MS} {n : Nat} {env : Sl} {s : Store} (h : whileN c b n env s ≠ .no) : ∀ k, whileN c b (n + k) env s = whileN c b n env s
  | 0 => rfl
  | k + 1 => by
    have q := whileN_add h k
    rw [← q] at h
    rw [← Nat.add_assoc, whileN_more h, q]
theorem whileN_one {c : ME Bool} {b : MS} {n m : Nat} {env : Sl} {s : Store} (h : whileN c b n env s ≠ .no) (h2 : whileN c b m env s ≠ .no) : whileN c b n env s = whileN c b m env s := by
  rw [← whileN_add h m, ← whileN_add h2 n, Nat.add_comm]
theorem sWhile_of {c : ME Bool} {b : MS} {n : Nat} {env : Sl} {s : Store} (h : whileN c b n env s ≠ .no) : sWhile c b env s = whileN c b n env s := by
  have z : ∃ n, whileN c b n env s ≠ .no := ⟨n, h⟩
  unfold sWhile
  rw [dif_pos z]
  exact whileN_one (Classical.choose_spec z) h
/-- one turn's promise -/
theorem while_rule {c : ME Bool} {b : MS} (I : Nat → Sl → Store → Prop) (Q : RS → Prop) (no : ¬ Q .no)
    (hs : ∀ n env s, I n env s → (∃ s', c env s = .ok false s' ∧ Q (.nx env s')) ∨ (∃ s', c env s = .ok true s' ∧ Turns (fun env s => ∃ m, m < n ∧ I m env s) Q (b env s'))) {n : Nat} {env : Sl} {s : Store} (h : I n env s) : Q (sWhile c b env s) := by
  have key : ∀ n env s, I n env s → ∃ k, Q (whileN c b k env s) := by
    intro n
    induction n using Nat.strongRecOn with
    | ind n ih =>
      intro env s h
      rcases hs n env s h with ⟨s', e, q⟩ | ⟨s', e, q⟩
      · refine ⟨1, ?_⟩
        unfold whileN
        rw [e]
        exact q
      · cases e2 : b env s' with
        | nx env2 s2 =>
          rw [e2] at q
          obtain ⟨m, hm, hi⟩ := q
          obtain ⟨k, hk⟩ := ih m hm env2 s2 hi
          refine ⟨k + 1, ?_⟩
          unfold whileN
          simp only [e, R.then, if_true, e2]
          exact hk
        | ct env2 s2 =>
          rw [e2] at q
          obtain ⟨m, hm, hi⟩ := q
          obtain ⟨k, hk⟩ := ih m hm env2 s2 hi
          refine ⟨k + 1, ?_⟩
          unfold whileN
          simp only [e, R.then, if_true, e2]
          exact hk
        | bk env2 s2 =>
          rw [e2] at q
          refine ⟨1, ?_⟩
          unfold whileN
          simp only [e, R.then, if_true, e2]
          exact q
        | rt d s2 =>
          rw [e2] at q
          refine ⟨1, ?_⟩
          unfold whileN
          simp only [e, R.then, if_true, e2]
          exact q
        | ex x env2 s2 =>
          rw [e2] at q
          refine ⟨1, ?_⟩
          unfold whileN
          simp only [e, R.then, if_true, e2]
          exact q
        | no => rw [e2] at q; exact q.elim
  obtain ⟨k, hk⟩ := key n env s h
  have nn : whileN c b k env s ≠ .no := fun e => no (e ▸ hk)
  rw [sWhile_of nn]
  exact hk
/-! ### name op= e -/
@[simp] theorem sAug_eq (i : Nat) (g : D → D → Store → Option (D × Store)) (e : ME D) (env : Sl) (s : Store) : sAug i g e env s = match env[i]? with
  | some (some x) => (e env s).then env fun y s => match g x y s with
    | some (z, s') => .nx (env.set i (some z)) s'
    | none => .no
  | _ => .no := rfl
@[simp] theorem dAddI_int (i j : Int) (s : Store) : dAddI (.int i) (.int j) s = some (.int (i + j), s) := rfl
/-! ### a value's truth -/
open Classical in
noncomputable def dTru (s : Store) : D → Option Bool
  | .non => some false
  | .bl b => some b
  | .int i => some (i != 0)
  | .str y => if y.length ≤ sizeLine then some ((y.length : Int) != 0) else none
  | .tup xs => some (!xs.isEmpty)
  | .fl xs => some (!xs.isEmpty)
  | .loc l => match s[l]? with
    | some (.lst xs) => some (!xs.isEmpty)
    | some (.dic ks) => some (!ks.isEmpty)
    | none => none
  | .exv _ _ => none
theorem reps_empty {K : PySem.W.Frag} {m : List Addr} {H : Hp} {xs : List D} {vs : List V} (h : Reps K m H xs vs) : xs.isEmpty = vs.isEmpty := by
  cases h <;> rfl
theorem repk_empty {K : PySem.W.Frag} {m : List Addr} {H : Hp} {xs : List (Key × D)} {vs : List (Key × V)} (h : RepK K m H xs vs) : xs.isEmpty = vs.isEmpty := by
  cases h <;> rfl
theorem dTru_ok {K : PySem.W.Frag} {m : List Addr} {H : Hp} {s : Store} (r : Rel K m H s) {d : D} {v : V} {k : Bool} (p : Rep K m H d v) (e : dTru s d = some k) : TruV K v H k := by
  cases p with
  | non => cases e; rfl
  | bl b => cases e; rfl
  | int i => cases e; rfl
  | str y =>
    by_cases hz : y.length ≤ sizeLine
    · simp only [dTru, if_pos hz] at e
      cases e
      exact ⟨hz, rfl⟩
    · simp only [dTru, if_neg hz] at e
      cases e
  | tup h q => cases e; exact .inr (.inl ⟨_, h, by rw [reps_empty q]⟩)
  | fl h q => cases e; exact .inl ⟨_, h.sq, by rw [reps_empty q]⟩
  | @loc l a h =>
    unfold dTru at e
    cases q : s[l]? with
    | none => simp [q] at e
    | some c =>
      cases c with
      | lst xs =>
        simp only [q] at e
        cases e
        obtain ⟨vs, q1, p1⟩ := r.list h q
        exact .inl ⟨vs, .inl (.inl q1), by rw [reps_empty p1]⟩
      | dic ks =>
        simp only [q] at e
        cases e
        obtain ⟨ws, q1, p1⟩ := r.at_ l a _ h q
        exact .inr (.inr ⟨ws, q1, by rw [repk_empty p1]⟩)
  | exv => cases e
noncomputable def tTru (a : ME D) : ME Bool := fun env s => (a env s).bind fun x s => match dTru s x with
  | some b => .ok b s
  | none => .no
section
variable {X : Cx} {W : WX} {a : Expr} {fa : ME D}
theorem ct_tru (ha : PE X a (Te X.K X.mg W fa)) (he : ∀ whole, isTrue a X.env whole = (do let v ← whole; standAt a.pos; holding [v] (truthy v)) := by intro _; rfl) : PT X a (Tt X.K X.mg W (tTru fa)) :=
  PT.imp (pt_truth ha he) fun σ H Q h => Tm.bind (k := fun _ x s => match dTru s x with | some b => R.ok b s | none => R.no) h fun m1 H1 env x v s1 r1 E1 p1 g1 => by
    cases q : dTru s1 x with
    | none => rw [q] at g1; exact g1.elim
    | some k => rw [q] at g1; exact ⟨k, dTru_ok r1 p1 q, g1.nowB r1⟩
end
@[simp] theorem tTru_eq (a : ME D) (env : Sl) (s : Store) : tTru a env s = (a env s).bind fun x s => match dTru s x with | some b => .ok b s | none => .no := rfl
@[simp] theorem dTru_bl (s : Store) (b : Bool) : dTru s (.bl b) = some b := rfl
@[simp] theorem dTru_non (s : Store) : dTru s .non = some false := rfl
@[simp] theorem dTru_tup (s : Store) (xs : List D) : dTru s (.tup xs) = some (!xs.isEmpty) := rfl
theorem dTru_loc {s : Store} {l : Nat} {xs : List D} (h : s[l]? = some (.lst xs)) : dTru s (.loc l) = some (!xs.isEmpty) := by simp [dTru, h]
/-! ### the last place -/
@[simp] theorem atI_neg1 (xs : List D) (y : D) : atI (xs ++ [y]) (-1) = some y := L2.atI_last xs y
theorem pList_last {s : Store} {l : Nat} {xs : List D} {y : D} (h : s[l]? = some (.lst (xs ++ [y]))) (z : D) : pList (.loc l) (.int (-1)) z s = some (s.set l (.lst (xs ++ [z]))) := by
  have e : ixN (xs ++ [y]).length (-1) = some xs.length := by
    unfold ixN
    simp
    omega
  have e' : ixN (xs.length + 1) (-1) = some xs.length := by simpa using e
  simp [pList, h]
  exact ⟨xs.length, e', by simp⟩
end Mi
namespace Law
open PySem PySem.Spec PyProof.Rows L2 Mi
/-! ### the text -/
def topS (i : Nat) : Stmt := PySem.Challenge.pw_beforeinall_k02_joined_dates.main.body.getD i (.Pass ⟨0, 0, 0, 0⟩)
abbrev s_make_dates : Stmt := topS 1
abbrev s_both_dates : Stmt := topS 3
abbrev s_either_dates : Stmt := topS 4
abbrev s_outside_dates : Stmt := topS 5
abbrev s_moved_dates : Stmt := topS 6
abbrev s_turned_dates : Stmt := topS 7
abbrev s_d_law_pool : Stmt := topS 9
abbrev s_d_law_draw : Stmt := topS 10
abbrev s_d_law_often_end : Stmt := topS 11
abbrev s_d_law_is_integer : Stmt := topS 12
abbrev s_d_law_same : Stmt := topS 13
abbrev s_d_law_cuts : Stmt := topS 14
abbrev s_d_law_flags : Stmt := topS 15
abbrev s_d_law_dates : Stmt := topS 16
abbrev s_d_law_outside : Stmt := topS 17
abbrev s_d_law_frame : Stmt := topS 18
abbrev s_d_law_outsides : Stmt := topS 19
abbrev s_d_law_moves : Stmt := topS 20
abbrev s_d_law_turns : Stmt := topS 21
abbrev s_d_law_joins : Stmt := topS 22
abbrev s_d_law_near : Stmt := topS 23
abbrev s_law : Stmt := topS 24
theorem sc_make_dates : FnScope ["pairs", "found", "low", "high"] ["pairs"] (defScope s_make_dates) := ⟨rfl, rfl, rfl, by decide +kernel, rfl, by decide +kernel, by decide +kernel⟩
theorem sc_both_dates : FnScope ["one", "other", "found", "here", "there", "low", "high"] ["one", "other"] (defScope s_both_dates) := ⟨rfl, rfl, rfl, by decide +kernel, rfl, by decide +kernel, by decide +kernel⟩
theorem sc_either_dates : FnScope ["one", "other"] ["one", "other"] (defScope s_either_dates) := ⟨rfl, rfl, rfl, by decide +kernel, rfl, by decide +kernel, by decide +kernel⟩
theorem sc_outside_dates : FnScope ["first", "last", "dates", "found", "low", "begin", "end", "high"] ["first", "last", "dates"] (defScope s_outside_dates) := ⟨rfl, rfl, rfl, by decide +kernel, rfl, by decide +kernel, by decide +kernel⟩
theorem sc_moved_dates : FnScope ["dates", "by", "low", "high"] ["dates", "by"] (defScope s_moved_dates) := ⟨rfl, rfl, rfl, by decide +kernel, rfl, by decide +kernel, by decide +kernel⟩
theorem sc_turned_dates : FnScope ["first", "last", "dates", "total", "low", "high"] ["first", "last", "dates"] (defScope s_turned_dates) := ⟨rfl, rfl, rfl, by decide +kernel, rfl, by decide +kernel, by decide +kernel⟩
theorem sc_d_law_pool : FnScope ["script", "mixed", "great", "cell", "plain"] ["script"] (defScope s_d_law_pool) := ⟨rfl, rfl, rfl, by decide +kernel, rfl, by decide +kernel, by decide +kernel⟩
theorem sc_d_law_draw : FnScope ["pool", "many", "cell"] ["pool", "many"] (defScope s_d_law_draw) := ⟨rfl, rfl, rfl, by decide +kernel, rfl, by decide +kernel, by decide +kernel⟩
theorem sc_d_law_often_end : FnScope ["pool", "many", "habit"] ["pool", "many"] (defScope s_d_law_often_end) := ⟨rfl, rfl, rfl, by decide +kernel, rfl, by decide +kernel, by decide +kernel⟩
theorem sc_d_law_is_integer : FnScope ["told"] ["told"] (defScope s_d_law_is_integer) := ⟨rfl, rfl, rfl, by decide +kernel, rfl, by decide +kernel, by decide +kernel⟩
theorem sc_d_law_same : FnScope ["told", "due", "place", "pair"] ["told", "due"] (defScope s_d_law_same) := ⟨rfl, rfl, rfl, by decide +kernel, rfl, by decide +kernel, by decide +kernel⟩
theorem sc_d_law_cuts : FnScope ["pool", "many", "wide", "sizes", "cuts", "size", "place"] ["pool", "many"] (defScope s_d_law_cuts) := ⟨rfl, rfl, rfl, by decide +kernel, rfl, by decide +kernel, by decide +kernel⟩
theorem sc_d_law_flags : FnScope ["pool", "shape", "many", "one", "place"] ["pool", "shape", "many"] (defScope s_d_law_flags) := ⟨rfl, rfl, rfl, by decide +kernel, rfl, by decide +kernel, by decide +kernel⟩
theorem sc_d_law_dates : FnScope ["cuts", "flags", "dates", "place", "low"] ["cuts", "flags"] (defScope s_d_law_dates) := ⟨rfl, rfl, rfl, by decide +kernel, rfl, by decide +kernel, by decide +kernel⟩
theorem sc_d_law_outside : FnScope ["first", "last", "dates", "outside", "year", "pair"] ["first", "last", "dates"] (defScope s_d_law_outside) := ⟨rfl, rfl, rfl, by decide +kernel, rfl, by decide +kernel, by decide +kernel⟩
theorem sc_d_law_frame : FnScope ["pool", "cuts", "one", "other", "first", "last"] ["pool", "cuts"] (defScope s_d_law_frame) := ⟨rfl, rfl, rfl, by decide +kernel, rfl, by decide +kernel, by decide +kernel⟩
theorem sc_d_law_outsides : FnScope ["pool", "cuts", "dates", "lap", "frame", "around"] ["pool", "cuts", "dates"] (defScope s_d_law_outsides) := ⟨rfl, rfl, rfl, by decide +kernel, rfl, by decide +kernel, by decide +kernel⟩
theorem sc_d_law_moves : FnScope ["pool", "dates", "low", "high", "lap", "by", "due", "pair"] ["pool", "dates"] (defScope s_d_law_moves) := ⟨rfl, rfl, rfl, by decide +kernel, rfl, by decide +kernel, by decide +kernel⟩
theorem sc_d_law_turns : FnScope ["pool", "dates", "low", "high", "both", "apart", "first", "due", "pair", "place"] ["pool", "dates"] (defScope s_d_law_turns) := ⟨rfl, rfl, rfl, by decide +kernel, rfl, by decide +kernel, by decide +kernel⟩
theorem sc_d_law_joins : FnScope ["one", "other", "both", "either"] ["one", "other", "both", "either"] (defScope s_d_law_joins) := ⟨rfl, rfl, rfl, by decide +kernel, rfl, by decide +kernel, by decide +kernel⟩
theorem sc_d_law_near : FnScope ["pool", "low", "one"] ["pool"] (defScope s_d_law_near) := ⟨rfl, rfl, rfl, by decide +kernel, rfl, by decide +kernel, by decide +kernel⟩
theorem sc_law : FnScope ["script", "pool", "shape", "many", "cuts", "flags", "one", "other", "both", "either", "dates", "place"] ["script"] (defScope s_law) := ⟨rfl, rfl, rfl, by decide +kernel, rfl, by decide +kernel, by decide +kernel⟩
/-! ### what the top has left -/
structure Fx (K : PySem.W.Frag) (mg : Str → Option Value) where
  a_make_dates : Addr
  d_make_dates : FuncData
  F_make_dates : Fun K "make_dates" "make_dates" s_make_dates a_make_dates d_make_dates
  g_make_dates : mg "make_dates" = some (.ref a_make_dates)
  a_both_dates : Addr
  d_both_dates : FuncData
  F_both_dates : Fun K "both_dates" "both_dates" s_both_dates a_both_dates d_both_dates
  g_both_dates : mg "both_dates" = some (.ref a_both_dates)
  a_either_dates : Addr
  d_either_dates : FuncData
  F_either_dates : Fun K "either_dates" "either_dates" s_either_dates a_either_dates d_either_dates
  g_either_dates : mg "either_dates" = some (.ref a_either_dates)
  a_outside_dates : Addr
  d_outside_dates : FuncData
  F_outside_dates : Fun K "outside_dates" "outside_dates" s_outside_dates a_outside_dates d_outside_dates
  g_outside_dates : mg "outside_dates" = some (.ref a_outside_dates)
  a_moved_dates : Addr
  d_moved_dates : FuncData
  F_moved_dates : Fun K "moved_dates" "moved_dates" s_moved_dates a_moved_dates d_moved_dates
  g_moved_dates : mg "moved_dates" = some (.ref a_moved_dates)
  a_turned_dates : Addr
  d_turned_dates : FuncData
  F_turned_dates : Fun K "turned_dates" "turned_dates" s_turned_dates a_turned_dates d_turned_dates
  g_turned_dates : mg "turned_dates" = some (.ref a_turned_dates)
  a_d_law_pool : Addr
  d_d_law_pool : FuncData
  F_d_law_pool : Fun K "_law_pool" "_law_pool" s_d_law_pool a_d_law_pool d_d_law_pool
  g_d_law_pool : mg "_law_pool" = some (.ref a_d_law_pool)
  a_d_law_draw : Addr
  d_d_law_draw : FuncData
  F_d_law_draw : Fun K "_law_draw" "_law_draw" s_d_law_draw a_d_law_draw d_d_law_draw
  g_d_law_draw : mg "_law_draw" = some (.ref a_d_law_draw)
  a_d_law_often_end : Addr
  d_d_law_often_end : FuncData
  F_d_law_often_end : Fun K "_law_often_end" "_law_often_end" s_d_law_often_end a_d_law_often_end d_d_law_often_end
  g_d_law_often_end : mg "_law_often_end" = some (.ref a_d_law_often_end)
  a_d_law_is_integer : Addr
  d_d_law_is_integer : FuncData
  F_d_law_is_integer : Fun K "_law_is_integer" "_law_is_integer" s_d_law_is_integer a_d_law_is_integer d_d_law_is_integer
  g_d_law_is_integer : mg "_law_is_integer" = some (.ref a_d_law_is_integer)
  a_d_law_same : Addr
  d_d_law_same : FuncData
  F_d_law_same : Fun K "_law_same" "_law_same" s_d_law_same a_d_law_same d_d_law_same
  g_d_law_same : mg "_law_same" = some (.ref a_d_law_same)
  a_d_law_cuts : Addr
  d_d_law_cuts : FuncData
  F_d_law_cuts : Fun K "_law_cuts" "_law_cuts" s_d_law_cuts a_d_law_cuts d_d_law_cuts
  g_d_law_cuts : mg "_law_cuts" = some (.ref a_d_law_cuts)
  a_d_law_flags : Addr
  d_d_law_flags : FuncData
  F_d_law_flags : Fun K "_law_flags" "_law_flags" s_d_law_flags a_d_law_flags d_d_law_flags
  g_d_law_flags : mg "_law_flags" = some (.ref a_d_law_flags)
  a_d_law_dates : Addr
  d_d_law_dates : FuncData
  F_d_law_dates : Fun K "_law_dates" "_law_dates" s_d_law_dates a_d_law_dates d_d_law_dates
  g_d_law_dates : mg "_law_dates" = some (.ref a_d_law_dates)
  a_d_law_outside : Addr
  d_d_law_outside : FuncData
  F_d_law_outside : Fun K "_law_outside" "_law_outside" s_d_law_outside a_d_law_outside d_d_law_outside
  g_d_law_outside : mg "_law_outside" = some (.ref a_d_law_outside)
  a_d_law_frame : Addr
  d_d_law_frame : FuncData
  F_d_law_frame : Fun K "_law_frame" "_law_frame" s_d_law_frame a_d_law_frame d_d_law_frame
  g_d_law_frame : mg "_law_frame" = some (.ref a_d_law_frame)
  a_d_law_outsides : Addr
  d_d_law_outsides : FuncData
  F_d_law_outsides : Fun K "_law_outsides" "_law_outsides" s_d_law_outsides a_d_law_outsides d_d_law_outsides
  g_d_law_outsides : mg "_law_outsides" = some (.ref a_d_law_outsides)
  a_d_law_moves : Addr
  d_d_law_moves : FuncData
  F_d_law_moves : Fun K "_law_moves" "_law_moves" s_d_law_moves a_d_law_moves d_d_law_moves
  g_d_law_moves : mg "_law_moves" = some (.ref a_d_law_moves)
  a_d_law_turns : Addr
  d_d_law_turns : FuncData
  F_d_law_turns : Fun K "_law_turns" "_law_turns" s_d_law_turns a_d_law_turns d_d_law_turns
  g_d_law_turns : mg "_law_turns" = some (.ref a_d_law_turns)
  a_d_law_joins : Addr
  d_d_law_joins : FuncData
  F_d_law_joins : Fun K "_law_joins" "_law_joins" s_d_law_joins a_d_law_joins d_d_law_joins
  g_d_law_joins : mg "_law_joins" = some (.ref a_d_law_joins)
  a_d_law_near : Addr
  d_d_law_near : FuncData
  F_d_law_near : Fun K "_law_near" "_law_near" s_d_law_near a_d_law_near d_d_law_near
  g_d_law_near : mg "_law_near" = some (.ref a_d_law_near)
  a_law : Addr
  d_law : FuncData
  F_law : Fun K "law" "law" s_law a_law d_law
  g_law : mg "law" = some (.ref a_law)
  b_abs : mg "abs" = none
  b_bool : mg "bool" = none
  b_int : mg "int" = none
  b_isinstance : mg "isinstance" = none
  b_len : mg "len" = none
  b_list : mg "list" = none
  b_max : mg "max" = none
  b_min : mg "min" = none
  b_range : mg "range" = none
  b_sorted : mg "sorted" = none
  b_sum : mg "sum" = none
  b_tuple : mg "tuple" = none
variable {P : Program} {w : World} {K : PySem.W.Frag} {mg : Str → Option Value} {base : Heap}
theorem bd_make_dates (X : Fx K mg) : Binds K X.d_make_dates ["pairs"] [] := X.F_make_dates.binds (ps := ["pairs"]) fun _ _ _ _ _ _ us hl => match us, hl with | [_], _ => rfl
theorem bd_both_dates (X : Fx K mg) : Binds K X.d_both_dates ["one", "other"] [] := X.F_both_dates.binds (ps := ["one", "other"]) fun _ _ _ _ _ _ us hl => match us, hl with | [_, _], _ => rfl
theorem bd_either_dates (X : Fx K mg) : Binds K X.d_either_dates ["one", "other"] [] := X.F_either_dates.binds (ps := ["one", "other"]) fun _ _ _ _ _ _ us hl => match us, hl with | [_, _], _ => rfl
theorem bd_outside_dates (X : Fx K mg) : Binds K X.d_outside_dates ["first", "last", "dates"] [] := X.F_outside_dates.binds (ps := ["first", "last", "dates"]) fun _ _ _ _ _ _ us hl => match us, hl with | [_, _, _], _ => rfl
theorem bd_moved_dates (X : Fx K mg) : Binds K X.d_moved_dates ["dates", "by"] [] := X.F_moved_dates.binds (ps := ["dates", "by"]) fun _ _ _ _ _ _ us hl => match us, hl with | [_, _], _ => rfl
theorem bd_turned_dates (X : Fx K mg) : Binds K X.d_turned_dates ["first", "last", "dates"] [] := X.F_turned_dates.binds (ps := ["first", "last", "dates"]) fun _ _ _ _ _ _ us hl => match us, hl with | [_, _, _], _ => rfl
theorem bd_d_law_pool (X : Fx K mg) : Binds K X.d_d_law_pool ["script"] [] := X.F_d_law_pool.binds (ps := ["script"]) fun _ _ _ _ _ _ us hl => match us, hl with | [_], _ => rfl
theorem bd_d_law_draw (X : Fx K mg) : Binds K X.d_d_law_draw ["pool", "many"] [] := X.F_d_law_draw.binds (ps := ["pool", "many"]) fun _ _ _ _ _ _ us hl => match us, hl with | [_, _], _ => rfl
theorem bd_d_law_often_end (X : Fx K mg) : Binds K X.d_d_law_often_end ["pool", "many"] [] := X.F_d_law_often_end.binds (ps := ["pool", "many"]) fun _ _ _ _ _ _ us hl => match us, hl with | [_, _], _ => rfl
theorem bd_d_law_is_integer (X : Fx K mg) : Binds K X.d_d_law_is_integer ["told"] [] := X.F_d_law_is_integer.binds (ps := ["told"]) fun _ _ _ _ _ _ us hl => match us, hl with | [_], _ => rfl
theorem bd_d_law_same (X : Fx K mg) : Binds K X.d_d_law_same ["told", "due"] [] := X.F_d_law_same.binds (ps := ["told", "due"]) fun _ _ _ _ _ _ us hl => match us, hl with | [_, _], _ => rfl
theorem bd_d_law_cuts (X : Fx K mg) : Binds K X.d_d_law_cuts ["pool", "many"] [] := X.F_d_law_cuts.binds (ps := ["pool", "many"]) fun _ _ _ _ _ _ us hl => match us, hl with | [_, _], _ => rfl
theorem bd_d_law_flags (X : Fx K mg) : Binds K X.d_d_law_flags ["pool", "shape", "many"] [] := X.F_d_law_flags.binds (ps := ["pool", "shape", "many"]) fun _ _ _ _ _ _ us hl => match us, hl with | [_, _, _], _ => rfl
theorem bd_d_law_dates (X : Fx K mg) : Binds K X.d_d_law_dates ["cuts", "flags"] [] := X.F_d_law_dates.binds (ps := ["cuts", "flags"]) fun _ _ _ _ _ _ us hl => match us, hl with | [_, _], _ => rfl
theorem bd_d_law_outside (X : Fx K mg) : Binds K X.d_d_law_outside ["first", "last", "dates"] [] := X.F_d_law_outside.binds (ps := ["first", "last", "dates"]) fun _ _ _ _ _ _ us hl => match us, hl with | [_, _, _], _ => rfl
theorem bd_d_law_frame (X : Fx K mg) : Binds K X.d_d_law_frame ["pool", "cuts"] [] := X.F_d_law_frame.binds (ps := ["pool", "cuts"]) fun _ _ _ _ _ _ us hl => match us, hl with | [_, _], _ => rfl
theorem bd_d_law_outsides (X : Fx K mg) : Binds K X.d_d_law_outsides ["pool", "cuts", "dates"] [] := X.F_d_law_outsides.binds (ps := ["pool", "cuts", "dates"]) fun _ _ _ _ _ _ us hl => match us, hl with | [_, _, _], _ => rfl
theorem bd_d_law_moves (X : Fx K mg) : Binds K X.d_d_law_moves ["pool", "dates"] [] := X.F_d_law_moves.binds (ps := ["pool", "dates"]) fun _ _ _ _ _ _ us hl => match us, hl with | [_, _], _ => rfl
theorem bd_d_law_turns (X : Fx K mg) : Binds K X.d_d_law_turns ["pool", "dates"] [] := X.F_d_law_turns.binds (ps := ["pool", "dates"]) fun _ _ _ _ _ _ us hl => match us, hl with | [_, _], _ => rfl
theorem bd_d_law_joins (X : Fx K mg) : Binds K X.d_d_law_joins ["one", "other", "both", "either"] [] := X.F_d_law_joins.binds (ps := ["one", "other", "both", "either"]) fun _ _ _ _ _ _ us hl => match us, hl with | [_, _, _, _], _ => rfl
theorem bd_d_law_near (X : Fx K mg) : Binds K X.d_d_law_near ["pool"] [] := X.F_d_law_near.binds (ps := ["pool"]) fun _ _ _ _ _ _ us hl => match us, hl with | [_], _ => rfl
theorem bd_law (X : Fx K mg) : Binds K X.d_law ["script"] [] := X.F_law.binds (ps := ["script"]) fun _ _ _ _ _ _ us hl => match us, hl with | [_], _ => rfl
/-! ### mirrors and derivations -/
noncomputable def bl_make_dates_1 : MS := sIf (tOr (tNot (tTru (eV 1))) (tV (e2 dGt (eV 2) (e2 dAdd (e2 dIx (e2 dIx (eV 1) (e1 dNeg (eC (.int 1)))) (eC (.int 1))) (eC (.int 1)))))) (sExpr (eMt "list" dAppend (eV 1) (aCons (eTup (aCons (eV 2) (aCons (eV 3) (aNil)))) (aNil)))) (sIf (tV (e2 dGt (eV 3) (e2 dIx (e2 dIx (eV 1) (e1 dNeg (eC (.int 1)))) (eC (.int 1))))) (sPut pList (eV 1) (e1 dNeg (eC (.int 1))) (eTup (aCons (e2 dIx (e2 dIx (eV 1) (e1 dNeg (eC (.int 1)))) (eC (.int 0))) (aCons (eV 3) (aNil))))) (sNil))
noncomputable def b_make_dates : MS := sSeq (sSet 1 (eLst (aNil)))
  (sSeq (sFor (iSeq (eFn dSorted (aCons (eV 0) (aNil)))) (gT 2 (gsC (gN 2) (gsC (gN 3) (gsN)))) (bl_make_dates_1))
  (sRet (eFn dTuple (aCons (eV 1) (aNil)))))
noncomputable def m_make_dates : List D → Store → R D := fnM 4 1 b_make_dates
theorem ok_make_dates (X : Fx K mg) : FnOk P w K mg base (L2.CX P w) 1 X.a_make_dates X.d_make_dates ["pairs"] (spM K mg 1 m_make_dates) :=
  okM (k := 0) X.F_make_dates sc_make_dates rfl fun cdv A outer s H E hr tk =>
    (css_cons (cs_set (j := 1) sc_make_dates.nd rfl (Or.inl rfl) (ce_lst (ca_nil)))
    (css_cons (cs_for (passes_of rfl) rfl (ci_seq (ce_callB (cr_sortedB hr.units) fns_sorted (by rfl) X.b_sorted (by decide +kernel) (ca_cons (ce_v 0) (ca_nil)))) (cg_tup (n := 2) rfl (cgs_cons (us := [2, 3]) (cg_name (i := 2) sc_make_dates.nd rfl (by first | exact Or.inl rfl | exact Or.inr rfl)) (cgs_cons (us := [3]) (cg_name (i := 3) sc_make_dates.nd rfl (by first | exact Or.inl rfl | exact Or.inr rfl)) (cgs_nil (vs := []))))) (css_one (cs_if (PW.pt (cw_or (ct_not (ct_tru (ce_v 1))) (cw_or1 (ct_cmp opA_gt ops_gt (ce_v 2) (ce_op op_addA ops_add (ce_ix ix_seq ops_ix (ce_ix ix_seq ops_ix (ce_v 1) (ce_un un_neg uns_neg (ce_int)) (fun _ _ => rfl)) (ce_int) (fun _ _ => rfl)) (ce_int)) (nomark _))))) (css_one (cs_expr (ce_bm PySem.F.plainAttrs_list PySem.F.slot_list_append PySem.F.type_list_append mt_append mts_append (ce_v 1) (ca_cons (ce_tup (ca_cons (ce_v 2) (ca_cons (ce_v 3) (ca_nil)))) (ca_nil))))) (css_one (cs_if (ct_cmp opA_gt ops_gt (ce_v 3) (ce_ix ix_seq ops_ix (ce_ix ix_seq ops_ix (ce_v 1) (ce_un un_neg uns_neg (ce_int)) (fun _ _ => rfl)) (ce_int) (fun _ _ => rfl)) (nomark _)) (css_one (cs_put (ce_tup (ca_cons (ce_ix ix_seq ops_ix (ce_ix ix_seq ops_ix (ce_v 1) (ce_un un_neg uns_neg (ce_int)) (fun _ _ => rfl)) (ce_int) (fun _ _ => rfl)) (ca_cons (ce_v 3) (ca_nil)))) (ce_v 1) (ce_un un_neg uns_neg (ce_int)) set_list puts_list)) (css_nil))))))
    (css_one (cs_ret (ce_callTy call_tuple_of fns_tuple (by rfl) X.b_tuple (by decide +kernel) (ca_cons (ce_v 1) (ca_nil)))))) :
      PSs _ _ (Ts _ _ _ b_make_dates))
noncomputable def wt_both_dates_1 : ME Bool := tAnd (tV (e2 dLt (eV 3) (eFn dLen (aCons (eV 0) (aNil))))) (tV (e2 dLt (eV 4) (eFn dLen (aCons (eV 1) (aNil)))))
noncomputable def bl_both_dates_2 : MS := sSeq (sSet 5 (eFn dMax2 (aCons (e2 dIx (e2 dIx (eV 0) (eV 3)) (eC (.int 0))) (aCons (e2 dIx (e2 dIx (eV 1) (eV 4)) (eC (.int 0))) (aNil)))))
  (sSeq (sSet 6 (eFn dMin2 (aCons (e2 dIx (e2 dIx (eV 0) (eV 3)) (eC (.int 1))) (aCons (e2 dIx (e2 dIx (eV 1) (eV 4)) (eC (.int 1))) (aNil)))))
  (sSeq (sIf (tV (e2 dLe (eV 5) (eV 6))) (sExpr (eMt "list" dAppend (eV 2) (aCons (eTup (aCons (eV 5) (aCons (eV 6) (aNil)))) (aNil)))) (sNil))
  (sIf (tV (e2 dLt (e2 dIx (e2 dIx (eV 0) (eV 3)) (eC (.int 1))) (e2 dIx (e2 dIx (eV 1) (eV 4)) (eC (.int 1))))) (sAug 3 dAddI (eC (.int 1))) (sAug 4 dAddI (eC (.int 1))))))
noncomputable def b_both_dates : MS := sSeq (sSet 2 (eLst (aNil)))
  (sSeq (sSet 3 (eC (.int 0)))
  (sSeq (sSet 4 (eC (.int 0)))
  (sSeq (sWhile (wt_both_dates_1) (bl_both_dates_2))
  (sRet (eFn dTuple (aCons (eV 2) (aNil)))))))
noncomputable def m_both_dates : List D → Store → R D := fnM 7 2 b_both_dates
theorem ok_both_dates (X : Fx K mg) : FnOk P w K mg base (L2.CX P w) 1 X.a_both_dates X.d_both_dates ["one", "other"] (spM K mg 2 m_both_dates) :=
  okM (k := 0) X.F_both_dates sc_both_dates rfl fun cdv A outer s H E hr tk =>
    (css_cons (cs_set (j := 2) sc_both_dates.nd rfl (Or.inl rfl) (ce_lst (ca_nil)))
    (css_cons (cs_set (j := 3) sc_both_dates.nd rfl (Or.inl rfl) (ce_int))
    (css_cons (cs_set (j := 4) sc_both_dates.nd rfl (Or.inl rfl) (ce_int))
    (css_cons (cs_while (passes_of rfl) (PW.pt (cw_and (ct_cmp opA_lt ops_lt (ce_v 3) (ce_callB call_len fns_len (by rfl) X.b_len (by decide +kernel) (ca_cons (ce_v 0) (ca_nil))) (nomark _)) (cw_and1 (ct_cmp opA_lt ops_lt (ce_v 4) (ce_callB call_len fns_len (by rfl) X.b_len (by decide +kernel) (ca_cons (ce_v 1) (ca_nil))) (nomark _))))) (css_cons (cs_set (j := 5) sc_both_dates.nd rfl (Or.inl rfl) (ce_callB (call_max2 rfl) fns_max2 (by rfl) X.b_max (by decide +kernel) (ca_cons (ce_ix ix_seq ops_ix (ce_ix ix_seq ops_ix (ce_v 0) (ce_v 3) (fun _ _ => rfl)) (ce_int) (fun _ _ => rfl)) (ca_cons (ce_ix ix_seq ops_ix (ce_ix ix_seq ops_ix (ce_v 1) (ce_v 4) (fun _ _ => rfl)) (ce_int) (fun _ _ => rfl)) (ca_nil)))))
    (css_cons (cs_set (j := 6) sc_both_dates.nd rfl (Or.inl rfl) (ce_callB (call_min2 rfl) fns_min2 (by rfl) X.b_min (by decide +kernel) (ca_cons (ce_ix ix_seq ops_ix (ce_ix ix_seq ops_ix (ce_v 0) (ce_v 3) (fun _ _ => rfl)) (ce_int) (fun _ _ => rfl)) (ca_cons (ce_ix ix_seq ops_ix (ce_ix ix_seq ops_ix (ce_v 1) (ce_v 4) (fun _ _ => rfl)) (ce_int) (fun _ _ => rfl)) (ca_nil)))))
    (css_cons (cs_if (ct_cmp opA_le ops_le (ce_v 5) (ce_v 6) (nomark _)) (css_one (cs_expr (ce_bm PySem.F.plainAttrs_list PySem.F.slot_list_append PySem.F.type_list_append mt_append mts_append (ce_v 2) (ca_cons (ce_tup (ca_cons (ce_v 5) (ca_cons (ce_v 6) (ca_nil)))) (ca_nil))))) (css_nil))
    (css_one (cs_if (ct_cmp opA_lt ops_lt (ce_ix ix_seq ops_ix (ce_ix ix_seq ops_ix (ce_v 0) (ce_v 3) (fun _ _ => rfl)) (ce_int) (fun _ _ => rfl)) (ce_ix ix_seq ops_ix (ce_ix ix_seq ops_ix (ce_v 1) (ce_v 4) (fun _ _ => rfl)) (ce_int) (fun _ _ => rfl)) (nomark _)) (css_one (cs_aug (j := 3) sc_both_dates.nd rfl (Or.inl rfl) (ce_int) ip_add ips_add)) (css_one (cs_aug (j := 4) sc_both_dates.nd rfl (Or.inl rfl) (ce_int) ip_add ips_add))))))))
    (css_one (cs_ret (ce_callTy call_tuple_of fns_tuple (by rfl) X.b_tuple (by decide +kernel) (ca_cons (ce_v 2) (ca_nil)))))))) :
      PSs _ _ (Ts _ _ _ b_both_dates))
noncomputable def bl_outside_dates_1 : MS := sSeq (sSet 7 (eFn dMin2 (aCons (e2 dSub (eV 5) (eC (.int 1))) (aCons (eV 1) (aNil)))))
  (sSeq (sIf (tV (e2 dLe (eV 4) (eV 7))) (sExpr (eMt "list" dAppend (eV 3) (aCons (eTup (aCons (eV 4) (aCons (eV 7) (aNil)))) (aNil)))) (sNil))
  (sSet 4 (eFn dMax2 (aCons (eV 4) (aCons (e2 dAdd (eV 6) (eC (.int 1))) (aNil))))))
noncomputable def b_outside_dates : MS := sSeq (sSet 3 (eLst (aNil)))
  (sSeq (sSet 4 (eV 0))
  (sSeq (sFor (iSeq (eV 2)) (gT 2 (gsC (gN 5) (gsC (gN 6) (gsN)))) (bl_outside_dates_1))
  (sSeq (sIf (tV (e2 dLe (eV 4) (eV 1))) (sExpr (eMt "list" dAppend (eV 3) (aCons (eTup (aCons (eV 4) (aCons (eV 1) (aNil)))) (aNil)))) (sNil))
  (sRet (eFn dTuple (aCons (eV 3) (aNil)))))))
noncomputable def m_outside_dates : List D → Store → R D := fnM 8 3 b_outside_dates
theorem ok_outside_dates (X : Fx K mg) : FnOk P w K mg base (L2.CX P w) 1 X.a_outside_dates X.d_outside_dates ["first", "last", "dates"] (spM K mg 3 m_outside_dates) :=
  okM (k := 0) X.F_outside_dates sc_outside_dates rfl fun cdv A outer s H E hr tk =>
    (css_cons (cs_set (j := 3) sc_outside_dates.nd rfl (Or.inl rfl) (ce_lst (ca_nil)))
    (css_cons (cs_set (j := 4) sc_outside_dates.nd rfl (Or.inl rfl) (ce_v 0))
    (css_cons (cs_for (passes_of rfl) rfl (ci_seq (ce_v 2)) (cg_tup (n := 2) rfl (cgs_cons (us := [5, 6]) (cg_name (i := 5) sc_outside_dates.nd rfl (by first | exact Or.inl rfl | exact Or.inr rfl)) (cgs_cons (us := [6]) (cg_name (i := 6) sc_outside_dates.nd rfl (by first | exact Or.inl rfl | exact Or.inr rfl)) (cgs_nil (vs := []))))) (css_cons (cs_set (j := 7) sc_outside_dates.nd rfl (Or.inl rfl) (ce_callB (call_min2 rfl) fns_min2 (by rfl) X.b_min (by decide +kernel) (ca_cons (ce_op op_sub ops_sub (ce_v 5) (ce_int)) (ca_cons (ce_v 1) (ca_nil)))))
    (css_cons (cs_if (ct_cmp opA_le ops_le (ce_v 4) (ce_v 7) (nomark _)) (css_one (cs_expr (ce_bm PySem.F.plainAttrs_list PySem.F.slot_list_append PySem.F.type_list_append mt_append mts_append (ce_v 3) (ca_cons (ce_tup (ca_cons (ce_v 4) (ca_cons (ce_v 7) (ca_nil)))) (ca_nil))))) (css_nil))
    (css_one (cs_set (j := 4) sc_outside_dates.nd rfl (Or.inl rfl) (ce_callB (call_max2 rfl) fns_max2 (by rfl) X.b_max (by decide +kernel) (ca_cons (ce_v 4) (ca_cons (ce_op op_addA ops_add (ce_v 6) (ce_int)) (ca_nil)))))))))
    (css_cons (cs_if (ct_cmp opA_le ops_le (ce_v 4) (ce_v 1) (nomark _)) (css_one (cs_expr (ce_bm PySem.F.plainAttrs_list PySem.F.slot_list_append PySem.F.type_list_append mt_append mts_append (ce_v 3) (ca_cons (ce_tup (ca_cons (ce_v 4) (ca_cons (ce_v 1) (ca_nil)))) (ca_nil))))) (css_nil))
    (css_one (cs_ret (ce_callTy call_tuple_of fns_tuple (by rfl) X.b_tuple (by decide +kernel) (ca_cons (ce_v 3) (ca_nil)))))))) :
      PSs _ _ (Ts _ _ _ b_outside_dates))
noncomputable def le_moved_dates_1 : ME D := eTup (aCons (e2 dAdd (eV 2) (eV 1)) (aCons (e2 dAdd (eV 3) (eV 1)) (aNil)))
noncomputable def b_moved_dates : MS := sRet (eFn dTuple (aCons (eLc (iSeq (eV 0)) [2, 3] (gT 2 (gsC (gN 2) (gsC (gN 3) (gsN)))) (tT) (le_moved_dates_1)) (aNil)))
noncomputable def m_moved_dates : List D → Store → R D := fnM 4 2 b_moved_dates
theorem ok_moved_dates (X : Fx K mg) : FnOk P w K mg base (L2.CX P w) 1 X.a_moved_dates X.d_moved_dates ["dates", "by"] (spM K mg 2 m_moved_dates) :=
  okM (k := 0) X.F_moved_dates sc_moved_dates rfl fun cdv A outer s H E hr tk =>
    (css_one (cs_ret (ce_callTy call_tuple_of fns_tuple (by rfl) X.b_tuple (by decide +kernel) (ca_cons (ce_lc (own := [("low", 2), ("high", 3)]) rfl sc_moved_dates.nd (ci_seq (ce_v 0)) (blkOk_by (N := ["dates", "by", "low", "high"]) (sc := defScope s_moved_dates) (by decide +kernel)) (fun _ _ _ _ _ => cg_tup (n := 2) rfl (cgs_cons (us := [2, 3]) (cg_name (i := 2) sc_moved_dates.nd rfl (by first | exact Or.inl rfl | exact Or.inr rfl)) (cgs_cons (us := [3]) (cg_name (i := 3) sc_moved_dates.nd rfl (by first | exact Or.inl rfl | exact Or.inr rfl)) (cgs_nil (vs := []))))) (fun _ _ _ _ _ => cts_nil) (fun _ _ _ _ _ => ce_tup (ca_cons (ce_op op_addA ops_add (ce_v 2) (ce_v 1)) (ca_cons (ce_op op_addA ops_add (ce_v 3) (ce_v 1)) (ca_nil))))) (ca_nil)))) :
      PSs _ _ (Ts _ _ _ b_moved_dates))
noncomputable def le_turned_dates_1 : ME D := eTup (aCons (e2 dSub (eV 3) (eV 5)) (aCons (e2 dSub (eV 3) (eV 4)) (aNil)))
noncomputable def b_turned_dates : MS := sSeq (sSet 3 (e2 dAdd (eV 0) (eV 1)))
  (sRet (eFn dTuple (aCons (eLc (iSeq (e1 dRev (eV 2))) [4, 5] (gT 2 (gsC (gN 4) (gsC (gN 5) (gsN)))) (tT) (le_turned_dates_1)) (aNil))))
noncomputable def m_turned_dates : List D → Store → R D := fnM 6 3 b_turned_dates
theorem ok_turned_dates (X : Fx K mg) : FnOk P w K mg base (L2.CX P w) 1 X.a_turned_dates X.d_turned_dates ["first", "last", "dates"] (spM K mg 3 m_turned_dates) :=
  okM (k := 0) X.F_turned_dates sc_turned_dates rfl fun cdv A outer s H E hr tk =>
    (css_cons (cs_set (j := 3) sc_turned_dates.nd rfl (Or.inr rfl) (ce_op op_addA ops_add (ce_v 0) (ce_v 1)))
    (css_one (cs_ret (ce_callTy call_tuple_of fns_tuple (by rfl) X.b_tuple (by decide +kernel) (ca_cons (ce_lc (own := [("low", 4), ("high", 5)]) rfl sc_turned_dates.nd (ci_seq (ce_back (ce_v 2))) (blkOk_by (N := ["first", "last", "dates", "total", "low", "high"]) (sc := defScope s_turned_dates) (by decide +kernel)) (fun _ _ _ _ _ => cg_tup (n := 2) rfl (cgs_cons (us := [4, 5]) (cg_name (i := 4) sc_turned_dates.nd rfl (by first | exact Or.inl rfl | exact Or.inr rfl)) (cgs_cons (us := [5]) (cg_name (i := 5) sc_turned_dates.nd rfl (by first | exact Or.inl rfl | exact Or.inr rfl)) (cgs_nil (vs := []))))) (fun _ _ _ _ _ => cts_nil) (fun _ _ _ _ _ => ce_tup (ca_cons (ce_op op_sub ops_sub (ce_v 3) (ce_v 5)) (ca_cons (ce_op op_sub ops_sub (ce_v 3) (ce_v 4)) (ca_nil))))) (ca_nil))))) :
      PSs _ _ (Ts _ _ _ b_turned_dates))
noncomputable def bl_d_law_pool_1 : MS := sSeq (sSet 4 (eFn dInt (aCons (eV 3) (aNil))))
  (sSeq (sIf (tV (e2 dLt (eV 4) (eC (.int 0)))) (sSet 4 (e2 dSub (eC (.int 7)) (e2 dMul (eC (.int 2)) (eV 4)))) (sNil))
  (sSeq (sSet 1 (e2 dMod (eFn dInt (aCons (e2 dAdd (e2 dAdd (e2 dMul (eV 1) (eC (.int 27437))) (e2 dMul (e2 dMod (eV 4) (eC (.int 1000033))) (eC (.int 13)))) (eC (.int 3))) (aNil))) (eC (.int 2147483587))))
  (sIf (tV (e2 dGe (eV 4) (e2 dPow (eC (.int 10)) (eC (.int 18))))) (sExpr (eMt "list" dAppend (eV 2) (aCons (eV 4) (aNil)))) (sNil))))
noncomputable def b_d_law_pool : MS := sSeq (sSet 1 (eC (.int 52361)))
  (sSeq (sSet 2 (eLst (aNil)))
  (sSeq (sFor (iSeq (eSl dSl (eV 0) (oNone) (oSome (eC (.int 63))))) (gN 3) (bl_d_law_pool_1))
  (sRet (e2 dAdd (eLst (aCons (eV 1) (aNil))) (eV 2)))))
noncomputable def m_d_law_pool : List D → Store → R D := fnM 5 1 b_d_law_pool
theorem ok_d_law_pool (X : Fx K mg) : FnOk P w K mg base (L2.CX P w) 1 X.a_d_law_pool X.d_d_law_pool ["script"] (spM K mg 1 m_d_law_pool) :=
  okM (k := 0) X.F_d_law_pool sc_d_law_pool rfl fun cdv A outer s H E hr tk =>
    (css_cons (cs_set (j := 1) sc_d_law_pool.nd rfl (Or.inl rfl) (ce_int))
    (css_cons (cs_set (j := 2) sc_d_law_pool.nd rfl (Or.inl rfl) (ce_lst (ca_nil)))
    (css_cons (cs_for (passes_of rfl) rfl (ci_seq (ce_sl sl_LT sls_LT (ce_v 0) (co_none) (co_some (ce_int)))) (cg_name (i := 3) sc_d_law_pool.nd rfl (by first | exact Or.inl rfl | exact Or.inr rfl)) (css_cons (cs_set (j := 4) sc_d_law_pool.nd rfl (Or.inl rfl) (ce_callTy call_int1 fns_int (by rfl) X.b_int (by decide +kernel) (ca_cons (ce_v 3) (ca_nil))))
    (css_cons (cs_if (ct_cmp opA_lt ops_lt (ce_v 4) (ce_int) (nomark _)) (css_one (cs_set (j := 4) sc_d_law_pool.nd rfl (Or.inl rfl) (ce_op op_sub ops_sub (ce_int) (ce_op op_mul ops_mul (ce_int) (ce_v 4))))) (css_nil))
    (css_cons (cs_set (j := 1) sc_d_law_pool.nd rfl (Or.inl rfl) (ce_op op_mod ops_mod (ce_callTy call_int1 fns_int (by rfl) X.b_int (by decide +kernel) (ca_cons (ce_op op_addA ops_add (ce_op op_addA ops_add (ce_op op_mul ops_mul (ce_v 1) (ce_int)) (ce_op op_mul ops_mul (ce_op op_mod ops_mod (ce_v 4) (ce_int)) (ce_int))) (ce_int)) (ca_nil))) (ce_int)))
    (css_one (cs_if (ct_cmp opA_ge ops_ge (ce_v 4) (ce_op op_pow ops_pow (ce_int) (ce_int)) (nomark _)) (css_one (cs_expr (ce_bm PySem.F.plainAttrs_list PySem.F.slot_list_append PySem.F.type_list_append mt_append mts_append (ce_v 2) (ca_cons (ce_v 4) (ca_nil))))) (css_nil)))))))
    (css_one (cs_ret (ce_op op_addA ops_add (ce_lst (ca_cons (ce_v 1) (ca_nil))) (ce_v 2)))))) :
      PSs _ _ (Ts _ _ _ b_d_law_pool))
noncomputable def b_d_law_draw : MS := sSeq (sIf (tV (e2 dGt (eFn dLen (aCons (eV 0) (aNil))) (eC (.int 1)))) (sSeq (sSet 2 (eMt0 "list" dPop (eV 0)))
  (sSeq (sIf (tV (e2 dGe (eV 2) (eV 1))) (sExpr (eMt "list" dAppend (eV 0) (aCons (e2 dDiv (eV 2) (eV 1)) (aNil)))) (sNil))
  (sRet (e2 dMod (eFn dInt (aCons (eV 2) (aNil))) (eV 1))))) (sNil))
  (sSeq (sPut pList (eV 0) (eC (.int 0)) (e2 dMod (eFn dInt (aCons (e2 dAdd (e2 dMul (e2 dIx (eV 0) (eC (.int 0))) (eC (.int 41358))) (eC (.int 4099))) (aNil))) (eC (.int 2147483587))))
  (sRet (e2 dMod (e2 dMod (eFn dInt (aCons (e2 dAdd (e2 dMul (e2 dDiv (e2 dIx (eV 0) (eC (.int 0))) (eC (.int 16))) (eC (.int 10037))) (e2 dIx (eV 0) (eC (.int 0)))) (aNil))) (eC (.int 1000000009))) (eV 1))))
noncomputable def m_d_law_draw : List D → Store → R D := fnM 3 2 b_d_law_draw
theorem ok_d_law_draw (X : Fx K mg) : FnOk P w K mg base (L2.CX P w) 1 X.a_d_law_draw X.d_d_law_draw ["pool", "many"] (spM K mg 2 m_d_law_draw) :=
  okM (k := 0) X.F_d_law_draw sc_d_law_draw rfl fun cdv A outer s H E hr tk =>
    (css_cons (cs_if (ct_cmp opA_gt ops_gt (ce_callB call_len fns_len (by rfl) X.b_len (by decide +kernel) (ca_cons (ce_v 0) (ca_nil))) (ce_int) (nomark _)) (css_cons (cs_set (j := 2) sc_d_law_draw.nd rfl (Or.inl rfl) (ce_bm0 PySem.F.plainAttrs_list PySem.F.slot_list_pop PySem.F.type_list_pop mt_pop mts_pop (ce_v 0)))
    (css_cons (cs_if (ct_cmp opA_ge ops_ge (ce_v 2) (ce_v 1) (nomark _)) (css_one (cs_expr (ce_bm PySem.F.plainAttrs_list PySem.F.slot_list_append PySem.F.type_list_append mt_append mts_append (ce_v 0) (ca_cons (ce_op op_fdiv ops_div (ce_v 2) (ce_v 1)) (ca_nil))))) (css_nil))
    (css_one (cs_ret (ce_op op_mod ops_mod (ce_callTy call_int1 fns_int (by rfl) X.b_int (by decide +kernel) (ca_cons (ce_v 2) (ca_nil))) (ce_v 1)))))) (css_nil))
    (css_cons (cs_put (ce_op op_mod ops_mod (ce_callTy call_int1 fns_int (by rfl) X.b_int (by decide +kernel) (ca_cons (ce_op op_addA ops_add (ce_op op_mul ops_mul (ce_ix ix_seq ops_ix (ce_v 0) (ce_int) (fun _ _ => rfl)) (ce_int)) (ce_int)) (ca_nil))) (ce_int)) (ce_v 0) (ce_int) set_list puts_list)
    (css_one (cs_ret (ce_op op_mod ops_mod (ce_op op_mod ops_mod (ce_callTy call_int1 fns_int (by rfl) X.b_int (by decide +kernel) (ca_cons (ce_op op_addA ops_add (ce_op op_mul ops_mul (ce_op op_fdiv ops_div (ce_ix ix_seq ops_ix (ce_v 0) (ce_int) (fun _ _ => rfl)) (ce_int)) (ce_int)) (ce_ix ix_seq ops_ix (ce_v 0) (ce_int) (fun _ _ => rfl))) (ca_nil))) (ce_int)) (ce_v 1))))) :
      PSs _ _ (Ts _ _ _ b_d_law_draw))
noncomputable def b_d_law_is_integer : MS := sRet (eAnd (e1 (dIsi "int") (eV 0)) (eNot (e1 (dIsi "bool") (eV 0))))
noncomputable def m_d_law_is_integer : List D → Store → R D := fnM 1 1 b_d_law_is_integer
theorem ok_d_law_is_integer (X : Fx K mg) : FnOk P w K mg base (L2.CX P w) 1 X.a_d_law_is_integer X.d_d_law_is_integer ["told"] (spM K mg 1 m_d_law_is_integer) :=
  okM (k := 0) X.F_d_law_is_integer sc_d_law_is_integer rfl fun cdv A outer s H E hr tk =>
    (css_one (cs_ret (ce_and (ce_isi (T := "int") (by rfl) X.b_isinstance (by rfl) X.b_int (by decide +kernel) (ce_v 0)) (ce_one (ce_not (ce_isi (T := "bool") (by rfl) X.b_isinstance (by rfl) X.b_bool (by decide +kernel) (ce_v 0)))))) :
      PSs _ _ (Ts _ _ _ b_d_law_is_integer))
noncomputable def bl_d_law_dates_1 : MS := sSeq (sSet 4 (e2 dIx (eV 0) (eV 3)))
  (sSeq (sIf (tAnd (tTru (e2 dIx (eV 1) (eV 3))) (tAnd (tV (e2 dGt (eV 3) (eC (.int 0)))) (tTru (e2 dIx (eV 1) (e2 dSub (eV 3) (eC (.int 1))))))) (sSet 4 (e2 dIx (eMt0 "list" dPop (eV 2)) (eC (.int 0)))) (sNil))
  (sIf (tTru (e2 dIx (eV 1) (eV 3))) (sExpr (eMt "list" dAppend (eV 2) (aCons (eTup (aCons (eV 4) (aCons (e2 dSub (e2 dIx (eV 0) (e2 dAdd (eV 3) (eC (.int 1)))) (eC (.int 1))) (aNil)))) (aNil)))) (sNil)))
noncomputable def b_d_law_dates : MS := sSeq (sSet 2 (eLst (aNil)))
  (sSeq (sFor (iRange1 (aCons (eFn dLen (aCons (eV 1) (aNil))) (aNil))) (gN 3) (bl_d_law_dates_1))
  (sRet (eFn dTuple (aCons (eV 2) (aNil)))))
noncomputable def m_d_law_dates : List D → Store → R D := fnM 5 2 b_d_law_dates
theorem ok_d_law_dates (X : Fx K mg) : FnOk P w K mg base (L2.CX P w) 1 X.a_d_law_dates X.d_d_law_dates ["cuts", "flags"] (spM K mg 2 m_d_law_dates) :=
  okM (k := 0) X.F_d_law_dates sc_d_law_dates rfl fun cdv A outer s H E hr tk =>
    (css_cons (cs_set (j := 2) sc_d_law_dates.nd rfl (Or.inl rfl) (ce_lst (ca_nil)))
    (css_cons (cs_for (passes_of rfl) rfl (ci_range1 (by rfl) X.b_range (ca_cons (ce_callB call_len fns_len (by rfl) X.b_len (by decide +kernel) (ca_cons (ce_v 1) (ca_nil))) (ca_nil))) (cg_name (i := 3) sc_d_law_dates.nd rfl (by first | exact Or.inl rfl | exact Or.inr rfl)) (css_cons (cs_set (j := 4) sc_d_law_dates.nd rfl (Or.inl rfl) (ce_ix ix_seq ops_ix (ce_v 0) (ce_v 3) (fun _ _ => rfl)))
    (css_cons (cs_if (PW.pt (cw_and (ct_tru (ce_ix ix_seq ops_ix (ce_v 1) (ce_v 3) (fun _ _ => rfl))) (cw_and (ct_cmp opA_gt ops_gt (ce_v 3) (ce_int) (nomark _)) (cw_and1 (ct_tru (ce_ix ix_seq ops_ix (ce_v 1) (ce_op op_sub ops_sub (ce_v 3) (ce_int)) (fun _ _ => rfl))))))) (css_one (cs_set (j := 4) sc_d_law_dates.nd rfl (Or.inl rfl) (ce_ix ix_seq ops_ix (ce_bm0 PySem.F.plainAttrs_list PySem.F.slot_list_pop PySem.F.type_list_pop mt_pop mts_pop (ce_v 2)) (ce_int) (fun _ _ => rfl)))) (css_nil))
    (css_one (cs_if (ct_tru (ce_ix ix_seq ops_ix (ce_v 1) (ce_v 3) (fun _ _ => rfl))) (css_one (cs_expr (ce_bm PySem.F.plainAttrs_list PySem.F.slot_list_append PySem.F.type_list_append mt_append mts_append (ce_v 2) (ca_cons (ce_tup (ca_cons (ce_v 4) (ca_cons (ce_op op_sub ops_sub (ce_ix ix_seq ops_ix (ce_v 0) (ce_op op_addA ops_add (ce_v 3) (ce_int)) (fun _ _ => rfl)) (ce_int)) (ca_nil)))) (ca_nil))))) (css_nil))))))
    (css_one (cs_ret (ce_callTy call_tuple_of fns_tuple (by rfl) X.b_tuple (by decide +kernel) (ca_cons (ce_v 2) (ca_nil)))))) :
      PSs _ _ (Ts _ _ _ b_d_law_dates))
noncomputable def bl_d_law_outside_1 : MS := sIf (tAnd (tV (e2 dGe (e2 dIx (eV 5) (eC (.int 1))) (eV 0))) (tV (e2 dLe (e2 dIx (eV 5) (eC (.int 0))) (eV 1)))) (sSeq (sIf (tV (e2 dGt (e2 dIx (eV 5) (eC (.int 0))) (eV 4))) (sExpr (eMt "list" dAppend (eV 3) (aCons (eTup (aCons (eV 4) (aCons (e2 dSub (e2 dIx (eV 5) (eC (.int 0))) (eC (.int 1))) (aNil)))) (aNil)))) (sNil))
  (sSet 4 (e2 dAdd (e2 dIx (eV 5) (eC (.int 1))) (eC (.int 1))))) (sNil)
noncomputable def b_d_law_outside : MS := sSeq (sSet 3 (eLst (aNil)))
  (sSeq (sSet 4 (eV 0))
  (sSeq (sFor (iSeq (eV 2)) (gN 5) (bl_d_law_outside_1))
  (sSeq (sIf (tV (e2 dLe (eV 4) (eV 1))) (sExpr (eMt "list" dAppend (eV 3) (aCons (eTup (aCons (eV 4) (aCons (eV 1) (aNil)))) (aNil)))) (sNil))
  (sRet (eFn dTuple (aCons (eV 3) (aNil)))))))
noncomputable def m_d_law_outside : List D → Store → R D := fnM 6 3 b_d_law_outside
theorem ok_d_law_outside (X : Fx K mg) : FnOk P w K mg base (L2.CX P w) 1 X.a_d_law_outside X.d_d_law_outside ["first", "last", "dates"] (spM K mg 3 m_d_law_outside) :=
  okM (k := 0) X.F_d_law_outside sc_d_law_outside rfl fun cdv A outer s H E hr tk =>
    (css_cons (cs_set (j := 3) sc_d_law_outside.nd rfl (Or.inl rfl) (ce_lst (ca_nil)))
    (css_cons (cs_set (j := 4) sc_d_law_outside.nd rfl (Or.inl rfl) (ce_v 0))
    (css_cons (cs_for (passes_of rfl) rfl (ci_seq (ce_v 2)) (cg_name (i := 5) sc_d_law_outside.nd rfl (by first | exact Or.inl rfl | exact Or.inr rfl)) (css_one (cs_if (PW.pt (cw_and (ct_cmp opA_ge ops_ge (ce_ix ix_seq ops_ix (ce_v 5) (ce_int) (fun _ _ => rfl)) (ce_v 0) (nomark _)) (cw_and1 (ct_cmp opA_le ops_le (ce_ix ix_seq ops_ix (ce_v 5) (ce_int) (fun _ _ => rfl)) (ce_v 1) (nomark _))))) (css_cons (cs_if (ct_cmp opA_gt ops_gt (ce_ix ix_seq ops_ix (ce_v 5) (ce_int) (fun _ _ => rfl)) (ce_v 4) (nomark _)) (css_one (cs_expr (ce_bm PySem.F.plainAttrs_list PySem.F.slot_list_append PySem.F.type_list_append mt_append mts_append (ce_v 3) (ca_cons (ce_tup (ca_cons (ce_v 4) (ca_cons (ce_op op_sub ops_sub (ce_ix ix_seq ops_ix (ce_v 5) (ce_int) (fun _ _ => rfl)) (ce_int)) (ca_nil)))) (ca_nil))))) (css_nil))
    (css_one (cs_set (j := 4) sc_d_law_outside.nd rfl (Or.inl rfl) (ce_op op_addA ops_add (ce_ix ix_seq ops_ix (ce_v 5) (ce_int) (fun _ _ => rfl)) (ce_int))))) (css_nil))))
    (css_cons (cs_if (ct_cmp opA_le ops_le (ce_v 4) (ce_v 1) (nomark _)) (css_one (cs_expr (ce_bm PySem.F.plainAttrs_list PySem.F.slot_list_append PySem.F.type_list_append mt_append mts_append (ce_v 3) (ca_cons (ce_tup (ca_cons (ce_v 4) (ca_cons (ce_v 1) (ca_nil)))) (ca_nil))))) (css_nil))
    (css_one (cs_ret (ce_callTy call_tuple_of fns_tuple (by rfl) X.b_tuple (by decide +kernel) (ca_cons (ce_v 3) (ca_nil)))))))) :
      PSs _ _ (Ts _ _ _ b_d_law_outside))
noncomputable def b_either_dates : MS := sRet (eCall m_make_dates (aCons (e2 dAdd (eV 0) (eV 1)) (aNil)))
noncomputable def m_either_dates : List D → Store → R D := fnM 2 2 b_either_dates
theorem ok_either_dates (X : Fx K mg) : FnOk P w K mg base (L2.CX P w) 2 X.a_either_dates X.d_either_dates ["one", "other"] (spM K mg 2 m_either_dates) :=
  okM (k := 1) X.F_either_dates sc_either_dates rfl fun cdv A outer s H E hr tk =>
    (css_one (cs_ret (ce_call (n := 1) (ok_make_dates X) (hr.mono (by decide)) tk (by rfl) X.g_make_dates X.F_make_dates.kp (bd_make_dates X) (an_cons an_nil) (ca_cons (ce_op op_addA ops_add (ce_v 0) (ce_v 1)) (ca_nil)))) :
      PSs _ _ (Ts _ _ _ b_either_dates))
noncomputable def b_d_law_often_end : MS := sSeq (sSet 2 (eCall m_d_law_draw (aCons (eV 0) (aCons (eC (.int 6)) (aNil)))))
  (sSeq (sIf (tV (e2 dEq (eV 2) (eC (.int 0)))) (sRet (eC (.int 0))) (sNil))
  (sSeq (sIf (tV (e2 dEq (eV 2) (eC (.int 1)))) (sRet (e2 dSub (eV 1) (eC (.int 1)))) (sNil))
  (sRet (eCall m_d_law_draw (aCons (eV 0) (aCons (eV 1) (aNil)))))))
noncomputable def m_d_law_often_end : List D → Store → R D := fnM 3 2 b_d_law_often_end
theorem ok_d_law_often_end (X : Fx K mg) : FnOk P w K mg base (L2.CX P w) 2 X.a_d_law_often_end X.d_d_law_often_end ["pool", "many"] (spM K mg 2 m_d_law_often_end) :=
  okM (k := 1) X.F_d_law_often_end sc_d_law_often_end rfl fun cdv A outer s H E hr tk =>
    (css_cons (cs_set (j := 2) sc_d_law_often_end.nd rfl (Or.inl rfl) (ce_call (n := 2) (ok_d_law_draw X) (hr.mono (by decide)) tk (by rfl) X.g_d_law_draw X.F_d_law_draw.kp (bd_d_law_draw X) (an_cons (an_cons an_nil)) (ca_cons (ce_v 0) (ca_cons (ce_int) (ca_nil)))))
    (css_cons (cs_if (ct_cmp (opA_eq hr.units) ops_eq (ce_v 2) (ce_int) (nomark _)) (css_one (cs_ret (ce_int))) (css_nil))
    (css_cons (cs_if (ct_cmp (opA_eq hr.units) ops_eq (ce_v 2) (ce_int) (nomark _)) (css_one (cs_ret (ce_op op_sub ops_sub (ce_v 1) (ce_int)))) (css_nil))
    (css_one (cs_ret (ce_call (n := 2) (ok_d_law_draw X) (hr.mono (by decide)) tk (by rfl) X.g_d_law_draw X.F_d_law_draw.kp (bd_d_law_draw X) (an_cons (an_cons an_nil)) (ca_cons (ce_v 0) (ca_cons (ce_v 1) (ca_nil)))))))) :
      PSs _ _ (Ts _ _ _ b_d_law_often_end))
noncomputable def bl_d_law_same_1 : MS := sSeq (sSet 3 (e2 dIx (eV 0) (eV 2)))
  (sSeq (sIf (tOr (tNot (tTru (e1 (dIsi "tuple") (eV 3)))) (tV (e2 dNe (eFn dLen (aCons (eV 3) (aNil))) (eC (.int 2))))) (sRet (eC (.bl false))) (sNil))
  (sSeq (sIf (tOr (tNot (tTru (eCall m_d_law_is_integer (aCons (e2 dIx (eV 3) (eC (.int 0))) (aNil))))) (tNot (tTru (eCall m_d_law_is_integer (aCons (e2 dIx (eV 3) (eC (.int 1))) (aNil)))))) (sRet (eC (.bl false))) (sNil))
  (sIf (tOr (tV (e2 dNe (e2 dIx (eV 3) (eC (.int 0))) (e2 dIx (e2 dIx (eV 1) (eV 2)) (eC (.int 0))))) (tV (e2 dNe (e2 dIx (eV 3) (eC (.int 1))) (e2 dIx (e2 dIx (eV 1) (eV 2)) (eC (.int 1)))))) (sRet (eC (.bl false))) (sNil))))
noncomputable def b_d_law_same : MS := sSeq (sIf (tOr (tNot (tTru (e1 (dIsi "tuple") (eV 0)))) (tV (e2 dNe (eFn dLen (aCons (eV 0) (aNil))) (eFn dLen (aCons (eV 1) (aNil)))))) (sRet (eC (.bl false))) (sNil))
  (sSeq (sFor (iRange1 (aCons (eFn dLen (aCons (eV 1) (aNil))) (aNil))) (gN 2) (bl_d_law_same_1))
  (sRet (eC (.bl true))))
noncomputable def m_d_law_same : List D → Store → R D := fnM 4 2 b_d_law_same
theorem ok_d_law_same (X : Fx K mg) : FnOk P w K mg base (L2.CX P w) 2 X.a_d_law_same X.d_d_law_same ["told", "due"] (spM K mg 2 m_d_law_same) :=
  okM (k := 1) X.F_d_law_same sc_d_law_same rfl fun cdv A outer s H E hr tk =>
    (css_cons (cs_if (PW.pt (cw_or (ct_not (ct_tru (ce_isi (T := "tuple") (by rfl) X.b_isinstance (by rfl) X.b_tuple (by decide +kernel) (ce_v 0)))) (cw_or1 (ct_cmp (opA_ne hr.units) ops_ne (ce_callB call_len fns_len (by rfl) X.b_len (by decide +kernel) (ca_cons (ce_v 0) (ca_nil))) (ce_callB call_len fns_len (by rfl) X.b_len (by decide +kernel) (ca_cons (ce_v 1) (ca_nil))) (nomark _))))) (css_one (cs_ret (ce_bl))) (css_nil))
    (css_cons (cs_for (passes_of rfl) rfl (ci_range1 (by rfl) X.b_range (ca_cons (ce_callB call_len fns_len (by rfl) X.b_len (by decide +kernel) (ca_cons (ce_v 1) (ca_nil))) (ca_nil))) (cg_name (i := 2) sc_d_law_same.nd rfl (by first | exact Or.inl rfl | exact Or.inr rfl)) (css_cons (cs_set (j := 3) sc_d_law_same.nd rfl (Or.inl rfl) (ce_ix ix_seq ops_ix (ce_v 0) (ce_v 2) (fun _ _ => rfl)))
    (css_cons (cs_if (PW.pt (cw_or (ct_not (ct_tru (ce_isi (T := "tuple") (by rfl) X.b_isinstance (by rfl) X.b_tuple (by decide +kernel) (ce_v 3)))) (cw_or1 (ct_cmp (opA_ne hr.units) ops_ne (ce_callB call_len fns_len (by rfl) X.b_len (by decide +kernel) (ca_cons (ce_v 3) (ca_nil))) (ce_int) (nomark _))))) (css_one (cs_ret (ce_bl))) (css_nil))
    (css_cons (cs_if (PW.pt (cw_or (ct_not (ct_tru (ce_call (n := 1) (ok_d_law_is_integer X) (hr.mono (by decide)) tk (by rfl) X.g_d_law_is_integer X.F_d_law_is_integer.kp (bd_d_law_is_integer X) (an_cons an_nil) (ca_cons (ce_ix ix_seq ops_ix (ce_v 3) (ce_int) (fun _ _ => rfl)) (ca_nil))))) (cw_or1 (ct_not (ct_tru (ce_call (n := 1) (ok_d_law_is_integer X) (hr.mono (by decide)) tk (by rfl) X.g_d_law_is_integer X.F_d_law_is_integer.kp (bd_d_law_is_integer X) (an_cons an_nil) (ca_cons (ce_ix ix_seq ops_ix (ce_v 3) (ce_int) (fun _ _ => rfl)) (ca_nil)))))))) (css_one (cs_ret (ce_bl))) (css_nil))
    (css_one (cs_if (PW.pt (cw_or (ct_cmp (opA_ne hr.units) ops_ne (ce_ix ix_seq ops_ix (ce_v 3) (ce_int) (fun _ _ => rfl)) (ce_ix ix_seq ops_ix (ce_ix ix_seq ops_ix (ce_v 1) (ce_v 2) (fun _ _ => rfl)) (ce_int) (fun _ _ => rfl)) (nomark _)) (cw_or1 (ct_cmp (opA_ne hr.units) ops_ne (ce_ix ix_seq ops_ix (ce_v 3) (ce_int) (fun _ _ => rfl)) (ce_ix ix_seq ops_ix (ce_ix ix_seq ops_ix (ce_v 1) (ce_v 2) (fun _ _ => rfl)) (ce_int) (fun _ _ => rfl)) (nomark _))))) (css_one (cs_ret (ce_bl))) (css_nil)))))))
    (css_one (cs_ret (ce_bl)))) :
      PSs _ _ (Ts _ _ _ b_d_law_same))
noncomputable def le_d_law_flags_1 : ME D := e2 dEq (eCall m_d_law_draw (aCons (eV 0) (aCons (eC (.int 2)) (aNil)))) (eC (.int 0))
noncomputable def le_d_law_flags_2 : ME D := e2 dEq (eCall m_d_law_draw (aCons (eV 0) (aCons (eC (.int 2)) (aNil)))) (eC (.int 0))
noncomputable def le_d_law_flags_3 : ME D := e2 dEq (e2 dMod (eV 4) (eC (.int 2))) (eC (.int 1))
noncomputable def le_d_law_flags_4 : ME D := e2 dEq (e2 dMod (eV 4) (eC (.int 2))) (eC (.int 0))
noncomputable def le_d_law_flags_5 : ME D := e2 dEq (e2 dMod (eV 4) (eC (.int 4))) (eC (.int 2))
noncomputable def le_d_law_flags_6 : ME D := e2 dEq (e2 dMod (eV 4) (eC (.int 4))) (eC (.int 0))
noncomputable def b_d_law_flags : MS := sSeq (sIf (tV (e2 dEq (eV 1) (eC (.int 0)))) (sRet (eLst (aCons (eLc (iRange1 (aCons (eV 2) (aNil))) [4] (gN 4) (tT) (le_d_law_flags_6)) (aCons (eLc (iRange1 (aCons (eV 2) (aNil))) [4] (gN 4) (tT) (le_d_law_flags_5)) (aNil))))) (sNil))
  (sSeq (sIf (tV (e2 dEq (eV 1) (eC (.int 1)))) (sRet (eLst (aCons (eLc (iRange1 (aCons (eV 2) (aNil))) [4] (gN 4) (tT) (le_d_law_flags_4)) (aCons (eLc (iRange1 (aCons (eV 2) (aNil))) [4] (gN 4) (tT) (le_d_law_flags_3)) (aNil))))) (sNil))
  (sSeq (sSet 3 (eLc (iRange1 (aCons (eV 2) (aNil))) [4] (gN 4) (tT) (le_d_law_flags_2)))
  (sSeq (sIf (tV (e2 dEq (eV 1) (eC (.int 2)))) (sRet (eLst (aCons (eV 3) (aCons (eFn dList (aCons (eV 3) (aNil))) (aNil))))) (sNil))
  (sRet (eLst (aCons (eV 3) (aCons (eLc (iRange1 (aCons (eV 2) (aNil))) [4] (gN 4) (tT) (le_d_law_flags_1)) (aNil))))))))
noncomputable def m_d_law_flags : List D → Store → R D := fnM 5 3 b_d_law_flags
theorem ok_d_law_flags (X : Fx K mg) : FnOk P w K mg base (L2.CX P w) 2 X.a_d_law_flags X.d_d_law_flags ["pool", "shape", "many"] (spM K mg 3 m_d_law_flags) :=
  okM (k := 1) X.F_d_law_flags sc_d_law_flags rfl fun cdv A outer s H E hr tk =>
    (css_cons (cs_if (ct_cmp (opA_eq hr.units) ops_eq (ce_v 1) (ce_int) (nomark _)) (css_one (cs_ret (ce_lst (ca_cons (ce_lc (own := [("place", 4)]) rfl sc_d_law_flags.nd (ci_range1 (by rfl) X.b_range (ca_cons (ce_v 2) (ca_nil))) (blkOk_by (N := ["pool", "shape", "many", "one", "place"]) (sc := defScope s_d_law_flags) (by decide +kernel)) (fun _ _ _ _ _ => cg_name (i := 4) sc_d_law_flags.nd rfl (by first | exact Or.inl rfl | exact Or.inr rfl)) (fun _ _ _ _ _ => cts_nil) (fun _ _ _ _ _ => ce_cmp (opA_eq hr.units) ops_eq (ce_op op_mod ops_mod (ce_v 4) (ce_int)) (ce_int) (nomark _))) (ca_cons (ce_lc (own := [("place", 4)]) rfl sc_d_law_flags.nd (ci_range1 (by rfl) X.b_range (ca_cons (ce_v 2) (ca_nil))) (blkOk_by (N := ["pool", "shape", "many", "one", "place"]) (sc := defScope s_d_law_flags) (by decide +kernel)) (fun _ _ _ _ _ => cg_name (i := 4) sc_d_law_flags.nd rfl (by first | exact Or.inl rfl | exact Or.inr rfl)) (fun _ _ _ _ _ => cts_nil) (fun _ _ _ _ _ => ce_cmp (opA_eq hr.units) ops_eq (ce_op op_mod ops_mod (ce_v 4) (ce_int)) (ce_int) (nomark _))) (ca_nil)))))) (css_nil))
    (css_cons (cs_if (ct_cmp (opA_eq hr.units) ops_eq (ce_v 1) (ce_int) (nomark _)) (css_one (cs_ret (ce_lst (ca_cons (ce_lc (own := [("place", 4)]) rfl sc_d_law_flags.nd (ci_range1 (by rfl) X.b_range (ca_cons (ce_v 2) (ca_nil))) (blkOk_by (N := ["pool", "shape", "many", "one", "place"]) (sc := defScope s_d_law_flags) (by decide +kernel)) (fun _ _ _ _ _ => cg_name (i := 4) sc_d_law_flags.nd rfl (by first | exact Or.inl rfl | exact Or.inr rfl)) (fun _ _ _ _ _ => cts_nil) (fun _ _ _ _ _ => ce_cmp (opA_eq hr.units) ops_eq (ce_op op_mod ops_mod (ce_v 4) (ce_int)) (ce_int) (nomark _))) (ca_cons (ce_lc (own := [("place", 4)]) rfl sc_d_law_flags.nd (ci_range1 (by rfl) X.b_range (ca_cons (ce_v 2) (ca_nil))) (blkOk_by (N := ["pool", "shape", "many", "one", "place"]) (sc := defScope s_d_law_flags) (by decide +kernel)) (fun _ _ _ _ _ => cg_name (i := 4) sc_d_law_flags.nd rfl (by first | exact Or.inl rfl | exact Or.inr rfl)) (fun _ _ _ _ _ => cts_nil) (fun _ _ _ _ _ => ce_cmp (opA_eq hr.units) ops_eq (ce_op op_mod ops_mod (ce_v 4) (ce_int)) (ce_int) (nomark _))) (ca_nil)))))) (css_nil))
    (css_cons (cs_setLc (i := 3) (own := [("place", 4)]) rfl sc_d_law_flags.nd rfl rfl (sw_true rfl rfl rfl (by decide +kernel)) (ci_range1 (by rfl) X.b_range (ca_cons (ce_v 2) (ca_nil))) (blkOk_by (N := ["pool", "shape", "many", "one", "place"]) (sc := defScope s_d_law_flags) (by decide +kernel)) (fun _ _ _ _ _ => cg_name (i := 4) sc_d_law_flags.nd rfl (by first | exact Or.inl rfl | exact Or.inr rfl)) (fun _ _ _ _ _ => cts_nil) (fun _ _ _ _ _ => ce_cmp (opA_eq hr.units) ops_eq (ce_call (n := 2) (ok_d_law_draw X) (hr.mono (by decide)) takes0 (by rfl) X.g_d_law_draw X.F_d_law_draw.kp (bd_d_law_draw X) (an_cons (an_cons an_nil)) (ca_cons (ce_v 0) (ca_cons (ce_int) (ca_nil)))) (ce_int) (nomark _)))
    (css_cons (cs_if (ct_cmp (opA_eq hr.units) ops_eq (ce_v 1) (ce_int) (nomark _)) (css_one (cs_ret (ce_lst (ca_cons (ce_v 3) (ca_cons (ce_callTy call_list_of fns_list (by rfl) X.b_list (by decide +kernel) (ca_cons (ce_v 3) (ca_nil))) (ca_nil)))))) (css_nil))
    (css_one (cs_ret (ce_lst (ca_cons (ce_v 3) (ca_cons (ce_lc (own := [("place", 4)]) rfl sc_d_law_flags.nd (ci_range1 (by rfl) X.b_range (ca_cons (ce_v 2) (ca_nil))) (blkOk_by (N := ["pool", "shape", "many", "one", "place"]) (sc := defScope s_d_law_flags) (by decide +kernel)) (fun _ _ _ _ _ => cg_name (i := 4) sc_d_law_flags.nd rfl (by first | exact Or.inl rfl | exact Or.inr rfl)) (fun _ _ _ _ _ => cts_nil) (fun _ _ _ _ _ => ce_cmp (opA_eq hr.units) ops_eq (ce_call (n := 2) (ok_d_law_draw X) (hr.mono (by decide)) takes0 (by rfl) X.g_d_law_draw X.F_d_law_draw.kp (bd_d_law_draw X) (an_cons (an_cons an_nil)) (ca_cons (ce_v 0) (ca_cons (ce_int) (ca_nil)))) (ce_int) (nomark _))) (ca_nil))))))))) :
      PSs _ _ (Ts _ _ _ b_d_law_flags))
noncomputable def bl_d_law_cuts_1 : MS := sExpr (eMt "list" dAppend (eV 4) (aCons (e2 dAdd (e2 dIx (eV 4) (e2 dSub (eFn dLen (aCons (eV 4) (aNil))) (eC (.int 1)))) (eV 5)) (aNil)))
noncomputable def le_d_law_cuts_2 : ME D := e2 dAdd (eC (.int 1)) (eCall m_d_law_often_end (aCons (eV 0) (aCons (eV 2) (aNil))))
noncomputable def b_d_law_cuts : MS := sSeq (sSet 2 (e2 dIx (eLst (aCons (eC (.int 1)) (aCons (eC (.int 1)) (aCons (eC (.int 4)) (aCons (eC (.int 400)) (aNil)))))) (eCall m_d_law_draw (aCons (eV 0) (aCons (eC (.int 4)) (aNil))))))
  (sSeq (sSet 3 (eLc (iRange1 (aCons (eV 1) (aNil))) [6] (gN 6) (tT) (le_d_law_cuts_2)))
  (sSeq (sSet 4 (eLst (aCons (e2 dAdd (e1 dNeg (eC (.int 9999))) (eCall m_d_law_often_end (aCons (eV 0) (aCons (e2 dSub (eC (.int 20000)) (eFn dSum (aCons (eV 3) (aNil)))) (aNil))))) (aNil))))
  (sSeq (sIf (tV (e2 dEq (eCall m_d_law_draw (aCons (eV 0) (aCons (eC (.int 3)) (aNil)))) (eC (.int 0)))) (sSeq (sSet 4 (eLst (aCons (e1 dNeg (eCall m_d_law_draw (aCons (eV 0) (aCons (eFn dMin2 (aCons (eC (.int 9999)) (aCons (e2 dAdd (eC (.int 1)) (eFn dSum (aCons (eV 3) (aNil)))) (aNil)))) (aNil))))) (aNil))))
  (sSet 4 (eLst (aCons (eFn dMin2 (aCons (e2 dIx (eV 4) (eC (.int 0))) (aCons (e2 dSub (eC (.int 10000)) (eFn dSum (aCons (eV 3) (aNil)))) (aNil)))) (aNil))))) (sNil))
  (sSeq (sFor (iSeq (eV 3)) (gN 5) (bl_d_law_cuts_1))
  (sRet (eV 4))))))
noncomputable def m_d_law_cuts : List D → Store → R D := fnM 7 2 b_d_law_cuts
theorem ok_d_law_cuts (X : Fx K mg) : FnOk P w K mg base (L2.CX P w) 3 X.a_d_law_cuts X.d_d_law_cuts ["pool", "many"] (spM K mg 2 m_d_law_cuts) :=
  okM (k := 2) X.F_d_law_cuts sc_d_law_cuts rfl fun cdv A outer s H E hr tk =>
    (css_cons (cs_set (j := 2) sc_d_law_cuts.nd rfl (Or.inr rfl) (ce_ix ix_seq ops_ix (ce_lst (ca_cons (ce_int) (ca_cons (ce_int) (ca_cons (ce_int) (ca_cons (ce_int) (ca_nil)))))) (ce_call (n := 2) (ok_d_law_draw X) (hr.mono (by decide)) tk (by rfl) X.g_d_law_draw X.F_d_law_draw.kp (bd_d_law_draw X) (an_cons (an_cons an_nil)) (ca_cons (ce_v 0) (ca_cons (ce_int) (ca_nil)))) (fun _ _ => rfl)))
    (css_cons (cs_setLc (i := 3) (own := [("place", 6)]) rfl sc_d_law_cuts.nd rfl rfl (sw_true rfl rfl rfl (by decide +kernel)) (ci_range1 (by rfl) X.b_range (ca_cons (ce_v 1) (ca_nil))) (blkOk_by (N := ["pool", "many", "wide", "sizes", "cuts", "size", "place"]) (sc := defScope s_d_law_cuts) (by decide +kernel)) (fun _ _ _ _ _ => cg_name (i := 6) sc_d_law_cuts.nd rfl (by first | exact Or.inl rfl | exact Or.inr rfl)) (fun _ _ _ _ _ => cts_nil) (fun _ _ _ _ _ => ce_op op_addA ops_add (ce_int) (ce_call (n := 2) (ok_d_law_often_end X) (hr.mono (by decide)) takes0 (by rfl) X.g_d_law_often_end X.F_d_law_often_end.kp (bd_d_law_often_end X) (an_cons (an_cons an_nil)) (ca_cons (ce_v 0) (ca_cons (ce_v 2) (ca_nil))))))
    (css_cons (cs_set (j := 4) sc_d_law_cuts.nd rfl (Or.inl rfl) (ce_lst (ca_cons (ce_op op_addA ops_add (ce_un un_neg uns_neg (ce_int)) (ce_call (n := 2) (ok_d_law_often_end X) (hr.mono (by decide)) tk (by rfl) X.g_d_law_often_end X.F_d_law_often_end.kp (bd_d_law_often_end X) (an_cons (an_cons an_nil)) (ca_cons (ce_v 0) (ca_cons (ce_op op_sub ops_sub (ce_int) (ce_callB (cr_sum rfl) fns_sum (by rfl) X.b_sum (by decide +kernel) (ca_cons (ce_v 3) (ca_nil)))) (ca_nil))))) (ca_nil))))
    (css_cons (cs_if (ct_cmp (opA_eq hr.units) ops_eq (ce_call (n := 2) (ok_d_law_draw X) (hr.mono (by decide)) tk (by rfl) X.g_d_law_draw X.F_d_law_draw.kp (bd_d_law_draw X) (an_cons (an_cons an_nil)) (ca_cons (ce_v 0) (ca_cons (ce_int) (ca_nil)))) (ce_int) (nomark _)) (css_cons (cs_set (j := 4) sc_d_law_cuts.nd rfl (Or.inl rfl) (ce_lst (ca_cons (ce_un un_neg uns_neg (ce_call (n := 2) (ok_d_law_draw X) (hr.mono (by decide)) tk (by rfl) X.g_d_law_draw X.F_d_law_draw.kp (bd_d_law_draw X) (an_cons (an_cons an_nil)) (ca_cons (ce_v 0) (ca_cons (ce_callB (call_min2 rfl) fns_min2 (by rfl) X.b_min (by decide +kernel) (ca_cons (ce_int) (ca_cons (ce_op op_addA ops_add (ce_int) (ce_callB (cr_sum rfl) fns_sum (by rfl) X.b_sum (by decide +kernel) (ca_cons (ce_v 3) (ca_nil)))) (ca_nil)))) (ca_nil))))) (ca_nil))))
    (css_one (cs_set (j := 4) sc_d_law_cuts.nd rfl (Or.inl rfl) (ce_lst (ca_cons (ce_callB (call_min2 rfl) fns_min2 (by rfl) X.b_min (by decide +kernel) (ca_cons (ce_ix ix_seq ops_ix (ce_v 4) (ce_int) (fun _ _ => rfl)) (ca_cons (ce_op op_sub ops_sub (ce_int) (ce_callB (cr_sum rfl) fns_sum (by rfl) X.b_sum (by decide +kernel) (ca_cons (ce_v 3) (ca_nil)))) (ca_nil)))) (ca_nil)))))) (css_nil))
    (css_cons (cs_for (passes_of rfl) rfl (ci_seq (ce_v 3)) (cg_name (i := 5) sc_d_law_cuts.nd rfl (by first | exact Or.inl rfl | exact Or.inr rfl)) (css_one (cs_expr (ce_bm PySem.F.plainAttrs_list PySem.F.slot_list_append PySem.F.type_list_append mt_append mts_append (ce_v 4) (ca_cons (ce_op op_addA ops_add (ce_ix ix_seq ops_ix (ce_v 4) (ce_op op_sub ops_sub (ce_callB call_len fns_len (by rfl) X.b_len (by decide +kernel) (ca_cons (ce_v 4) (ca_nil))) (ce_int)) (fun _ _ => rfl)) (ce_v 5)) (ca_nil))))))
    (css_one (cs_ret (ce_v 4))))))) :
      PSs _ _ (Ts _ _ _ b_d_law_cuts))
noncomputable def b_d_law_frame : MS := sSeq (sSet 2 (e2 dSub (e2 dAdd (e2 dIx (eV 1) (eCall m_d_law_often_end (aCons (eV 0) (aCons (eFn dLen (aCons (eV 1) (aNil))) (aNil))))) (eCall m_d_law_draw (aCons (eV 0) (aCons (eC (.int 4)) (aNil))))) (eC (.int 2))))
  (sSeq (sSet 3 (e2 dSub (e2 dAdd (e2 dIx (eV 1) (eCall m_d_law_often_end (aCons (eV 0) (aCons (eFn dLen (aCons (eV 1) (aNil))) (aNil))))) (eCall m_d_law_draw (aCons (eV 0) (aCons (eC (.int 4)) (aNil))))) (eC (.int 2))))
  (sSeq (sIf (tV (e2 dEq (eCall m_d_law_draw (aCons (eV 0) (aCons (eC (.int 4)) (aNil)))) (eC (.int 0)))) (sSeq (sSet 2 (e2 dSub (e2 dSub (e2 dIx (eV 1) (eC (.int 0))) (eC (.int 1))) (eCall m_d_law_draw (aCons (eV 0) (aCons (eC (.int 40)) (aNil))))))
  (sSet 3 (e2 dAdd (e2 dIx (eV 1) (e2 dSub (eFn dLen (aCons (eV 1) (aNil))) (eC (.int 1)))) (eCall m_d_law_draw (aCons (eV 0) (aCons (eC (.int 40)) (aNil))))))) (sNil))
  (sSeq (sSet 4 (eFn dMax2 (aCons (e1 dNeg (eC (.int 9999))) (aCons (eFn dMin3 (aCons (eV 2) (aCons (eV 3) (aCons (eC (.int 9999)) (aNil))))) (aNil)))))
  (sSeq (sSet 5 (eFn dMax2 (aCons (eV 4) (aCons (eFn dMin3 (aCons (eFn dMax2 (aCons (eV 2) (aCons (eV 3) (aNil)))) (aCons (eC (.int 9999)) (aCons (e2 dAdd (eV 4) (eC (.int 3000))) (aNil))))) (aNil)))))
  (sRet (eLst (aCons (eV 4) (aCons (eV 5) (aNil)))))))))
noncomputable def m_d_law_frame : List D → Store → R D := fnM 6 2 b_d_law_frame
theorem ok_d_law_frame (X : Fx K mg) : FnOk P w K mg base (L2.CX P w) 3 X.a_d_law_frame X.d_d_law_frame ["pool", "cuts"] (spM K mg 2 m_d_law_frame) :=
  okM (k := 2) X.F_d_law_frame sc_d_law_frame rfl fun cdv A outer s H E hr tk =>
    (css_cons (cs_set (j := 2) sc_d_law_frame.nd rfl (Or.inl rfl) (ce_op op_sub ops_sub (ce_op op_addA ops_add (ce_ix ix_seq ops_ix (ce_v 1) (ce_call (n := 2) (ok_d_law_often_end X) (hr.mono (by decide)) tk (by rfl) X.g_d_law_often_end X.F_d_law_often_end.kp (bd_d_law_often_end X) (an_cons (an_cons an_nil)) (ca_cons (ce_v 0) (ca_cons (ce_callB call_len fns_len (by rfl) X.b_len (by decide +kernel) (ca_cons (ce_v 1) (ca_nil))) (ca_nil)))) (fun _ _ => rfl)) (ce_call (n := 2) (ok_d_law_draw X) (hr.mono (by decide)) tk (by rfl) X.g_d_law_draw X.F_d_law_draw.kp (bd_d_law_draw X) (an_cons (an_cons an_nil)) (ca_cons (ce_v 0) (ca_cons (ce_int) (ca_nil))))) (ce_int)))
    (css_cons (cs_set (j := 3) sc_d_law_frame.nd rfl (Or.inl rfl) (ce_op op_sub ops_sub (ce_op op_addA ops_add (ce_ix ix_seq ops_ix (ce_v 1) (ce_call (n := 2) (ok_d_law_often_end X) (hr.mono (by decide)) tk (by rfl) X.g_d_law_often_end X.F_d_law_often_end.kp (bd_d_law_often_end X) (an_cons (an_cons an_nil)) (ca_cons (ce_v 0) (ca_cons (ce_callB call_len fns_len (by rfl) X.b_len (by decide +kernel) (ca_cons (ce_v 1) (ca_nil))) (ca_nil)))) (fun _ _ => rfl)) (ce_call (n := 2) (ok_d_law_draw X) (hr.mono (by decide)) tk (by rfl) X.g_d_law_draw X.F_d_law_draw.kp (bd_d_law_draw X) (an_cons (an_cons an_nil)) (ca_cons (ce_v 0) (ca_cons (ce_int) (ca_nil))))) (ce_int)))
    (css_cons (cs_if (ct_cmp (opA_eq hr.units) ops_eq (ce_call (n := 2) (ok_d_law_draw X) (hr.mono (by decide)) tk (by rfl) X.g_d_law_draw X.F_d_law_draw.kp (bd_d_law_draw X) (an_cons (an_cons an_nil)) (ca_cons (ce_v 0) (ca_cons (ce_int) (ca_nil)))) (ce_int) (nomark _)) (css_cons (cs_set (j := 2) sc_d_law_frame.nd rfl (Or.inl rfl) (ce_op op_sub ops_sub (ce_op op_sub ops_sub (ce_ix ix_seq ops_ix (ce_v 1) (ce_int) (fun _ _ => rfl)) (ce_int)) (ce_call (n := 2) (ok_d_law_draw X) (hr.mono (by decide)) tk (by rfl) X.g_d_law_draw X.F_d_law_draw.kp (bd_d_law_draw X) (an_cons (an_cons an_nil)) (ca_cons (ce_v 0) (ca_cons (ce_int) (ca_nil))))))
    (css_one (cs_set (j := 3) sc_d_law_frame.nd rfl (Or.inl rfl) (ce_op op_addA ops_add (ce_ix ix_seq ops_ix (ce_v 1) (ce_op op_sub ops_sub (ce_callB call_len fns_len (by rfl) X.b_len (by decide +kernel) (ca_cons (ce_v 1) (ca_nil))) (ce_int)) (fun _ _ => rfl)) (ce_call (n := 2) (ok_d_law_draw X) (hr.mono (by decide)) tk (by rfl) X.g_d_law_draw X.F_d_law_draw.kp (bd_d_law_draw X) (an_cons (an_cons an_nil)) (ca_cons (ce_v 0) (ca_cons (ce_int) (ca_nil)))))))) (css_nil))
    (css_cons (cs_set (j := 4) sc_d_law_frame.nd rfl (Or.inl rfl) (ce_callB (call_max2 rfl) fns_max2 (by rfl) X.b_max (by decide +kernel) (ca_cons (ce_un un_neg uns_neg (ce_int)) (ca_cons (ce_callB (call_min3Nu rfl) fns_min3 (by rfl) X.b_min (by decide +kernel) (ca_cons (ce_v 2) (ca_cons (ce_v 3) (ca_cons (ce_int) (ca_nil))))) (ca_nil)))))
    (css_cons (cs_set (j := 5) sc_d_law_frame.nd rfl (Or.inl rfl) (ce_callB (call_max2 rfl) fns_max2 (by rfl) X.b_max (by decide +kernel) (ca_cons (ce_v 4) (ca_cons (ce_callB (call_min3Nu rfl) fns_min3 (by rfl) X.b_min (by decide +kernel) (ca_cons (ce_callB (call_max2 rfl) fns_max2 (by rfl) X.b_max (by decide +kernel) (ca_cons (ce_v 2) (ca_cons (ce_v 3) (ca_nil)))) (ca_cons (ce_int) (ca_cons (ce_op op_addA ops_add (ce_v 4) (ce_int)) (ca_nil))))) (ca_nil)))))
    (css_one (cs_ret (ce_lst (ca_cons (ce_v 4) (ca_cons (ce_v 5) (ca_nil)))))))))) :
      PSs _ _ (Ts _ _ _ b_d_law_frame))
noncomputable def le_d_law_moves_1 : ME D := eTup (aCons (e2 dAdd (e2 dIx (eV 7) (eC (.int 0))) (eV 5)) (aCons (e2 dAdd (e2 dIx (eV 7) (eC (.int 1))) (eV 5)) (aNil)))
noncomputable def bl_d_law_moves_2 : MS := sSeq (sSet 5 (e2 dAdd (eV 2) (eCall m_d_law_often_end (aCons (eV 0) (aCons (e2 dAdd (e2 dSub (eV 3) (eV 2)) (eC (.int 1))) (aNil))))))
  (sSeq (sIf (tAnd (tV (e2 dEq (eV 4) (eC (.int 1)))) (tV (e2 dGt (e2 dSub (eV 3) (eV 2)) (eC (.int 8))))) (sSet 5 (eFn dMax2 (aCons (eV 2) (aCons (eFn dMin2 (aCons (eV 3) (aCons (e2 dSub (eCall m_d_law_draw (aCons (eV 0) (aCons (eC (.int 7)) (aNil)))) (eC (.int 3))) (aNil)))) (aNil))))) (sNil))
  (sSeq (sSet 6 (eLc (iSeq (eV 1)) [7] (gN 7) (tT) (le_d_law_moves_1)))
  (sIf (tNot (tTru (eCall m_d_law_same (aCons (eCall m_moved_dates (aCons (eV 1) (aCons (eV 5) (aNil)))) (aCons (eV 6) (aNil)))))) (sRet (eC (.bl false))) (sNil))))
noncomputable def b_d_law_moves : MS := sSeq (sSet 2 (e1 dNeg (eC (.int 9000))))
  (sSeq (sSet 3 (eC (.int 9000)))
  (sSeq (sIf (tV (e2 dNe (eV 1) (eTup (aNil)))) (sSeq (sSet 2 (e2 dSub (e1 dNeg (eC (.int 9999))) (e2 dIx (e2 dIx (eV 1) (eC (.int 0))) (eC (.int 0)))))
  (sSet 3 (e2 dSub (eC (.int 9999)) (e2 dIx (e2 dIx (eV 1) (e2 dSub (eFn dLen (aCons (eV 1) (aNil))) (eC (.int 1)))) (eC (.int 1)))))) (sNil))
  (sSeq (sFor (iRange1 (aCons (eC (.int 2)) (aNil))) (gN 4) (bl_d_law_moves_2))
  (sRet (eC (.bl true))))))
noncomputable def m_d_law_moves : List D → Store → R D := fnM 8 2 b_d_law_moves
theorem ok_d_law_moves (X : Fx K mg) : FnOk P w K mg base (L2.CX P w) 3 X.a_d_law_moves X.d_d_law_moves ["pool", "dates"] (spM K mg 2 m_d_law_moves) :=
  okM (k := 2) X.F_d_law_moves sc_d_law_moves rfl fun cdv A outer s H E hr tk =>
    (css_cons (cs_set (j := 2) sc_d_law_moves.nd rfl (Or.inl rfl) (ce_un un_neg uns_neg (ce_int)))
    (css_cons (cs_set (j := 3) sc_d_law_moves.nd rfl (Or.inl rfl) (ce_int))
    (css_cons (cs_if (ct_cmp (opA_ne hr.units) ops_ne (ce_v 1) (ce_tup (ca_nil)) (nomark _)) (css_cons (cs_set (j := 2) sc_d_law_moves.nd rfl (Or.inl rfl) (ce_op op_sub ops_sub (ce_un un_neg uns_neg (ce_int)) (ce_ix ix_seq ops_ix (ce_ix ix_seq ops_ix (ce_v 1) (ce_int) (fun _ _ => rfl)) (ce_int) (fun _ _ => rfl))))
    (css_one (cs_set (j := 3) sc_d_law_moves.nd rfl (Or.inl rfl) (ce_op op_sub ops_sub (ce_int) (ce_ix ix_seq ops_ix (ce_ix ix_seq ops_ix (ce_v 1) (ce_op op_sub ops_sub (ce_callB call_len fns_len (by rfl) X.b_len (by decide +kernel) (ca_cons (ce_v 1) (ca_nil))) (ce_int)) (fun _ _ => rfl)) (ce_int) (fun _ _ => rfl)))))) (css_nil))
    (css_cons (cs_for (passes_of rfl) rfl (ci_range1 (by rfl) X.b_range (ca_cons (ce_int) (ca_nil))) (cg_name (i := 4) sc_d_law_moves.nd rfl (by first | exact Or.inl rfl | exact Or.inr rfl)) (css_cons (cs_set (j := 5) sc_d_law_moves.nd rfl (Or.inr rfl) (ce_op op_addA ops_add (ce_v 2) (ce_call (n := 2) (ok_d_law_often_end X) (hr.mono (by decide)) tk (by rfl) X.g_d_law_often_end X.F_d_law_often_end.kp (bd_d_law_often_end X) (an_cons (an_cons an_nil)) (ca_cons (ce_v 0) (ca_cons (ce_op op_addA ops_add (ce_op op_sub ops_sub (ce_v 3) (ce_v 2)) (ce_int)) (ca_nil))))))
    (css_cons (cs_if (PW.pt (cw_and (ct_cmp (opA_eq hr.units) ops_eq (ce_v 4) (ce_int) (nomark _)) (cw_and1 (ct_cmp opA_gt ops_gt (ce_op op_sub ops_sub (ce_v 3) (ce_v 2)) (ce_int) (nomark _))))) (css_one (cs_set (j := 5) sc_d_law_moves.nd rfl (Or.inr rfl) (ce_callB (call_max2 rfl) fns_max2 (by rfl) X.b_max (by decide +kernel) (ca_cons (ce_v 2) (ca_cons (ce_callB (call_min2 rfl) fns_min2 (by rfl) X.b_min (by decide +kernel) (ca_cons (ce_v 3) (ca_cons (ce_op op_sub ops_sub (ce_call (n := 2) (ok_d_law_draw X) (hr.mono (by decide)) tk (by rfl) X.g_d_law_draw X.F_d_law_draw.kp (bd_d_law_draw X) (an_cons (an_cons an_nil)) (ca_cons (ce_v 0) (ca_cons (ce_int) (ca_nil)))) (ce_int)) (ca_nil)))) (ca_nil)))))) (css_nil))
    (css_cons (cs_setLc (i := 6) (own := [("pair", 7)]) rfl sc_d_law_moves.nd rfl rfl (sw_true rfl rfl rfl (by decide +kernel)) (ci_seq (ce_v 1)) (blkOk_by (N := ["pool", "dates", "low", "high", "lap", "by", "due", "pair"]) (sc := defScope s_d_law_moves) (by decide +kernel)) (fun _ _ _ _ _ => cg_name (i := 7) sc_d_law_moves.nd rfl (by first | exact Or.inl rfl | exact Or.inr rfl)) (fun _ _ _ _ _ => cts_nil) (fun _ _ _ _ _ => ce_tup (ca_cons (ce_op op_addA ops_add (ce_ix ix_seq ops_ix (ce_v 7) (ce_int) (fun _ _ => rfl)) (ce_v 5)) (ca_cons (ce_op op_addA ops_add (ce_ix ix_seq ops_ix (ce_v 7) (ce_int) (fun _ _ => rfl)) (ce_v 5)) (ca_nil)))))
    (css_one (cs_if (ct_not (ct_tru (ce_call (n := 2) (ok_d_law_same X) (hr.mono (by decide)) tk (by rfl) X.g_d_law_same X.F_d_law_same.kp (bd_d_law_same X) (an_cons (an_cons an_nil)) (ca_cons (ce_call (n := 2) (ok_moved_dates X) (hr.mono (by decide)) tk (by rfl) X.g_moved_dates X.F_moved_dates.kp (bd_moved_dates X) (an_cons (an_cons an_nil)) (ca_cons (ce_v 1) (ca_cons (ce_v 5) (ca_nil)))) (ca_cons (ce_v 6) (ca_nil)))))) (css_one (cs_ret (ce_bl))) (css_nil)))))))
    (css_one (cs_ret (ce_bl)))))) :
      PSs _ _ (Ts _ _ _ b_d_law_moves))
noncomputable def le_d_law_turns_1 : ME D := e2 dIx (eV 7) (e2 dSub (e2 dSub (eFn dLen (aCons (eV 7) (aNil))) (eC (.int 1))) (eV 9))
noncomputable def le_d_law_turns_2 : ME D := eTup (aCons (e2 dSub (eV 4) (e2 dIx (eV 8) (eC (.int 1)))) (aCons (e2 dSub (eV 4) (e2 dIx (eV 8) (eC (.int 0)))) (aNil)))
noncomputable def b_d_law_turns : MS := sSeq (sSet 2 (e1 dNeg (eC (.int 19998))))
  (sSeq (sSet 3 (eC (.int 19998)))
  (sSeq (sIf (tV (e2 dNe (eV 1) (eTup (aNil)))) (sSeq (sSet 2 (e2 dSub (e2 dIx (e2 dIx (eV 1) (e2 dSub (eFn dLen (aCons (eV 1) (aNil))) (eC (.int 1)))) (eC (.int 1))) (eC (.int 9999))))
  (sSet 3 (e2 dAdd (e2 dIx (e2 dIx (eV 1) (eC (.int 0))) (eC (.int 0))) (eC (.int 9999))))) (sNil))
  (sSeq (sSet 4 (e2 dAdd (eV 2) (eCall m_d_law_often_end (aCons (eV 0) (aCons (e2 dAdd (e2 dSub (eV 3) (eV 2)) (eC (.int 1))) (aNil))))))
  (sSeq (sIf (tAnd (tV (e2 dNe (eV 1) (eTup (aNil)))) (tV (e2 dEq (eCall m_d_law_draw (aCons (eV 0) (aCons (eC (.int 2)) (aNil)))) (eC (.int 0))))) (sSet 4 (eFn dMax2 (aCons (eV 2) (aCons (eFn dMin2 (aCons (eV 3) (aCons (e2 dSub (e2 dAdd (e2 dAdd (e2 dIx (e2 dIx (eV 1) (eC (.int 0))) (eC (.int 0))) (e2 dIx (e2 dIx (eV 1) (e2 dSub (eFn dLen (aCons (eV 1) (aNil))) (eC (.int 1)))) (eC (.int 1)))) (eCall m_d_law_draw (aCons (eV 0) (aCons (eC (.int 9)) (aNil))))) (eC (.int 4))) (aNil)))) (aNil))))) (sNil))
  (sSeq (sSet 5 (eCall m_d_law_often_end (aCons (eV 0) (aCons (e2 dAdd (eFn dMin2 (aCons (eC (.int 2999)) (aCons (e2 dSub (eC (.int 19998)) (eFn dAbs (aCons (eV 4) (aNil)))) (aNil)))) (eC (.int 1))) (aNil)))))
  (sSeq (sSet 6 (e2 dDiv (e2 dSub (eV 4) (eV 5)) (eC (.int 2))))
  (sSeq (sSet 7 (eLc (iSeq (eV 1)) [8] (gN 8) (tT) (le_d_law_turns_2)))
  (sSeq (sSet 7 (eLc (iRange1 (aCons (eFn dLen (aCons (eV 7) (aNil))) (aNil))) [9] (gN 9) (tT) (le_d_law_turns_1)))
  (sRet (eCall m_d_law_same (aCons (eCall m_turned_dates (aCons (eV 6) (aCons (e2 dSub (eV 4) (eV 6)) (aCons (eV 1) (aNil))))) (aCons (eV 7) (aNil)))))))))))))
noncomputable def m_d_law_turns : List D → Store → R D := fnM 10 2 b_d_law_turns
theorem ok_d_law_turns (X : Fx K mg) : FnOk P w K mg base (L2.CX P w) 3 X.a_d_law_turns X.d_d_law_turns ["pool", "dates"] (spM K mg 2 m_d_law_turns) :=
  okM (k := 2) X.F_d_law_turns sc_d_law_turns rfl fun cdv A outer s H E hr tk =>
    (css_cons (cs_set (j := 2) sc_d_law_turns.nd rfl (Or.inl rfl) (ce_un un_neg uns_neg (ce_int)))
    (css_cons (cs_set (j := 3) sc_d_law_turns.nd rfl (Or.inl rfl) (ce_int))
    (css_cons (cs_if (ct_cmp (opA_ne hr.units) ops_ne (ce_v 1) (ce_tup (ca_nil)) (nomark _)) (css_cons (cs_set (j := 2) sc_d_law_turns.nd rfl (Or.inl rfl) (ce_op op_sub ops_sub (ce_ix ix_seq ops_ix (ce_ix ix_seq ops_ix (ce_v 1) (ce_op op_sub ops_sub (ce_callB call_len fns_len (by rfl) X.b_len (by decide +kernel) (ca_cons (ce_v 1) (ca_nil))) (ce_int)) (fun _ _ => rfl)) (ce_int) (fun _ _ => rfl)) (ce_int)))
    (css_one (cs_set (j := 3) sc_d_law_turns.nd rfl (Or.inl rfl) (ce_op op_addA ops_add (ce_ix ix_seq ops_ix (ce_ix ix_seq ops_ix (ce_v 1) (ce_int) (fun _ _ => rfl)) (ce_int) (fun _ _ => rfl)) (ce_int))))) (css_nil))
    (css_cons (cs_set (j := 4) sc_d_law_turns.nd rfl (Or.inr rfl) (ce_op op_addA ops_add (ce_v 2) (ce_call (n := 2) (ok_d_law_often_end X) (hr.mono (by decide)) tk (by rfl) X.g_d_law_often_end X.F_d_law_often_end.kp (bd_d_law_often_end X) (an_cons (an_cons an_nil)) (ca_cons (ce_v 0) (ca_cons (ce_op op_addA ops_add (ce_op op_sub ops_sub (ce_v 3) (ce_v 2)) (ce_int)) (ca_nil))))))
    (css_cons (cs_if (PW.pt (cw_and (ct_cmp (opA_ne hr.units) ops_ne (ce_v 1) (ce_tup (ca_nil)) (nomark _)) (cw_and1 (ct_cmp (opA_eq hr.units) ops_eq (ce_call (n := 2) (ok_d_law_draw X) (hr.mono (by decide)) tk (by rfl) X.g_d_law_draw X.F_d_law_draw.kp (bd_d_law_draw X) (an_cons (an_cons an_nil)) (ca_cons (ce_v 0) (ca_cons (ce_int) (ca_nil)))) (ce_int) (nomark _))))) (css_one (cs_set (j := 4) sc_d_law_turns.nd rfl (Or.inr rfl) (ce_callB (call_max2 rfl) fns_max2 (by rfl) X.b_max (by decide +kernel) (ca_cons (ce_v 2) (ca_cons (ce_callB (call_min2 rfl) fns_min2 (by rfl) X.b_min (by decide +kernel) (ca_cons (ce_v 3) (ca_cons (ce_op op_sub ops_sub (ce_op op_addA ops_add (ce_op op_addA ops_add (ce_ix ix_seq ops_ix (ce_ix ix_seq ops_ix (ce_v 1) (ce_int) (fun _ _ => rfl)) (ce_int) (fun _ _ => rfl)) (ce_ix ix_seq ops_ix (ce_ix ix_seq ops_ix (ce_v 1) (ce_op op_sub ops_sub (ce_callB call_len fns_len (by rfl) X.b_len (by decide +kernel) (ca_cons (ce_v 1) (ca_nil))) (ce_int)) (fun _ _ => rfl)) (ce_int) (fun _ _ => rfl))) (ce_call (n := 2) (ok_d_law_draw X) (hr.mono (by decide)) tk (by rfl) X.g_d_law_draw X.F_d_law_draw.kp (bd_d_law_draw X) (an_cons (an_cons an_nil)) (ca_cons (ce_v 0) (ca_cons (ce_int) (ca_nil))))) (ce_int)) (ca_nil)))) (ca_nil)))))) (css_nil))
    (css_cons (cs_set (j := 5) sc_d_law_turns.nd rfl (Or.inl rfl) (ce_call (n := 2) (ok_d_law_often_end X) (hr.mono (by decide)) tk (by rfl) X.g_d_law_often_end X.F_d_law_often_end.kp (bd_d_law_often_end X) (an_cons (an_cons an_nil)) (ca_cons (ce_v 0) (ca_cons (ce_op op_addA ops_add (ce_callB (call_min2 rfl) fns_min2 (by rfl) X.b_min (by decide +kernel) (ca_cons (ce_int) (ca_cons (ce_op op_sub ops_sub (ce_int) (ce_callB call_abs fns_abs (by rfl) X.b_abs (by decide +kernel) (ca_cons (ce_v 4) (ca_nil)))) (ca_nil)))) (ce_int)) (ca_nil)))))
    (css_cons (cs_set (j := 6) sc_d_law_turns.nd rfl (Or.inl rfl) (ce_op op_fdiv ops_div (ce_op op_sub ops_sub (ce_v 4) (ce_v 5)) (ce_int)))
    (css_cons (cs_set (j := 7) sc_d_law_turns.nd rfl (Or.inr rfl) (ce_lc (own := [("pair", 8)]) rfl sc_d_law_turns.nd (ci_seq (ce_v 1)) (blkOk_by (N := ["pool", "dates", "low", "high", "both", "apart", "first", "due", "pair", "place"]) (sc := defScope s_d_law_turns) (by decide +kernel)) (fun _ _ _ _ _ => cg_name (i := 8) sc_d_law_turns.nd rfl (by first | exact Or.inl rfl | exact Or.inr rfl)) (fun _ _ _ _ _ => cts_nil) (fun _ _ _ _ _ => ce_tup (ca_cons (ce_op op_sub ops_sub (ce_v 4) (ce_ix ix_seq ops_ix (ce_v 8) (ce_int) (fun _ _ => rfl))) (ca_cons (ce_op op_sub ops_sub (ce_v 4) (ce_ix ix_seq ops_ix (ce_v 8) (ce_int) (fun _ _ => rfl))) (ca_nil))))))
    (css_cons (cs_set (j := 7) sc_d_law_turns.nd rfl (Or.inr rfl) (ce_lc (own := [("place", 9)]) rfl sc_d_law_turns.nd (ci_range1 (by rfl) X.b_range (ca_cons (ce_callB call_len fns_len (by rfl) X.b_len (by decide +kernel) (ca_cons (ce_v 7) (ca_nil))) (ca_nil))) (blkOk_by (N := ["pool", "dates", "low", "high", "both", "apart", "first", "due", "pair", "place"]) (sc := defScope s_d_law_turns) (by decide +kernel)) (fun _ _ _ _ _ => cg_name (i := 9) sc_d_law_turns.nd rfl (by first | exact Or.inl rfl | exact Or.inr rfl)) (fun _ _ _ _ _ => cts_nil) (fun _ _ _ _ _ => ce_ix ix_seq ops_ix (ce_v 7) (ce_op op_sub ops_sub (ce_op op_sub ops_sub (ce_callB call_len fns_len (by rfl) X.b_len (by decide +kernel) (ca_cons (ce_v 7) (ca_nil))) (ce_int)) (ce_v 9)) (fun _ _ => rfl))))
    (css_one (cs_ret (ce_call (n := 2) (ok_d_law_same X) (hr.mono (by decide)) tk (by rfl) X.g_d_law_same X.F_d_law_same.kp (bd_d_law_same X) (an_cons (an_cons an_nil)) (ca_cons (ce_call (n := 3) (ok_turned_dates X) (hr.mono (by decide)) tk (by rfl) X.g_turned_dates X.F_turned_dates.kp (bd_turned_dates X) (an_cons (an_cons (an_cons an_nil))) (ca_cons (ce_v 6) (ca_cons (ce_op op_sub ops_sub (ce_v 4) (ce_v 6)) (ca_cons (ce_v 1) (ca_nil))))) (ca_cons (ce_v 7) (ca_nil)))))))))))))) :
      PSs _ _ (Ts _ _ _ b_d_law_turns))
noncomputable def b_d_law_joins : MS := sSeq (sIf (tOr (tNot (tTru (eCall m_d_law_same (aCons (eCall m_both_dates (aCons (eV 0) (aCons (eV 1) (aNil)))) (aCons (eV 2) (aNil)))))) (tNot (tTru (eCall m_d_law_same (aCons (eCall m_both_dates (aCons (eV 1) (aCons (eV 0) (aNil)))) (aCons (eV 2) (aNil))))))) (sRet (eC (.bl false))) (sNil))
  (sSeq (sIf (tOr (tNot (tTru (eCall m_d_law_same (aCons (eCall m_either_dates (aCons (eV 0) (aCons (eV 1) (aNil)))) (aCons (eV 3) (aNil)))))) (tNot (tTru (eCall m_d_law_same (aCons (eCall m_either_dates (aCons (eV 1) (aCons (eV 0) (aNil)))) (aCons (eV 3) (aNil))))))) (sRet (eC (.bl false))) (sNil))
  (sSeq (sIf (tOr (tNot (tTru (eCall m_d_law_same (aCons (eCall m_both_dates (aCons (eV 0) (aCons (eV 0) (aNil)))) (aCons (eV 0) (aNil)))))) (tNot (tTru (eCall m_d_law_same (aCons (eCall m_either_dates (aCons (eV 0) (aCons (eV 0) (aNil)))) (aCons (eV 0) (aNil))))))) (sRet (eC (.bl false))) (sNil))
  (sSeq (sIf (tOr (tNot (tTru (eCall m_d_law_same (aCons (eCall m_both_dates (aCons (eV 0) (aCons (eTup (aNil)) (aNil)))) (aCons (eTup (aNil)) (aNil)))))) (tNot (tTru (eCall m_d_law_same (aCons (eCall m_both_dates (aCons (eTup (aNil)) (aCons (eV 0) (aNil)))) (aCons (eTup (aNil)) (aNil))))))) (sRet (eC (.bl false))) (sNil))
  (sRet (eAnd (eCall m_d_law_same (aCons (eCall m_either_dates (aCons (eV 0) (aCons (eTup (aNil)) (aNil)))) (aCons (eV 0) (aNil)))) (eCall m_d_law_same (aCons (eCall m_either_dates (aCons (eTup (aNil)) (aCons (eV 0) (aNil)))) (aCons (eV 0) (aNil)))))))))
noncomputable def m_d_law_joins : List D → Store → R D := fnM 4 4 b_d_law_joins
theorem ok_d_law_joins (X : Fx K mg) : FnOk P w K mg base (L2.CX P w) 3 X.a_d_law_joins X.d_d_law_joins ["one", "other", "both", "either"] (spM K mg 4 m_d_law_joins) :=
  okM (k := 2) X.F_d_law_joins sc_d_law_joins rfl fun cdv A outer s H E hr tk =>
    (css_cons (cs_if (PW.pt (cw_or (ct_not (ct_tru (ce_call (n := 2) (ok_d_law_same X) (hr.mono (by decide)) tk (by rfl) X.g_d_law_same X.F_d_law_same.kp (bd_d_law_same X) (an_cons (an_cons an_nil)) (ca_cons (ce_call (n := 2) (ok_both_dates X) (hr.mono (by decide)) tk (by rfl) X.g_both_dates X.F_both_dates.kp (bd_both_dates X) (an_cons (an_cons an_nil)) (ca_cons (ce_v 0) (ca_cons (ce_v 1) (ca_nil)))) (ca_cons (ce_v 2) (ca_nil)))))) (cw_or1 (ct_not (ct_tru (ce_call (n := 2) (ok_d_law_same X) (hr.mono (by decide)) tk (by rfl) X.g_d_law_same X.F_d_law_same.kp (bd_d_law_same X) (an_cons (an_cons an_nil)) (ca_cons (ce_call (n := 2) (ok_both_dates X) (hr.mono (by decide)) tk (by rfl) X.g_both_dates X.F_both_dates.kp (bd_both_dates X) (an_cons (an_cons an_nil)) (ca_cons (ce_v 1) (ca_cons (ce_v 0) (ca_nil)))) (ca_cons (ce_v 2) (ca_nil))))))))) (css_one (cs_ret (ce_bl))) (css_nil))
    (css_cons (cs_if (PW.pt (cw_or (ct_not (ct_tru (ce_call (n := 2) (ok_d_law_same X) (hr.mono (by decide)) tk (by rfl) X.g_d_law_same X.F_d_law_same.kp (bd_d_law_same X) (an_cons (an_cons an_nil)) (ca_cons (ce_call (n := 2) (ok_either_dates X) (hr.mono (by decide)) tk (by rfl) X.g_either_dates X.F_either_dates.kp (bd_either_dates X) (an_cons (an_cons an_nil)) (ca_cons (ce_v 0) (ca_cons (ce_v 1) (ca_nil)))) (ca_cons (ce_v 3) (ca_nil)))))) (cw_or1 (ct_not (ct_tru (ce_call (n := 2) (ok_d_law_same X) (hr.mono (by decide)) tk (by rfl) X.g_d_law_same X.F_d_law_same.kp (bd_d_law_same X) (an_cons (an_cons an_nil)) (ca_cons (ce_call (n := 2) (ok_either_dates X) (hr.mono (by decide)) tk (by rfl) X.g_either_dates X.F_either_dates.kp (bd_either_dates X) (an_cons (an_cons an_nil)) (ca_cons (ce_v 1) (ca_cons (ce_v 0) (ca_nil)))) (ca_cons (ce_v 3) (ca_nil))))))))) (css_one (cs_ret (ce_bl))) (css_nil))
    (css_cons (cs_if (PW.pt (cw_or (ct_not (ct_tru (ce_call (n := 2) (ok_d_law_same X) (hr.mono (by decide)) tk (by rfl) X.g_d_law_same X.F_d_law_same.kp (bd_d_law_same X) (an_cons (an_cons an_nil)) (ca_cons (ce_call (n := 2) (ok_both_dates X) (hr.mono (by decide)) tk (by rfl) X.g_both_dates X.F_both_dates.kp (bd_both_dates X) (an_cons (an_cons an_nil)) (ca_cons (ce_v 0) (ca_cons (ce_v 0) (ca_nil)))) (ca_cons (ce_v 0) (ca_nil)))))) (cw_or1 (ct_not (ct_tru (ce_call (n := 2) (ok_d_law_same X) (hr.mono (by decide)) tk (by rfl) X.g_d_law_same X.F_d_law_same.kp (bd_d_law_same X) (an_cons (an_cons an_nil)) (ca_cons (ce_call (n := 2) (ok_either_dates X) (hr.mono (by decide)) tk (by rfl) X.g_either_dates X.F_either_dates.kp (bd_either_dates X) (an_cons (an_cons an_nil)) (ca_cons (ce_v 0) (ca_cons (ce_v 0) (ca_nil)))) (ca_cons (ce_v 0) (ca_nil))))))))) (css_one (cs_ret (ce_bl))) (css_nil))
    (css_cons (cs_if (PW.pt (cw_or (ct_not (ct_tru (ce_call (n := 2) (ok_d_law_same X) (hr.mono (by decide)) tk (by rfl) X.g_d_law_same X.F_d_law_same.kp (bd_d_law_same X) (an_cons (an_cons an_nil)) (ca_cons (ce_call (n := 2) (ok_both_dates X) (hr.mono (by decide)) tk (by rfl) X.g_both_dates X.F_both_dates.kp (bd_both_dates X) (an_cons (an_cons an_nil)) (ca_cons (ce_v 0) (ca_cons (ce_tup (ca_nil)) (ca_nil)))) (ca_cons (ce_tup (ca_nil)) (ca_nil)))))) (cw_or1 (ct_not (ct_tru (ce_call (n := 2) (ok_d_law_same X) (hr.mono (by decide)) tk (by rfl) X.g_d_law_same X.F_d_law_same.kp (bd_d_law_same X) (an_cons (an_cons an_nil)) (ca_cons (ce_call (n := 2) (ok_both_dates X) (hr.mono (by decide)) tk (by rfl) X.g_both_dates X.F_both_dates.kp (bd_both_dates X) (an_cons (an_cons an_nil)) (ca_cons (ce_tup (ca_nil)) (ca_cons (ce_v 0) (ca_nil)))) (ca_cons (ce_tup (ca_nil)) (ca_nil))))))))) (css_one (cs_ret (ce_bl))) (css_nil))
    (css_one (cs_ret (ce_and (ce_call (n := 2) (ok_d_law_same X) (hr.mono (by decide)) tk (by rfl) X.g_d_law_same X.F_d_law_same.kp (bd_d_law_same X) (an_cons (an_cons an_nil)) (ca_cons (ce_call (n := 2) (ok_either_dates X) (hr.mono (by decide)) tk (by rfl) X.g_either_dates X.F_either_dates.kp (bd_either_dates X) (an_cons (an_cons an_nil)) (ca_cons (ce_v 0) (ca_cons (ce_tup (ca_nil)) (ca_nil)))) (ca_cons (ce_v 0) (ca_nil)))) (ce_one (ce_call (n := 2) (ok_d_law_same X) (hr.mono (by decide)) tk (by rfl) X.g_d_law_same X.F_d_law_same.kp (bd_d_law_same X) (an_cons (an_cons an_nil)) (ca_cons (ce_call (n := 2) (ok_either_dates X) (hr.mono (by decide)) tk (by rfl) X.g_either_dates X.F_either_dates.kp (bd_either_dates X) (an_cons (an_cons an_nil)) (ca_cons (ce_tup (ca_nil)) (ca_cons (ce_v 0) (ca_nil)))) (ca_cons (ce_v 0) (ca_nil))))))))))) :
      PSs _ _ (Ts _ _ _ b_d_law_joins))
noncomputable def b_d_law_near : MS := sSeq (sSet 1 (e2 dAdd (e1 dNeg (eC (.int 9999))) (eCall m_d_law_often_end (aCons (eV 0) (aCons (eC (.int 19990)) (aNil))))))
  (sSeq (sSet 2 (eTup (aCons (eTup (aCons (eV 1) (aCons (e2 dAdd (eV 1) (eC (.int 2))) (aNil)))) (aNil))))
  (sSeq (sIf (tNot (tTru (eCall m_d_law_same (aCons (eCall m_both_dates (aCons (eV 2) (aCons (eTup (aCons (eTup (aCons (e2 dAdd (eV 1) (eC (.int 2))) (aCons (e2 dAdd (eV 1) (eC (.int 5))) (aNil)))) (aNil))) (aNil)))) (aCons (eTup (aCons (eTup (aCons (e2 dAdd (eV 1) (eC (.int 2))) (aCons (e2 dAdd (eV 1) (eC (.int 2))) (aNil)))) (aNil))) (aNil)))))) (sRet (eC (.bl false))) (sNil))
  (sSeq (sIf (tNot (tTru (eCall m_d_law_same (aCons (eCall m_both_dates (aCons (eV 2) (aCons (eTup (aCons (eTup (aCons (e2 dAdd (eV 1) (eC (.int 3))) (aCons (e2 dAdd (eV 1) (eC (.int 5))) (aNil)))) (aNil))) (aNil)))) (aCons (eTup (aNil)) (aNil)))))) (sRet (eC (.bl false))) (sNil))
  (sSeq (sIf (tNot (tTru (eCall m_d_law_same (aCons (eCall m_either_dates (aCons (eTup (aCons (eTup (aCons (e2 dAdd (eV 1) (eC (.int 3))) (aCons (e2 dAdd (eV 1) (eC (.int 5))) (aNil)))) (aNil))) (aCons (eV 2) (aNil)))) (aCons (eTup (aCons (eTup (aCons (eV 1) (aCons (e2 dAdd (eV 1) (eC (.int 5))) (aNil)))) (aNil))) (aNil)))))) (sRet (eC (.bl false))) (sNil))
  (sRet (eCall m_d_law_same (aCons (eCall m_either_dates (aCons (eTup (aCons (eTup (aCons (e2 dAdd (eV 1) (eC (.int 4))) (aCons (e2 dAdd (eV 1) (eC (.int 5))) (aNil)))) (aNil))) (aCons (eV 2) (aNil)))) (aCons (eTup (aCons (eTup (aCons (eV 1) (aCons (e2 dAdd (eV 1) (eC (.int 2))) (aNil)))) (aCons (eTup (aCons (e2 dAdd (eV 1) (eC (.int 4))) (aCons (e2 dAdd (eV 1) (eC (.int 5))) (aNil)))) (aNil)))) (aNil)))))))))
noncomputable def m_d_law_near : List D → Store → R D := fnM 3 1 b_d_law_near
theorem ok_d_law_near (X : Fx K mg) : FnOk P w K mg base (L2.CX P w) 3 X.a_d_law_near X.d_d_law_near ["pool"] (spM K mg 1 m_d_law_near) :=
  okM (k := 2) X.F_d_law_near sc_d_law_near rfl fun cdv A outer s H E hr tk =>
    (css_cons (cs_set (j := 1) sc_d_law_near.nd rfl (Or.inl rfl) (ce_op op_addA ops_add (ce_un un_neg uns_neg (ce_int)) (ce_call (n := 2) (ok_d_law_often_end X) (hr.mono (by decide)) tk (by rfl) X.g_d_law_often_end X.F_d_law_often_end.kp (bd_d_law_often_end X) (an_cons (an_cons an_nil)) (ca_cons (ce_v 0) (ca_cons (ce_int) (ca_nil))))))
    (css_cons (cs_set (j := 2) sc_d_law_near.nd rfl (Or.inl rfl) (ce_tup (ca_cons (ce_tup (ca_cons (ce_v 1) (ca_cons (ce_op op_addA ops_add (ce_v 1) (ce_int)) (ca_nil)))) (ca_nil))))
    (css_cons (cs_if (ct_not (ct_tru (ce_call (n := 2) (ok_d_law_same X) (hr.mono (by decide)) tk (by rfl) X.g_d_law_same X.F_d_law_same.kp (bd_d_law_same X) (an_cons (an_cons an_nil)) (ca_cons (ce_call (n := 2) (ok_both_dates X) (hr.mono (by decide)) tk (by rfl) X.g_both_dates X.F_both_dates.kp (bd_both_dates X) (an_cons (an_cons an_nil)) (ca_cons (ce_v 2) (ca_cons (ce_tup (ca_cons (ce_tup (ca_cons (ce_op op_addA ops_add (ce_v 1) (ce_int)) (ca_cons (ce_op op_addA ops_add (ce_v 1) (ce_int)) (ca_nil)))) (ca_nil))) (ca_nil)))) (ca_cons (ce_tup (ca_cons (ce_tup (ca_cons (ce_op op_addA ops_add (ce_v 1) (ce_int)) (ca_cons (ce_op op_addA ops_add (ce_v 1) (ce_int)) (ca_nil)))) (ca_nil))) (ca_nil)))))) (css_one (cs_ret (ce_bl))) (css_nil))
    (css_cons (cs_if (ct_not (ct_tru (ce_call (n := 2) (ok_d_law_same X) (hr.mono (by decide)) tk (by rfl) X.g_d_law_same X.F_d_law_same.kp (bd_d_law_same X) (an_cons (an_cons an_nil)) (ca_cons (ce_call (n := 2) (ok_both_dates X) (hr.mono (by decide)) tk (by rfl) X.g_both_dates X.F_both_dates.kp (bd_both_dates X) (an_cons (an_cons an_nil)) (ca_cons (ce_v 2) (ca_cons (ce_tup (ca_cons (ce_tup (ca_cons (ce_op op_addA ops_add (ce_v 1) (ce_int)) (ca_cons (ce_op op_addA ops_add (ce_v 1) (ce_int)) (ca_nil)))) (ca_nil))) (ca_nil)))) (ca_cons (ce_tup (ca_nil)) (ca_nil)))))) (css_one (cs_ret (ce_bl))) (css_nil))
    (css_cons (cs_if (ct_not (ct_tru (ce_call (n := 2) (ok_d_law_same X) (hr.mono (by decide)) tk (by rfl) X.g_d_law_same X.F_d_law_same.kp (bd_d_law_same X) (an_cons (an_cons an_nil)) (ca_cons (ce_call (n := 2) (ok_either_dates X) (hr.mono (by decide)) tk (by rfl) X.g_either_dates X.F_either_dates.kp (bd_either_dates X) (an_cons (an_cons an_nil)) (ca_cons (ce_tup (ca_cons (ce_tup (ca_cons (ce_op op_addA ops_add (ce_v 1) (ce_int)) (ca_cons (ce_op op_addA ops_add (ce_v 1) (ce_int)) (ca_nil)))) (ca_nil))) (ca_cons (ce_v 2) (ca_nil)))) (ca_cons (ce_tup (ca_cons (ce_tup (ca_cons (ce_v 1) (ca_cons (ce_op op_addA ops_add (ce_v 1) (ce_int)) (ca_nil)))) (ca_nil))) (ca_nil)))))) (css_one (cs_ret (ce_bl))) (css_nil))
    (css_one (cs_ret (ce_call (n := 2) (ok_d_law_same X) (hr.mono (by decide)) tk (by rfl) X.g_d_law_same X.F_d_law_same.kp (bd_d_law_same X) (an_cons (an_cons an_nil)) (ca_cons (ce_call (n := 2) (ok_either_dates X) (hr.mono (by decide)) tk (by rfl) X.g_either_dates X.F_either_dates.kp (bd_either_dates X) (an_cons (an_cons an_nil)) (ca_cons (ce_tup (ca_cons (ce_tup (ca_cons (ce_op op_addA ops_add (ce_v 1) (ce_int)) (ca_cons (ce_op op_addA ops_add (ce_v 1) (ce_int)) (ca_nil)))) (ca_nil))) (ca_cons (ce_v 2) (ca_nil)))) (ca_cons (ce_tup (ca_cons (ce_tup (ca_cons (ce_v 1) (ca_cons (ce_op op_addA ops_add (ce_v 1) (ce_int)) (ca_nil)))) (ca_cons (ce_tup (ca_cons (ce_op op_addA ops_add (ce_v 1) (ce_int)) (ca_cons (ce_op op_addA ops_add (ce_v 1) (ce_int)) (ca_nil)))) (ca_nil)))) (ca_nil)))))))))) :
      PSs _ _ (Ts _ _ _ b_d_law_near))
noncomputable def bl_d_law_outsides_1 : MS := sSeq (sSet 4 (eCall m_d_law_frame (aCons (eV 0) (aCons (eV 1) (aNil)))))
  (sIf (tNot (tTru (eCall m_d_law_same (aCons (eCall m_outside_dates (aCons (e2 dIx (eV 4) (eC (.int 0))) (aCons (e2 dIx (eV 4) (eC (.int 1))) (aCons (eV 2) (aNil))))) (aCons (eCall m_d_law_outside (aCons (e2 dIx (eV 4) (eC (.int 0))) (aCons (e2 dIx (eV 4) (eC (.int 1))) (aCons (eV 2) (aNil))))) (aNil)))))) (sRet (eC (.bl false))) (sNil))
noncomputable def b_d_law_outsides : MS := sSeq (sFor (iRange1 (aCons (eC (.int 3)) (aNil))) (gN 3) (bl_d_law_outsides_1))
  (sSeq (sIf (tNot (tTru (eCall m_d_law_same (aCons (eCall m_outside_dates (aCons (e2 dIx (eV 4) (eC (.int 0))) (aCons (e2 dIx (eV 4) (eC (.int 1))) (aCons (eTup (aNil)) (aNil))))) (aCons (eTup (aCons (eTup (aCons (e2 dIx (eV 4) (eC (.int 0))) (aCons (e2 dIx (eV 4) (eC (.int 1))) (aNil)))) (aNil))) (aNil)))))) (sRet (eC (.bl false))) (sNil))
  (sSeq (sSet 5 (eTup (aCons (eTup (aCons (eFn dMax2 (aCons (e1 dNeg (eC (.int 9999))) (aCons (e2 dSub (e2 dIx (eV 4) (eC (.int 0))) (eCall m_d_law_draw (aCons (eV 0) (aCons (eC (.int 3)) (aNil))))) (aNil)))) (aCons (eFn dMin2 (aCons (eC (.int 9999)) (aCons (e2 dAdd (e2 dIx (eV 4) (eC (.int 1))) (eCall m_d_law_draw (aCons (eV 0) (aCons (eC (.int 3)) (aNil))))) (aNil)))) (aNil)))) (aNil))))
  (sRet (eCall m_d_law_same (aCons (eCall m_outside_dates (aCons (e2 dIx (eV 4) (eC (.int 0))) (aCons (e2 dIx (eV 4) (eC (.int 1))) (aCons (eV 5) (aNil))))) (aCons (eTup (aNil)) (aNil)))))))
noncomputable def m_d_law_outsides : List D → Store → R D := fnM 6 3 b_d_law_outsides
theorem ok_d_law_outsides (X : Fx K mg) : FnOk P w K mg base (L2.CX P w) 4 X.a_d_law_outsides X.d_d_law_outsides ["pool", "cuts", "dates"] (spM K mg 3 m_d_law_outsides) :=
  okM (k := 3) X.F_d_law_outsides sc_d_law_outsides rfl fun cdv A outer s H E hr tk =>
    (css_cons (cs_for (passes_of rfl) rfl (ci_range1 (by rfl) X.b_range (ca_cons (ce_int) (ca_nil))) (cg_name (i := 3) sc_d_law_outsides.nd rfl (by first | exact Or.inl rfl | exact Or.inr rfl)) (css_cons (cs_set (j := 4) sc_d_law_outsides.nd rfl (Or.inl rfl) (ce_call (n := 2) (ok_d_law_frame X) (hr.mono (by decide)) tk (by rfl) X.g_d_law_frame X.F_d_law_frame.kp (bd_d_law_frame X) (an_cons (an_cons an_nil)) (ca_cons (ce_v 0) (ca_cons (ce_v 1) (ca_nil)))))
    (css_one (cs_if (ct_not (ct_tru (ce_call (n := 2) (ok_d_law_same X) (hr.mono (by decide)) tk (by rfl) X.g_d_law_same X.F_d_law_same.kp (bd_d_law_same X) (an_cons (an_cons an_nil)) (ca_cons (ce_call (n := 3) (ok_outside_dates X) (hr.mono (by decide)) tk (by rfl) X.g_outside_dates X.F_outside_dates.kp (bd_outside_dates X) (an_cons (an_cons (an_cons an_nil))) (ca_cons (ce_ix ix_seq ops_ix (ce_v 4) (ce_int) (fun _ _ => rfl)) (ca_cons (ce_ix ix_seq ops_ix (ce_v 4) (ce_int) (fun _ _ => rfl)) (ca_cons (ce_v 2) (ca_nil))))) (ca_cons (ce_call (n := 3) (ok_d_law_outside X) (hr.mono (by decide)) tk (by rfl) X.g_d_law_outside X.F_d_law_outside.kp (bd_d_law_outside X) (an_cons (an_cons (an_cons an_nil))) (ca_cons (ce_ix ix_seq ops_ix (ce_v 4) (ce_int) (fun _ _ => rfl)) (ca_cons (ce_ix ix_seq ops_ix (ce_v 4) (ce_int) (fun _ _ => rfl)) (ca_cons (ce_v 2) (ca_nil))))) (ca_nil)))))) (css_one (cs_ret (ce_bl))) (css_nil)))))
    (css_cons (cs_if (ct_not (ct_tru (ce_call (n := 2) (ok_d_law_same X) (hr.mono (by decide)) tk (by rfl) X.g_d_law_same X.F_d_law_same.kp (bd_d_law_same X) (an_cons (an_cons an_nil)) (ca_cons (ce_call (n := 3) (ok_outside_dates X) (hr.mono (by decide)) tk (by rfl) X.g_outside_dates X.F_outside_dates.kp (bd_outside_dates X) (an_cons (an_cons (an_cons an_nil))) (ca_cons (ce_ix ix_seq ops_ix (ce_v 4) (ce_int) (fun _ _ => rfl)) (ca_cons (ce_ix ix_seq ops_ix (ce_v 4) (ce_int) (fun _ _ => rfl)) (ca_cons (ce_tup (ca_nil)) (ca_nil))))) (ca_cons (ce_tup (ca_cons (ce_tup (ca_cons (ce_ix ix_seq ops_ix (ce_v 4) (ce_int) (fun _ _ => rfl)) (ca_cons (ce_ix ix_seq ops_ix (ce_v 4) (ce_int) (fun _ _ => rfl)) (ca_nil)))) (ca_nil))) (ca_nil)))))) (css_one (cs_ret (ce_bl))) (css_nil))
    (css_cons (cs_set (j := 5) sc_d_law_outsides.nd rfl (Or.inl rfl) (ce_tup (ca_cons (ce_tup (ca_cons (ce_callB (call_max2 rfl) fns_max2 (by rfl) X.b_max (by decide +kernel) (ca_cons (ce_un un_neg uns_neg (ce_int)) (ca_cons (ce_op op_sub ops_sub (ce_ix ix_seq ops_ix (ce_v 4) (ce_int) (fun _ _ => rfl)) (ce_call (n := 2) (ok_d_law_draw X) (hr.mono (by decide)) tk (by rfl) X.g_d_law_draw X.F_d_law_draw.kp (bd_d_law_draw X) (an_cons (an_cons an_nil)) (ca_cons (ce_v 0) (ca_cons (ce_int) (ca_nil))))) (ca_nil)))) (ca_cons (ce_callB (call_min2 rfl) fns_min2 (by rfl) X.b_min (by decide +kernel) (ca_cons (ce_int) (ca_cons (ce_op op_addA ops_add (ce_ix ix_seq ops_ix (ce_v 4) (ce_int) (fun _ _ => rfl)) (ce_call (n := 2) (ok_d_law_draw X) (hr.mono (by decide)) tk (by rfl) X.g_d_law_draw X.F_d_law_draw.kp (bd_d_law_draw X) (an_cons (an_cons an_nil)) (ca_cons (ce_v 0) (ca_cons (ce_int) (ca_nil))))) (ca_nil)))) (ca_nil)))) (ca_nil))))
    (css_one (cs_ret (ce_call (n := 2) (ok_d_law_same X) (hr.mono (by decide)) tk (by rfl) X.g_d_law_same X.F_d_law_same.kp (bd_d_law_same X) (an_cons (an_cons an_nil)) (ca_cons (ce_call (n := 3) (ok_outside_dates X) (hr.mono (by decide)) tk (by rfl) X.g_outside_dates X.F_outside_dates.kp (bd_outside_dates X) (an_cons (an_cons (an_cons an_nil))) (ca_cons (ce_ix ix_seq ops_ix (ce_v 4) (ce_int) (fun _ _ => rfl)) (ca_cons (ce_ix ix_seq ops_ix (ce_v 4) (ce_int) (fun _ _ => rfl)) (ca_cons (ce_v 5) (ca_nil))))) (ca_cons (ce_tup (ca_nil)) (ca_nil)))))))) :
      PSs _ _ (Ts _ _ _ b_d_law_outsides))
noncomputable def bl_law_1 : MS := sIf (tOr (tNot (tTru (eCall m_d_law_outsides (aCons (eV 1) (aCons (eV 4) (aCons (eV 10) (aNil))))))) (tOr (tNot (tTru (eCall m_d_law_moves (aCons (eV 1) (aCons (eV 10) (aNil)))))) (tNot (tTru (eCall m_d_law_turns (aCons (eV 1) (aCons (eV 10) (aNil)))))))) (sRet (eC (.bl false))) (sNil)
noncomputable def le_law_2 : ME D := eOr (e2 dIx (e2 dIx (eV 5) (eC (.int 0))) (eV 11)) (e2 dIx (e2 dIx (eV 5) (eC (.int 1))) (eV 11))
noncomputable def le_law_3 : ME D := eAnd (e2 dIx (e2 dIx (eV 5) (eC (.int 0))) (eV 11)) (e2 dIx (e2 dIx (eV 5) (eC (.int 1))) (eV 11))
noncomputable def b_law : MS := sSeq (sSet 1 (eCall m_d_law_pool (aCons (eV 0) (aNil))))
  (sSeq (sSet 2 (eCall m_d_law_draw (aCons (eV 1) (aCons (eC (.int 6)) (aNil)))))
  (sSeq (sSet 3 (e2 dAdd (eC (.int 1)) (eCall m_d_law_often_end (aCons (eV 1) (aCons (eC (.int 24)) (aNil))))))
  (sSeq (sIf (tV (e2 dEq (eV 2) (eC (.int 0)))) (sSet 3 (e2 dMul (eC (.int 4)) (e2 dAdd (eC (.int 4)) (eCall m_d_law_often_end (aCons (eV 1) (aCons (eC (.int 9)) (aNil))))))) (sNil))
  (sSeq (sSet 4 (eCall m_d_law_cuts (aCons (eV 1) (aCons (eV 3) (aNil)))))
  (sSeq (sSet 5 (eCall m_d_law_flags (aCons (eV 1) (aCons (eV 2) (aCons (eV 3) (aNil))))))
  (sSeq (sSet 6 (eCall m_d_law_dates (aCons (eV 4) (aCons (e2 dIx (eV 5) (eC (.int 0))) (aNil)))))
  (sSeq (sSet 7 (eCall m_d_law_dates (aCons (eV 4) (aCons (e2 dIx (eV 5) (eC (.int 1))) (aNil)))))
  (sSeq (sSet 8 (eCall m_d_law_dates (aCons (eV 4) (aCons (eLc (iRange1 (aCons (eV 3) (aNil))) [11] (gN 11) (tT) (le_law_3)) (aNil)))))
  (sSeq (sSet 9 (eCall m_d_law_dates (aCons (eV 4) (aCons (eLc (iRange1 (aCons (eV 3) (aNil))) [11] (gN 11) (tT) (le_law_2)) (aNil)))))
  (sSeq (sIf (tOr (tNot (tTru (eCall m_d_law_joins (aCons (eV 6) (aCons (eV 7) (aCons (eV 8) (aCons (eV 9) (aNil)))))))) (tNot (tTru (eCall m_d_law_near (aCons (eV 1) (aNil)))))) (sRet (eC (.bl false))) (sNil))
  (sSeq (sFor (iSeq (eLst (aCons (eV 6) (aCons (eV 7) (aNil))))) (gN 10) (bl_law_1))
  (sRet (eAnd (eCall m_d_law_same (aCons (eCall m_both_dates (aCons (eV 6) (aCons (eV 7) (aNil)))) (aCons (eV 8) (aNil)))) (eCall m_d_law_same (aCons (eCall m_either_dates (aCons (eV 6) (aCons (eV 7) (aNil)))) (aCons (eV 9) (aNil)))))))))))))))))
noncomputable def m_law : List D → Store → R D := fnM 12 1 b_law
theorem ok_law (X : Fx K mg) : FnOk P w K mg base (L2.CX P w) 5 X.a_law X.d_law ["script"] (spM K mg 1 m_law) :=
  okM (k := 4) X.F_law sc_law rfl fun cdv A outer s H E hr tk =>
    (css_cons (cs_set (j := 1) sc_law.nd rfl (Or.inl rfl) (ce_call (n := 1) (ok_d_law_pool X) (hr.mono (by decide)) tk (by rfl) X.g_d_law_pool X.F_d_law_pool.kp (bd_d_law_pool X) (an_cons an_nil) (ca_cons (ce_v 0) (ca_nil))))
    (css_cons (cs_set (j := 2) sc_law.nd rfl (Or.inl rfl) (ce_call (n := 2) (ok_d_law_draw X) (hr.mono (by decide)) tk (by rfl) X.g_d_law_draw X.F_d_law_draw.kp (bd_d_law_draw X) (an_cons (an_cons an_nil)) (ca_cons (ce_v 1) (ca_cons (ce_int) (ca_nil)))))
    (css_cons (cs_set (j := 3) sc_law.nd rfl (Or.inl rfl) (ce_op op_addA ops_add (ce_int) (ce_call (n := 2) (ok_d_law_often_end X) (hr.mono (by decide)) tk (by rfl) X.g_d_law_often_end X.F_d_law_often_end.kp (bd_d_law_often_end X) (an_cons (an_cons an_nil)) (ca_cons (ce_v 1) (ca_cons (ce_int) (ca_nil))))))
    (css_cons (cs_if (ct_cmp (opA_eq hr.units) ops_eq (ce_v 2) (ce_int) (nomark _)) (css_one (cs_set (j := 3) sc_law.nd rfl (Or.inl rfl) (ce_op op_mul ops_mul (ce_int) (ce_op op_addA ops_add (ce_int) (ce_call (n := 2) (ok_d_law_often_end X) (hr.mono (by decide)) tk (by rfl) X.g_d_law_often_end X.F_d_law_often_end.kp (bd_d_law_often_end X) (an_cons (an_cons an_nil)) (ca_cons (ce_v 1) (ca_cons (ce_int) (ca_nil)))))))) (css_nil))
    (css_cons (cs_set (j := 4) sc_law.nd rfl (Or.inl rfl) (ce_call (n := 2) (ok_d_law_cuts X) (hr.mono (by decide)) tk (by rfl) X.g_d_law_cuts X.F_d_law_cuts.kp (bd_d_law_cuts X) (an_cons (an_cons an_nil)) (ca_cons (ce_v 1) (ca_cons (ce_v 3) (ca_nil)))))
    (css_cons (cs_set (j := 5) sc_law.nd rfl (Or.inr rfl) (ce_call (n := 3) (ok_d_law_flags X) (hr.mono (by decide)) tk (by rfl) X.g_d_law_flags X.F_d_law_flags.kp (bd_d_law_flags X) (an_cons (an_cons (an_cons an_nil))) (ca_cons (ce_v 1) (ca_cons (ce_v 2) (ca_cons (ce_v 3) (ca_nil))))))
    (css_cons (cs_set (j := 6) sc_law.nd rfl (Or.inl rfl) (ce_call (n := 2) (ok_d_law_dates X) (hr.mono (by decide)) tk (by rfl) X.g_d_law_dates X.F_d_law_dates.kp (bd_d_law_dates X) (an_cons (an_cons an_nil)) (ca_cons (ce_v 4) (ca_cons (ce_ix ix_seq ops_ix (ce_v 5) (ce_int) (fun _ _ => rfl)) (ca_nil)))))
    (css_cons (cs_set (j := 7) sc_law.nd rfl (Or.inl rfl) (ce_call (n := 2) (ok_d_law_dates X) (hr.mono (by decide)) tk (by rfl) X.g_d_law_dates X.F_d_law_dates.kp (bd_d_law_dates X) (an_cons (an_cons an_nil)) (ca_cons (ce_v 4) (ca_cons (ce_ix ix_seq ops_ix (ce_v 5) (ce_int) (fun _ _ => rfl)) (ca_nil)))))
    (css_cons (cs_set (j := 8) sc_law.nd rfl (Or.inl rfl) (ce_call (n := 2) (ok_d_law_dates X) (hr.mono (by decide)) tk (by rfl) X.g_d_law_dates X.F_d_law_dates.kp (bd_d_law_dates X) (an_cons (an_cons an_nil)) (ca_cons (ce_v 4) (ca_cons (ce_lc (own := [("place", 11)]) rfl sc_law.nd (ci_range1 (by rfl) X.b_range (ca_cons (ce_v 3) (ca_nil))) (blkOk_by (N := ["script", "pool", "shape", "many", "cuts", "flags", "one", "other", "both", "either", "dates", "place"]) (sc := defScope s_law) (by decide +kernel)) (fun _ _ _ _ _ => cg_name (i := 11) sc_law.nd rfl (by first | exact Or.inl rfl | exact Or.inr rfl)) (fun _ _ _ _ _ => cts_nil) (fun _ _ _ _ _ => ce_and (ce_ix ix_seq ops_ix (ce_ix ix_seq ops_ix (ce_v 5) (ce_int) (fun _ _ => rfl)) (ce_v 11) (fun _ _ => rfl)) (ce_one (ce_ix ix_seq ops_ix (ce_ix ix_seq ops_ix (ce_v 5) (ce_int) (fun _ _ => rfl)) (ce_v 11) (fun _ _ => rfl))))) (ca_nil)))))
    (css_cons (cs_set (j := 9) sc_law.nd rfl (Or.inl rfl) (ce_call (n := 2) (ok_d_law_dates X) (hr.mono (by decide)) tk (by rfl) X.g_d_law_dates X.F_d_law_dates.kp (bd_d_law_dates X) (an_cons (an_cons an_nil)) (ca_cons (ce_v 4) (ca_cons (ce_lc (own := [("place", 11)]) rfl sc_law.nd (ci_range1 (by rfl) X.b_range (ca_cons (ce_v 3) (ca_nil))) (blkOk_by (N := ["script", "pool", "shape", "many", "cuts", "flags", "one", "other", "both", "either", "dates", "place"]) (sc := defScope s_law) (by decide +kernel)) (fun _ _ _ _ _ => cg_name (i := 11) sc_law.nd rfl (by first | exact Or.inl rfl | exact Or.inr rfl)) (fun _ _ _ _ _ => cts_nil) (fun _ _ _ _ _ => ce_or (ce_ix ix_seq ops_ix (ce_ix ix_seq ops_ix (ce_v 5) (ce_int) (fun _ _ => rfl)) (ce_v 11) (fun _ _ => rfl)) (ce_one (ce_ix ix_seq ops_ix (ce_ix ix_seq ops_ix (ce_v 5) (ce_int) (fun _ _ => rfl)) (ce_v 11) (fun _ _ => rfl))))) (ca_nil)))))
    (css_cons (cs_if (PW.pt (cw_or (ct_not (ct_tru (ce_call (n := 4) (ok_d_law_joins X) (hr.mono (by decide)) tk (by rfl) X.g_d_law_joins X.F_d_law_joins.kp (bd_d_law_joins X) (an_cons (an_cons (an_cons (an_cons an_nil)))) (ca_cons (ce_v 6) (ca_cons (ce_v 7) (ca_cons (ce_v 8) (ca_cons (ce_v 9) (ca_nil)))))))) (cw_or1 (ct_not (ct_tru (ce_call (n := 1) (ok_d_law_near X) (hr.mono (by decide)) tk (by rfl) X.g_d_law_near X.F_d_law_near.kp (bd_d_law_near X) (an_cons an_nil) (ca_cons (ce_v 1) (ca_nil)))))))) (css_one (cs_ret (ce_bl))) (css_nil))
    (css_cons (cs_for (passes_of rfl) rfl (ci_seq (ce_lst (ca_cons (ce_v 6) (ca_cons (ce_v 7) (ca_nil))))) (cg_name (i := 10) sc_law.nd rfl (by first | exact Or.inl rfl | exact Or.inr rfl)) (css_one (cs_if (PW.pt (cw_or (ct_not (ct_tru (ce_call (n := 3) (ok_d_law_outsides X) (hr.mono (by decide)) tk (by rfl) X.g_d_law_outsides X.F_d_law_outsides.kp (bd_d_law_outsides X) (an_cons (an_cons (an_cons an_nil))) (ca_cons (ce_v 1) (ca_cons (ce_v 4) (ca_cons (ce_v 10) (ca_nil))))))) (cw_or (ct_not (ct_tru (ce_call (n := 2) (ok_d_law_moves X) (hr.mono (by decide)) tk (by rfl) X.g_d_law_moves X.F_d_law_moves.kp (bd_d_law_moves X) (an_cons (an_cons an_nil)) (ca_cons (ce_v 1) (ca_cons (ce_v 10) (ca_nil)))))) (cw_or1 (ct_not (ct_tru (ce_call (n := 2) (ok_d_law_turns X) (hr.mono (by decide)) tk (by rfl) X.g_d_law_turns X.F_d_law_turns.kp (bd_d_law_turns X) (an_cons (an_cons an_nil)) (ca_cons (ce_v 1) (ca_cons (ce_v 10) (ca_nil)))))))))) (css_one (cs_ret (ce_bl))) (css_nil))))
    (css_one (cs_ret (ce_and (ce_call (n := 2) (ok_d_law_same X) (hr.mono (by decide)) tk (by rfl) X.g_d_law_same X.F_d_law_same.kp (bd_d_law_same X) (an_cons (an_cons an_nil)) (ca_cons (ce_call (n := 2) (ok_both_dates X) (hr.mono (by decide)) tk (by rfl) X.g_both_dates X.F_both_dates.kp (bd_both_dates X) (an_cons (an_cons an_nil)) (ca_cons (ce_v 6) (ca_cons (ce_v 7) (ca_nil)))) (ca_cons (ce_v 8) (ca_nil)))) (ce_one (ce_call (n := 2) (ok_d_law_same X) (hr.mono (by decide)) tk (by rfl) X.g_d_law_same X.F_d_law_same.kp (bd_d_law_same X) (an_cons (an_cons an_nil)) (ca_cons (ce_call (n := 2) (ok_either_dates X) (hr.mono (by decide)) tk (by rfl) X.g_either_dates X.F_either_dates.kp (bd_either_dates X) (an_cons (an_cons an_nil)) (ca_cons (ce_v 6) (ca_cons (ce_v 7) (ca_nil)))) (ca_cons (ce_v 9) (ca_nil))))))))))))))))))) :
      PSs _ _ (Ts _ _ _ b_law))
end Law
namespace Law
open PySem PySem.Spec PyProof.Rows L2 Mi
/-- the pool: a list of ints, not empty -/
def Pool (p : Nat) (s : Store) : Prop := ∃ x xs, s[p]? = some (.lst (.int x :: xs)) ∧ Ints xs ∧ xs.length ≤ 100
theorem draw_spec {p : Nat} {s : Store} (h : Pool p s) {many : Int} (h0 : 0 < many) (h1 : many < 1073741824) :
    ∃ k s', m_d_law_draw [.loc p, .int many] s = .ok (.int k) s' ∧ 0 ≤ k ∧ k < many ∧ Pool p s' ∧ Kp p s s' := by
  obtain ⟨x, xs, hs, ⟨ns, hx⟩, hl⟩ := h
  cases hn : ns.reverse with
  | nil =>
    have e : ns = [] := by simpa using hn
    subst e
    subst hx
    have hs' : s[p]? = some (.lst [.int x]) := hs
    simp [m_d_law_draw, b_d_law_draw, dLen_loc hs, dIx_loc hs', pList_zero hs', dIx_loc (get_set hs'), h0]
    exact ⟨_, _, ⟨rfl, rfl⟩, Int.emod_nonneg _ (by omega), Int.emod_lt_of_pos _ h0, ⟨_, [], get_set hs', ⟨[], rfl⟩, by simp⟩, Kp.set _ _ _⟩
  | cons y r =>
    have e : ns = r.reverse ++ [y] := by rw [← List.reverse_reverse ns, hn, List.reverse_cons]
    subst e
    obtain ⟨L, hL⟩ : ∃ L, L = D.int x :: r.reverse.map D.int := ⟨_, rfl⟩
    have hs' : s[p]? = some (.lst (L ++ [.int y])) := by rw [hs, hx, hL]; simp
    have hl2 : L.length ≤ 100 := by
      rw [hx] at hl
      rw [hL]
      simp at hl ⊢
      omega
    have h3 : (1 : Int) < L.length + 1 := by
      rw [hL]
      simp
      omega
    have w1 := dPop_loc hs'
    have g1 := get_set (c' := .lst L) hs'
    have w2 := dAppend_loc g1 (by omega)
    have fin : ∀ s', s'[p]? = some (.lst L) → Pool p s' := fun s' h => ⟨x, r.reverse.map D.int, by rw [h, hL], ⟨_, rfl⟩, by rw [hL] at hl2; simp at hl2 ⊢; omega⟩
    by_cases hy : many ≤ y
    · simp [m_d_law_draw, b_d_law_draw, dLen_loc hs', tyOk_list hs', w1, w2, tyOk_list g1, hy, h0, h1, h3]
      refine ⟨_, _, ⟨rfl, rfl⟩, Int.emod_nonneg _ (by omega), Int.emod_lt_of_pos _ h0, ⟨x, r.reverse.map D.int ++ [.int (y / many)], ?_, ⟨r.reverse ++ [y / many], by simp⟩, by rw [hL] at hl2; simp at hl2 ⊢; omega⟩, Kp.set _ _ _⟩
      rw [get_set hs', hL]
      rfl
    · simp [m_d_law_draw, b_d_law_draw, dLen_loc hs', tyOk_list hs', w1, hy, h0, h1, h3]
      exact ⟨_, _, ⟨rfl, rfl⟩, Int.emod_nonneg _ (by omega), Int.emod_lt_of_pos _ h0, fin _ (get_set hs'), Kp.set _ _ _⟩
theorem often_spec {p : Nat} {s : Store} (h : Pool p s) {many : Int} (h0 : 0 < many) (h1 : many < 1073741824) :
    ∃ k s', m_d_law_often_end [.loc p, .int many] s = .ok (.int k) s' ∧ 0 ≤ k ∧ k < many ∧ Pool p s' ∧ Kp p s s' := by
  obtain ⟨k, s1, e1, k0, k1, h', kp⟩ := draw_spec h (many := 6) (by omega) (by omega)
  obtain ⟨k2, s2, e2, k20, k21, h2, kp2⟩ := draw_spec h' h0 h1
  by_cases c0 : k = 0
  · simp [m_d_law_often_end, b_d_law_often_end, e1, c0]
    exact ⟨_, _, ⟨rfl, rfl⟩, by omega, h0, h', kp⟩
  · by_cases c1 : k = 1
    · simp [m_d_law_often_end, b_d_law_often_end, e1, c1]
      exact ⟨_, _, ⟨rfl, rfl⟩, by omega, by omega, h', kp⟩
    · simp [m_d_law_often_end, b_d_law_often_end, e1, c0, c1, e2]
      exact ⟨_, _, ⟨rfl, rfl⟩, k20, k21, h2, kp.trans kp2⟩
def PoolI (ns ms : List Int) (rest : List D) (env : Sl) (s : Store) : Prop := ∃ m o3 o4 gs, env = [some (.fl (ns.map D.int)), some (.int m), some (.loc 0), o3, o4] ∧ s = [.lst gs, .lst (ms.map D.int)] ∧ Ints gs ∧ gs.length + rest.length ≤ 63 ∧ Ints rest
theorem pool_spec (ns : List Int) (hn : ns.length ≤ 63) : ∃ p s, m_d_law_pool [.fl (ns.map D.int)] [] = .ok (.loc p) s ∧ Pool p s := by
  simp [m_d_law_pool, b_d_law_pool, dSl]
  have hc := cut_ints ⟨ns, rfl⟩ none (some 63)
  have hl := cut_len (ns.map D.int) none (some 63)
  generalize Mi.cutD (ns.map D.int) none (some 63) = cs at hc hl
  simp at hl
  obtain ⟨ms, rfl⟩ := hc
  simp at hl
  obtain ⟨env', s', e, m, o3, o4, gs, rfl, rfl, hg1, hg2, _⟩ := forL_thru (gd := fun s2 => s2[1]? = some (Cell.lst (ms.map D.int))) (g := gN 3) (b := bl_d_law_pool_1) (PoolI ns ms)
    (xs := ms.map D.int) (env := [some (.fl (ns.map D.int)), some (.int 52361), some (.loc 0), none, none]) (s := [.lst [], .lst (ms.map D.int)])
    (fun xs env s ⟨m, o3, o4, gs, h1, h2, _⟩ => by subst h2; rfl)
    (fun x xs env s ⟨m, o3, o4, gs, h1, h2, h3, h4, h5⟩ => by
      subst h1 h2
      obtain ⟨ks, hk⟩ := h5
      cases ks with
      | nil => cases hk
      | cons k ks =>
        obtain ⟨rfl, rfl⟩ := List.cons.inj hk
        obtain ⟨gn, rfl⟩ := h3
        simp at h4
        have w := dAppend_loc (s := [.lst (gn.map D.int), .lst (ms.map D.int)]) (l := 0) rfl (by simp; omega)
        have more : ∀ m o3 o4 z, PoolI ns ms (ks.map D.int) [some (.fl (ns.map D.int)), some (.int m), some (.loc 0), o3, o4] [.lst (gn.map D.int ++ [.int z]), .lst (ms.map D.int)] := fun m o3 o4 z =>
          ⟨_, _, _, _, rfl, rfl, ⟨gn ++ [z], by rw [List.map_append]; rfl⟩, by simp; omega, ⟨ks, rfl⟩⟩
        have same : ∀ m o3 o4, PoolI ns ms (ks.map D.int) [some (.fl (ns.map D.int)), some (.int m), some (.loc 0), o3, o4] [.lst (gn.map D.int), .lst (ms.map D.int)] := fun m o3 o4 =>
          ⟨_, _, _, _, rfl, rfl, ⟨gn, rfl⟩, by simp; omega, ⟨ks, rfl⟩⟩
        by_cases c1 : k < 0
        · by_cases c2 : (1000000000000000000 : Int) ≤ 7 - 2 * k <;> simp [bl_d_law_pool_1, c1, c2, tyOk, w, dMul_l, more, same]
        · by_cases c2 : (1000000000000000000 : Int) ≤ k <;> simp [bl_d_law_pool_1, c1, c2, tyOk, w, dMul_l, more, same])
    ⟨_, _, _, _, rfl, rfl, ⟨[], rfl⟩, by simp; omega, ⟨ms, rfl⟩⟩
  rw [e]
  obtain ⟨gn, rfl⟩ := hg1
  simp at hg2
  have w := dAdd_loc (s := [.lst (gn.map D.int), .lst (ms.map D.int), .lst [.int m]]) (l := 2) (k := 0) rfl rfl (by simp; omega)
  simp [w]
  exact ⟨_, _, ⟨rfl, rfl⟩, m, gn.map D.int, rfl, ⟨gn, rfl⟩, by simp; omega⟩
end Law
namespace Law
open PySem Mi
/-- a pair of ints -/
def pr (x : Int × Int) : D := .tup [.int x.1, .int x.2]
/-- stretches, ascending behind lo, none touching -/
def Nrm : Int → List (Int × Int) → Prop
  | _, [] => True
  | lo, x :: r => lo + 2 ≤ x.1 ∧ x.1 ≤ x.2 ∧ Nrm x.2 r
def lastOf : Int → List (Int × Int) → Int
  | lo, [] => lo
  | _, x :: r => lastOf x.2 r
def mem (y : Int) (ps : List (Int × Int)) : Prop := ∃ x ∈ ps, x.1 ≤ y ∧ y ≤ x.2
@[simp] theorem mem_nil (y : Int) : ¬ mem y [] := fun ⟨_, h, _⟩ => by cases h
@[simp] theorem mem_cons {y : Int} {x : Int × Int} {r : List (Int × Int)} : mem y (x :: r) ↔ (x.1 ≤ y ∧ y ≤ x.2) ∨ mem y r := by
  constructor
  · rintro ⟨z, h, q⟩
    rcases List.mem_cons.mp h with e | h
    · exact .inl (e ▸ q)
    · exact .inr ⟨z, h, q⟩
  · rintro (h | ⟨z, h, q⟩)
    · exact ⟨x, by simp, h⟩
    · exact ⟨z, by simp [h], q⟩
@[simp] theorem mem_app {y : Int} {ps qs : List (Int × Int)} : mem y (ps ++ qs) ↔ mem y ps ∨ mem y qs := by
  constructor
  · rintro ⟨z, h, q⟩
    rcases List.mem_append.mp h with h | h
    · exact .inl ⟨z, h, q⟩
    · exact .inr ⟨z, h, q⟩
  · rintro (⟨z, h, q⟩ | ⟨z, h, q⟩)
    · exact ⟨z, by simp [h], q⟩
    · exact ⟨z, by simp [h], q⟩
theorem Nrm.ge : ∀ {ps : List (Int × Int)} {lo y : Int}, Nrm lo ps → mem y ps → lo + 2 ≤ y
  | [], _, _, _, h => (mem_nil _ h).elim
  | x :: r, lo, y, ⟨a, b, c⟩, h => by
    rcases mem_cons.mp h with h | h
    · omega
    · have := Nrm.ge c h
      omega
theorem Nrm.le {lo lo' : Int} {ps : List (Int × Int)} (h : Nrm lo ps) (e : lo' ≤ lo) : Nrm lo' ps := by
  cases ps with
  | nil => trivial
  | cons x r => exact ⟨by have := h.1; omega, h.2⟩
theorem uniq : ∀ {ps qs : List (Int × Int)} {lo lo' : Int}, Nrm lo ps → Nrm lo' qs → (∀ y, mem y ps ↔ mem y qs) → ps = qs
  | [], [], _, _, _, _, _ => rfl
  | [], q :: qs, _, _, _, hq, h => ((mem_nil _) ((h q.1).mpr (mem_cons.mpr (.inl ⟨Int.le_refl _, hq.2.1⟩)))).elim
  | x :: ps, [], _, _, hp, _, h => ((mem_nil _) ((h x.1).mp (mem_cons.mpr (.inl ⟨Int.le_refl _, hp.2.1⟩)))).elim
  | x :: ps, q :: qs, lo, lo', ⟨a1, a2, a3⟩, ⟨b1, b2, b3⟩, h => by
    have m1 := mem_cons.mp ((h x.1).mp (mem_cons.mpr (.inl ⟨Int.le_refl _, a2⟩)))
    have m2 := mem_cons.mp ((h q.1).mpr (mem_cons.mpr (.inl ⟨Int.le_refl _, b2⟩)))
    have g1 : q.1 ≤ x.1 := by
      rcases m1 with m | m
      · exact m.1
      · have := b3.ge m; omega
    have g2 : x.1 ≤ q.1 := by
      rcases m2 with m | m
      · exact m.1
      · have := a3.ge m; omega
    have e1 : x.1 = q.1 := by omega
    have e2 : x.2 = q.2 := by
      rcases (by omega : x.2 = q.2 ∨ x.2 < q.2 ∨ q.2 < x.2) with c | c | c
      · exact c
      · rcases mem_cons.mp ((h (x.2 + 1)).mpr (mem_cons.mpr (.inl ⟨by omega, by omega⟩))) with m | m
        · omega
        · have := a3.ge m; omega
      · rcases mem_cons.mp ((h (q.2 + 1)).mp (mem_cons.mpr (.inl ⟨by omega, by omega⟩))) with m | m
        · omega
        · have := b3.ge m; omega
    have e : x = q := Prod.ext e1 e2
    subst e
    refine congrArg (x :: ·) (uniq a3 b3 fun y => ?_)
    constructor
    · intro m
      have := a3.ge m
      rcases mem_cons.mp ((h y).mp (mem_cons.mpr (.inr m))) with z | z
      · omega
      · exact z
    · intro m
      have := b3.ge m
      rcases mem_cons.mp ((h y).mpr (mem_cons.mpr (.inr m))) with z | z
      · omega
      · exact z
/-- ascending, none above hi -/
def Asc (ps : List (Int × Int)) (hi : Int) : Prop := ∃ lo, Nrm lo ps ∧ lastOf lo ps ≤ hi
theorem Asc.nil (hi : Int) : Asc [] hi := ⟨hi, trivial, Int.le_refl _⟩
theorem Asc.mono {ps : List (Int × Int)} {hi hi' : Int} (h : Asc ps hi) (e : hi ≤ hi') : Asc ps hi' := let ⟨lo, a, b⟩ := h; ⟨lo, a, Int.le_trans b e⟩
theorem nrm_snoc {x : Int × Int} : ∀ {ps : List (Int × Int)} {lo : Int}, Nrm lo (ps ++ [x]) ↔ Nrm lo ps ∧ lastOf lo ps + 2 ≤ x.1 ∧ x.1 ≤ x.2
  | [], lo => ⟨fun ⟨a, b, _⟩ => ⟨trivial, a, b⟩, fun ⟨_, a, b⟩ => ⟨a, b, trivial⟩⟩
  | y :: r, lo => ⟨fun ⟨a, b, c⟩ => let ⟨d, e⟩ := nrm_snoc.mp c; ⟨⟨a, b, d⟩, e⟩, fun ⟨⟨a, b, c⟩, e⟩ => ⟨a, b, nrm_snoc.mpr ⟨c, e⟩⟩⟩
theorem last_snoc {x : Int × Int} : ∀ {ps : List (Int × Int)} {lo : Int}, lastOf lo (ps ++ [x]) = x.2
  | [], _ => rfl
  | _ :: r, _ => last_snoc (ps := r)
theorem Asc.snoc {ps : List (Int × Int)} {hi : Int} {x : Int × Int} (h : Asc ps hi) (e : hi + 2 ≤ x.1) (e2 : x.1 ≤ x.2) : Asc (ps ++ [x]) x.2 :=
  let ⟨lo, a, b⟩ := h
  ⟨lo, nrm_snoc.mpr ⟨a, by omega, e2⟩, by rw [last_snoc]; exact Int.le_refl _⟩
theorem Asc.front {ps : List (Int × Int)} {hi : Int} {x : Int × Int} (h : Asc (ps ++ [x]) hi) : Asc ps (x.1 - 2) ∧ x.1 ≤ x.2 ∧ x.2 ≤ hi :=
  let ⟨lo, a, b⟩ := h
  let ⟨c, d, e⟩ := nrm_snoc.mp a
  ⟨⟨lo, c, by omega⟩, e, by rw [last_snoc] at b; exact b⟩
theorem Asc.uniq {ps qs : List (Int × Int)} {hi hi' : Int} (h : Asc ps hi) (h2 : Asc qs hi') (e : ∀ y, mem y ps ↔ mem y qs) : ps = qs :=
  let ⟨_, a, _⟩ := h
  let ⟨_, b, _⟩ := h2
  Law.uniq a b e
end Law
namespace Law
open PySem Mi
/-! ### what the law compares with -/
theorem get_pr {ps : List (Int × Int)} {i : Nat} (h : i < ps.length) : (ps.map pr)[i]? = some (pr ps[i]) := by simp [h]
theorem ix0 (a b : D) (s : Store) : dIx (.tup [a, b]) (.int 0) s = some (a, s) := by simp [dIx_tup]
theorem ix1 (a b : D) (s : Store) : dIx (.tup [a, b]) (.int 1) s = some (b, s) := by simp [dIx_tup]
def SameI (ps : List (Int × Int)) (d : D) (s0 : Store) (_ : Nat) (env : Sl) (s : Store) : Prop := ∃ o2 o3, env = [some (.tup (ps.map pr)), some d, o2, o3] ∧ s = s0
theorem same_gen (ps : List (Int × Int)) (hz : ps.length ≤ 1000) (d : D) (s : Store) (hl : dLen [d] s = some (.int ps.length, s)) (hx : ∀ i : Nat, (h : i < ps.length) → dIx d (.int (i : Nat)) s = some (pr ps[i], s)) :
    m_d_law_same [.tup (ps.map pr), d] s = .ok (.bl true) s := by
  obtain ⟨env', s', e, o2, o3, rfl, rfl⟩ := forL_rangeT (gd := always) (g := gN 2) (b := bl_d_law_same_1) ps.length (SameI ps d s) (fun _ _ _ _ _ => trivial) (env := [some (.tup (ps.map pr)), some d, none, none]) (s := s) (fun i env s1 hi ⟨o2, o3, e, e2⟩ => by
      subst e e2
      have z1 : dIx (.tup (ps.map pr)) (.int (i : Nat)) s1 = some (pr ps[i], s1) := by rw [dIx_tup, atI_ofNat _ _ _ (get_pr hi)]; rfl
      have z2 := hx i hi
      generalize ps[i] = x at z1 z2
      simp [bl_d_law_same_1, z1, z2, pr, ix0, ix1, m_d_law_is_integer, b_d_law_is_integer]
      exact ⟨_, _, rfl, rfl⟩) ⟨none, none, rfl, rfl⟩
  have w := rangeOf_int s' (ps.length : Int) (by omega) (by omega)
  simp at w
  simp [m_d_law_same, b_d_law_same, hl, w, e]
theorem same_tup (ps : List (Int × Int)) (hz : ps.length ≤ 1000) (s : Store) : m_d_law_same [.tup (ps.map pr), .tup (ps.map pr)] s = .ok (.bl true) s :=
  same_gen ps hz _ s (by simp) fun i h => by rw [dIx_tup, atI_ofNat _ _ _ (get_pr h)]; rfl
theorem same_loc (ps : List (Int × Int)) (hz : ps.length ≤ 1000) {s : Store} {l : Nat} (h : s[l]? = some (.lst (ps.map pr))) : m_d_law_same [.tup (ps.map pr), .loc l] s = .ok (.bl true) s :=
  same_gen ps hz _ s (by rw [dLen_loc h]; simp) fun i hi => by rw [dIx_loc h, atI_ofNat _ _ _ (get_pr hi)]; rfl
/-! ### both_dates -/
def BothI (ps qs : List (Int × Int)) (s0 : Store) (n : Nat) (env : Sl) (s : Store) : Prop := ∃ (P A R B fs : List (Int × Int)) (hi lo lo' : Int) (o5 o6 : Option D), ps = P ++ A ∧ qs = R ++ B ∧ n = A.length + B.length ∧
  env = [some (.tup (ps.map pr)), some (.tup (qs.map pr)), some (.loc s0.length), some (.int P.length), some (.int R.length), o5, o6] ∧ s = s0 ++ [.lst (fs.map pr)] ∧ fs.length + n ≤ ps.length + qs.length ∧
  Nrm lo A ∧ Nrm lo' B ∧ Asc fs hi ∧ (∀ y, mem y A → mem y B → hi + 2 ≤ y) ∧ ∀ y, (mem y ps ∧ mem y qs) ↔ (mem y fs ∨ (mem y A ∧ mem y B))
theorem both_spec {ps qs : List (Int × Int)} {h1 h2 : Int} (a1 : Asc ps h1) (a2 : Asc qs h2) (l1 : ps.length ≤ 1000) (l2 : qs.length ≤ 1000) (s : Store) :
    ∃ fs hi r, m_both_dates [.tup (ps.map pr), .tup (qs.map pr)] s = .ok (.tup (fs.map pr)) (s ++ r) ∧ Asc fs hi ∧ fs.length ≤ ps.length + qs.length ∧ ∀ y, mem y fs ↔ (mem y ps ∧ mem y qs) := by
  obtain ⟨lo, b1, _⟩ := a1
  obtain ⟨lo', b2, _⟩ := a2
  have key : ∃ env' fs hi, sWhile wt_both_dates_1 bl_both_dates_2 [some (.tup (ps.map pr)), some (.tup (qs.map pr)), some (.loc s.length), some (.int 0), some (.int 0), none, none] (s ++ [.lst []]) = .nx env' (s ++ [.lst (fs.map pr)]) ∧ env'[2]? = some (some (.loc s.length)) ∧ Asc fs hi ∧ fs.length ≤ ps.length + qs.length ∧ ∀ y, mem y fs ↔ (mem y ps ∧ mem y qs) := by
    refine while_rule (BothI ps qs s) (fun r => ∃ env' fs hi, r = .nx env' (s ++ [.lst (fs.map pr)]) ∧ env'[2]? = some (some (.loc s.length)) ∧ Asc fs hi ∧ fs.length ≤ ps.length + qs.length ∧ ∀ y, mem y fs ↔ (mem y ps ∧ mem y qs)) (fun ⟨_, _, _, e, _⟩ => nomatch e) (fun n env s1 ⟨P, A, R, B, fs, hi, lo, lo', o5, o6, e1, e2, en, e3, e4, hz, n1, n2, asc, low, eq⟩ => ?_)
      (n := ps.length + qs.length) ⟨[], ps, [], qs, [], lo, lo, lo', none, none, rfl, rfl, rfl, rfl, rfl, by simp, b1, b2, Asc.nil _, fun y m _ => b1.ge m, fun y => by simp⟩
    subst e3 e4
    have stop : A = [] ∨ B = [] → (∃ s', wt_both_dates_1 [some (.tup (ps.map pr)), some (.tup (qs.map pr)), some (.loc s.length), some (.int P.length), some (.int R.length), o5, o6] (s ++ [.lst (fs.map pr)]) = .ok false s' ∧
        ∃ env' fs' hi, RS.nx [some (.tup (ps.map pr)), some (.tup (qs.map pr)), some (.loc s.length), some (.int P.length), some (.int R.length), o5, o6] s' = .nx env' (s ++ [.lst (fs'.map pr)]) ∧ env'[2]? = some (some (.loc s.length)) ∧ Asc fs' hi ∧ fs'.length ≤ ps.length + qs.length ∧ ∀ y, mem y fs' ↔ (mem y ps ∧ mem y qs)) := fun hab => by
      refine ⟨s ++ [.lst (fs.map pr)], ?_, _, fs, hi, rfl, rfl, asc, by omega, fun y => ?_⟩
      · rcases hab with rfl | rfl
        · simp at e1
          subst e1
          simp [wt_both_dates_1]
        · simp at e2
          subst e2
          by_cases c : P.length < ps.length <;> simp [wt_both_dates_1, c]
      · rw [eq y]
        rcases hab with rfl | rfl <;> simp
    cases A with
    | nil => exact .inl (stop (.inl rfl))
    | cons a A =>
      cases B with
      | nil => exact .inl (stop (.inr rfl))
      | cons b B =>
        refine .inr ⟨s ++ [.lst (fs.map pr)], ?_, ?_⟩
        · have c1 : P.length < ps.length := by rw [e1]; simp
          have c2 : R.length < qs.length := by rw [e2]; simp
          simp [wt_both_dates_1, c1, c2]
        · have z1 : ∀ s, dIx (.tup (ps.map pr)) (.int (P.length : Nat)) s = some (.tup [.int a.1, .int a.2], s) := fun s => by
            rw [dIx_tup, atI_ofNat _ _ (pr a) (by rw [e1]; simp)]
            rfl
          have z2 : ∀ s, dIx (.tup (qs.map pr)) (.int (R.length : Nat)) s = some (.tup [.int b.1, .int b.2], s) := fun s => by
            rw [dIx_tup, atI_ofNat _ _ (pr b) (by rw [e2]; simp)]
            rfl
          have w1 := fun d => dAppend_loc (s := s ++ [.lst (fs.map pr)]) (get_new s (.lst (fs.map pr))) (by simp; omega) d
          have t1 := tyOk_list (get_new s (.lst (fs.map pr)))
          have u1 : ∀ c, (s ++ [Cell.lst (fs.map pr)]).set s.length c = s ++ [c] := fun c => by simp
          obtain ⟨n11, n12, n13⟩ := n1
          obtain ⟨n21, n22, n23⟩ := n2
          -- the new found
          have fin : ∀ fs' hi', Asc fs' hi' → (fs' = fs ∧ hi' = hi ∧ min a.2 b.2 < max a.1 b.1 ∨ fs' = fs ++ [(max a.1 b.1, min a.2 b.2)] ∧ hi' = min a.2 b.2) →
              (a.2 < b.2 → ∃ m, m < n ∧ BothI ps qs s m [some (.tup (ps.map pr)), some (.tup (qs.map pr)), some (.loc s.length), some (.int (P.length + 1)), some (.int R.length), some (.int (max a.1 b.1)), some (.int (min a.2 b.2))] (s ++ [.lst (fs'.map pr)])) ∧
              (¬ a.2 < b.2 → ∃ m, m < n ∧ BothI ps qs s m [some (.tup (ps.map pr)), some (.tup (qs.map pr)), some (.loc s.length), some (.int P.length), some (.int (R.length + 1)), some (.int (max a.1 b.1)), some (.int (min a.2 b.2))] (s ++ [.lst (fs'.map pr)])) := fun fs' hi' h' hc => by
            have hm : ∀ y, mem y fs' ↔ (mem y fs ∨ (a.1 ≤ y ∧ y ≤ a.2 ∧ b.1 ≤ y ∧ y ≤ b.2)) := fun y => by
              rcases hc with ⟨rfl, _, c⟩ | ⟨rfl, _⟩
              · constructor
                · exact .inl
                · rintro (q | q)
                  · exact q
                  · omega
              · rw [mem_app, mem_cons]
                simp only [mem_nil, or_false]
                constructor
                · rintro (q | q)
                  · exact .inl q
                  · exact .inr (by omega)
                · rintro (q | q)
                  · exact .inl q
                  · exact .inr (by omega)
            have hl : fs'.length ≤ fs.length + 1 := by
              rcases hc with ⟨rfl, _⟩ | ⟨rfl, _⟩ <;> simp
            simp only [List.length_cons] at en hz
            constructor
            · intro c
              refine ⟨A.length + (B.length + 1), by omega, P ++ [a], A, R, b :: B, fs', hi', a.2, lo', some (.int (max a.1 b.1)), some (.int (min a.2 b.2)), by rw [e1]; simp, e2, rfl, by simp, rfl, by omega, n13, ⟨n21, n22, n23⟩, h', fun y m1 m2 => ?_, fun y => ?_⟩
              · have g := n13.ge m1
                rcases hc with ⟨_, rfl, _⟩ | ⟨_, rfl⟩
                · exact low y (mem_cons.mpr (.inr m1)) m2
                · omega
              · rw [eq y, hm y, mem_cons (r := A), mem_cons (r := B)]
                have g := fun m => n13.ge (y := y) m
                have g2 := fun m => n23.ge (y := y) m
                constructor
                · rintro (q | ⟨q | q, r | r⟩)
                  · exact .inl (.inl q)
                  · exact .inl (.inr ⟨q.1, q.2, r.1, r.2⟩)
                  · have := g2 r; omega
                  · exact .inr ⟨q, .inl r⟩
                  · exact .inr ⟨q, .inr r⟩
                · rintro ((q | ⟨q1, q2, q3, q4⟩) | ⟨q, r⟩)
                  · exact .inl q
                  · exact .inr ⟨.inl ⟨q1, q2⟩, .inl ⟨q3, q4⟩⟩
                  · exact .inr ⟨.inr q, r⟩
            · intro c
              refine ⟨(A.length + 1) + B.length, by omega, P, a :: A, R ++ [b], B, fs', hi', lo, b.2, some (.int (max a.1 b.1)), some (.int (min a.2 b.2)), e1, by rw [e2]; simp, by simp, by simp, rfl, by omega, ⟨n11, n12, n13⟩, n23, h', fun y m1 m2 => ?_, fun y => ?_⟩
              · have g := n23.ge m2
                rcases hc with ⟨_, rfl, _⟩ | ⟨_, rfl⟩
                · exact low y m1 (mem_cons.mpr (.inr m2))
                · omega
              · rw [eq y, hm y, mem_cons (r := A), mem_cons (r := B)]
                have g := fun m => n13.ge (y := y) m
                have g2 := fun m => n23.ge (y := y) m
                constructor
                · rintro (q | ⟨q | q, r | r⟩)
                  · exact .inl (.inl q)
                  · exact .inl (.inr ⟨q.1, q.2, r.1, r.2⟩)
                  · exact .inr ⟨.inl q, r⟩
                  · have := g q; omega
                  · exact .inr ⟨.inr q, r⟩
                · rintro ((q | ⟨q1, q2, q3, q4⟩) | ⟨q, r⟩)
                  · exact .inl q
                  · exact .inr ⟨.inl ⟨q1, q2⟩, .inl ⟨q3, q4⟩⟩
                  · exact .inr ⟨q, .inr r⟩
          by_cases c : max a.1 b.1 ≤ min a.2 b.2
          · obtain ⟨f1, f2⟩ := fin (fs ++ [(max a.1 b.1, min a.2 b.2)]) (min a.2 b.2) (asc.snoc (low _ (mem_cons.mpr (.inl (by omega))) (mem_cons.mpr (.inl (by omega)))) c) (.inr ⟨rfl, rfl⟩)
            rw [List.map_append] at f1 f2
            have w2 := w1 (.tup [.int (max a.1 b.1), .int (min a.2 b.2)])
            rw [u1] at w2
            by_cases c2 : a.2 < b.2
            · have f := f1 c2
              simp [bl_both_dates_2, z1, z2, ix0, ix1, c, c2, t1, w2]
              simpa [pr] using f
            · have f := f2 c2
              simp [bl_both_dates_2, z1, z2, ix0, ix1, c, c2, t1, w2]
              simpa [pr] using f
          · obtain ⟨f1, f2⟩ := fin fs hi asc (.inl ⟨rfl, rfl, by omega⟩)
            by_cases c2 : a.2 < b.2
            · have f := f1 c2
              simp [bl_both_dates_2, z1, z2, ix0, ix1, c, c2, t1]
              exact f
            · have f := f2 c2
              simp [bl_both_dates_2, z1, z2, ix0, ix1, c, c2, t1]
              exact f
  obtain ⟨env', fs, hi, e, e2, asc, hl, hm⟩ := key
  refine ⟨fs, hi, [.lst (fs.map pr)], ?_, asc, hl, hm⟩
  have w := dTuple_loc (get_new s (.lst (fs.map pr)))
  simp [m_both_dates, b_both_dates, e, eV, e2, w]
end Law
namespace Law
open PySem Mi
/-! ### make_dates -/
theorem py_pr (x : Int × Int) : pyD (pr x) = .tuple [.int x.1, .int x.2] := rfl
theorem ok_pr (L : List (Int × Int)) : sortOk (L.map pr) := by
  refine ⟨fun d hd => ?_, ?_, ?_⟩
  · obtain ⟨x, _, rfl⟩ := List.mem_map.mp hd
    exact ⟨rfl, by rw [py_pr]; simp [PyData.depth, PyData.depthAll]⟩
  · rw [List.map_map]
    exact PySem.W.AllAlike.of (enc := fun x => pyD (pr x)) fun x y => by rw [py_pr, py_pr]; simp [PySem.W.alike, PySem.W.alikeAll]
  · rw [List.map_map]
    exact PySem.W.Sortable.tuples (enc := fun x => pyD (pr x)) fun x => ⟨_, _, py_pr x⟩
theorem sort_pr (L : List (Int × Int)) : ∃ M : List (Int × Int), sortD (L.map pr) = M.map pr ∧ M.Perm L ∧ M.Pairwise fun x y => x.1 ≤ y.1 := by
  have e : (fun x y : Int × Int => PySem.W.dataLe false pyD (pr x) (pr y)) = fun x y => decide (x.1 < y.1 ∨ (x.1 = y.1 ∧ x.2 ≤ y.2)) :=
    PySem.W.dataLe_ii (fun x : Int × Int => x.1) (fun x => x.2)
  refine ⟨L.mergeSort fun x y => decide (x.1 < y.1 ∨ (x.1 = y.1 ∧ x.2 ≤ y.2)), ?_, List.mergeSort_perm _ _, ?_⟩
  · unfold sortD
    rw [← e, List.map_mergeSort (r := fun x y : Int × Int => PySem.W.dataLe false pyD (pr x) (pr y)) (s := PySem.W.dataLe false pyD) fun _ _ _ _ => rfl]
  · have q := List.pairwise_mergeSort (le := fun x y : Int × Int => decide (x.1 < y.1 ∨ (x.1 = y.1 ∧ x.2 ≤ y.2))) (fun a b c h1 h2 => by simp at h1 h2 ⊢; omega) (fun a b => by simp; omega) L
    refine q.imp fun {a b} h => ?_
    simp at h
    omega
def MakeI (d : D) (M : List (Int × Int)) (s0 : Store) (rest : List D) (env : Sl) (s : Store) : Prop := ∃ (P R fs : List (Int × Int)) (o2 o3 : Option D), rest = R.map pr ∧ M = P ++ R ∧
  env = [some d, some (.loc s0.length), o2, o3] ∧ s = s0 ++ ([.lst (fs.map pr)] ++ [.lst (M.map pr)]) ∧ fs.length ≤ P.length ∧ R.Pairwise (fun x y => x.1 ≤ y.1) ∧ (∀ x ∈ R, x.1 ≤ x.2) ∧
  ((P = [] ∧ fs = []) ∨ ∃ F z, fs = F ++ [z] ∧ Asc (F ++ [z]) z.2 ∧ ∀ x ∈ R, z.1 ≤ x.1) ∧ ∀ y, mem y fs ↔ mem y P
theorem make_spec (L : List (Int × Int)) (hv : ∀ x ∈ L, x.1 ≤ x.2) (hz : L.length ≤ 2000) (s : Store) :
    ∃ fs hi r, m_make_dates [.tup (L.map pr)] s = .ok (.tup (fs.map pr)) (s ++ r) ∧ Asc fs hi ∧ fs.length ≤ L.length ∧ ∀ y, mem y fs ↔ mem y L := by
  obtain ⟨M, e1, pm, sm⟩ := sort_pr L
  have w0 : dSorted [.tup (L.map pr)] (s ++ [.lst []]) = some (.loc (s.length + 1), s ++ ([.lst []] ++ [.lst (M.map pr)])) := by
    have q := ok_pr L
    simp [dSorted, seqOf, q, e1]
  have hm : ∀ y, mem y M ↔ mem y L := fun y => ⟨fun ⟨x, h, q⟩ => ⟨x, pm.mem_iff.mp h, q⟩, fun ⟨x, h, q⟩ => ⟨x, pm.mem_iff.mpr h, q⟩⟩
  have lM : M.length ≤ 2000 := by rw [pm.length_eq]; exact hz
  have gM : ∀ fs : List (Int × Int), (s ++ ([Cell.lst (fs.map pr)] ++ [Cell.lst (M.map pr)]))[s.length + 1]? = some (.lst (M.map pr)) := fun fs => by simp
  have gF : ∀ fs : List (Int × Int), (s ++ ([Cell.lst (fs.map pr)] ++ [Cell.lst (M.map pr)]))[s.length]? = some (.lst (fs.map pr)) := fun fs => by simp
  have sF : ∀ (fs : List (Int × Int)) c, (s ++ ([Cell.lst (fs.map pr)] ++ [Cell.lst (M.map pr)])).set s.length c = s ++ ([c] ++ [Cell.lst (M.map pr)]) := fun fs c => by simp
  obtain ⟨env', s', e, P, R, fs, o2, o3, hr, hPR, rfl, rfl, hfl, _, _, hF, hy⟩ := forL_thru (gd := fun s2 => s2[s.length + 1]? = some (Cell.lst (M.map pr))) (g := gT 2 (gsC (gN 2) (gsC (gN 3) gsN))) (b := bl_make_dates_1) (MakeI (.tup (L.map pr)) M s)
    (fun _ _ _ ⟨P, R, fs, o2, o3, _, _, _, h, _⟩ => by subst h; exact gM fs) (xs := M.map pr) (env := [some (.tup (L.map pr)), some (.loc s.length), none, none]) (s := s ++ ([.lst ([].map pr)] ++ [.lst (M.map pr)])) (fun x xs env s1 ⟨P, R, fs, o2, o3, hr, hPR, he, hs, hl, hsort, hval, hF, hy⟩ => by
      subst he hs
      cases R with
      | nil => cases hr
      | cons a R =>
        obtain ⟨rfl, rfl⟩ := List.cons.inj hr
        have hPl : P.length < M.length := by rw [hPR]; simp
        have ha := hval a (by simp)
        obtain ⟨sa, sR⟩ := List.pairwise_cons.mp hsort
        have fin : ∀ F z, Asc (F ++ [z]) z.2 → (∀ x ∈ R, z.1 ≤ x.1) → (F ++ [z]).length ≤ P.length + 1 → (∀ y, mem y (F ++ [z]) ↔ mem y P ∨ (a.1 ≤ y ∧ y ≤ a.2)) →
            MakeI (.tup (L.map pr)) M s (R.map pr) [some (.tup (L.map pr)), some (.loc s.length), some (.int a.1), some (.int a.2)] (s ++ ([.lst ((F ++ [z]).map pr)] ++ [.lst (M.map pr)])) := fun F z h1 h2 h3 h4 =>
          ⟨P ++ [a], R, F ++ [z], _, _, rfl, by rw [hPR]; simp, rfl, rfl, by simpa using h3, sR, fun x hx => hval x (by simp [hx]), .inr ⟨F, z, rfl, h1, h2⟩, fun y => by rw [h4 y]; simp⟩
        have t1 := tyOk_list (gF fs)
        have tr := dTru_loc (gF fs)
        rcases hF with ⟨rfl, rfl⟩ | ⟨F, z, rfl, asc, zs⟩
        · have w1 := dAppend_loc (gF []) (by simp) (.tup [.int a.1, .int a.2])
          rw [sF] at w1
          have f := fin [] a ((Asc.nil (a.1 - 2)).snoc (by omega) ha) sa (by simp) (fun y => by simp)
          simp at tr t1 w1
          simp [pr, bl_make_dates_1, tr, t1, w1]
          simpa [pr] using f
        · obtain ⟨af, az, _⟩ := asc.front
          have za := zs a (by simp)
          have gl := gF (F ++ [z])
          rw [List.map_append] at gl
          have lx : dIx (.loc s.length) (.int (-1)) (s ++ ([Cell.lst ((F ++ [z]).map pr)] ++ [Cell.lst (M.map pr)])) = some (.tup [.int z.1, .int z.2], s ++ ([Cell.lst ((F ++ [z]).map pr)] ++ [Cell.lst (M.map pr)])) := by
            rw [dIx_loc (gF (F ++ [z])), List.map_append]
            have q := atI_neg1 (F.map pr) (pr z)
            rw [show [z].map pr = [pr z] from rfl, q]
            rfl
          have tr' : dTru (s ++ ([Cell.lst ((F ++ [z]).map pr)] ++ [Cell.lst (M.map pr)])) (.loc s.length) = some true := by rw [tr]; simp
          simp only [List.length_append, List.length_cons, List.length_nil] at hl
          have rest : ∀ S, S = s ++ ([Cell.lst ((F ++ [z]).map pr)] ++ [Cell.lst (M.map pr)]) → tyOk "list" S (.loc s.length) = true → dTru S (.loc s.length) = some true → dIx (.loc s.length) (.int (-1)) S = some (.tup [.int z.1, .int z.2], S) →
              Turns (MakeI (.tup (L.map pr)) M s (R.map pr)) (fun _ => False) (turn (gT 2 (gsC (gN 2) (gsC (gN 3) gsN))) bl_make_dates_1 (pr a) [some (.tup (L.map pr)), some (.loc s.length), o2, o3] S) := fun S hS t1 tr' lx => by
            by_cases c : z.2 + 1 < a.1
            · have w1 := dAppend_loc (gF (F ++ [z])) (by simp; omega) (.tup [.int a.1, .int a.2])
              rw [sF, ← hS] at w1
              have f := fin (F ++ [z]) a (asc.snoc (by omega) ha) sa (by simp; omega) (fun y => by rw [mem_app, hy y]; simp)
              simp [pr, bl_make_dates_1, tr', t1, lx, w1, c, ix0, ix1]
              simpa [pr] using f
            · by_cases c2 : z.2 < a.2
              · have w2 := pList_last (s := S) (l := s.length) (xs := F.map pr) (y := pr z) (by rw [hS]; simp) (.tup [.int z.1, .int a.2])
                rw [show S.set s.length (Cell.lst (F.map pr ++ [.tup [.int z.1, .int a.2]])) = s ++ ([Cell.lst (F.map pr ++ [.tup [.int z.1, .int a.2]])] ++ [Cell.lst (M.map pr)]) by rw [hS, sF]] at w2
                have f := fin F (z.1, a.2) (af.snoc (x := (z.1, a.2)) (by show z.1 - 2 + 2 ≤ z.1; omega) (by show z.1 ≤ a.2; omega)) (fun x hx => zs x (by simp [hx])) (by simp; omega) (fun y => by
                  have q := hy y
                  rw [mem_app, mem_cons] at q ⊢
                  simp only [mem_nil, or_false] at q ⊢
                  rw [← q]
                  constructor
                  · rintro (m | ⟨m1, m2⟩)
                    · exact .inl (.inl m)
                    · by_cases c3 : y ≤ z.2
                      · exact .inl (.inr ⟨m1, c3⟩)
                      · exact .inr (by omega)
                  · rintro ((m | ⟨m1, m2⟩) | ⟨m1, m2⟩)
                    · exact .inl m
                    · exact .inr ⟨m1, by omega⟩
                    · exact .inr ⟨by omega, m2⟩)
                simp [pr, bl_make_dates_1, tr', t1, lx, c, c2, ix0, ix1, w2]
                simpa [pr] using f
              · have f := fin F z asc (fun x hx => zs x (by simp [hx])) (by simp; omega) (fun y => by
                  have q := hy y
                  rw [mem_app, mem_cons] at q ⊢
                  simp only [mem_nil, or_false] at q ⊢
                  rw [← q]
                  constructor
                  · rintro m
                    exact .inl m
                  · rintro (m | ⟨m1, m2⟩)
                    · exact m
                    · exact .inr ⟨by omega, by omega⟩)
                rw [← hS] at f
                simp [pr, bl_make_dates_1, tr', t1, lx, c, c2, ix0, ix1]
                exact f
          exact rest _ rfl t1 tr' lx)
    ⟨[], M, [], none, none, rfl, rfl, rfl, rfl, by simp, sm, fun x hx => hv x (pm.mem_iff.mp hx), .inl ⟨rfl, rfl⟩, fun y => Iff.rfl⟩
  have hR : R = [] := by
    cases R with
    | nil => rfl
    | cons _ _ => cases hr
  subst hR
  rw [List.append_nil] at hPR
  rw [← hPR] at hy hfl
  rw [pm.length_eq] at hfl
  have asc : ∃ hi, Asc fs hi := by
    rcases hF with ⟨_, rfl⟩ | ⟨F, z, rfl, q, _⟩
    · exact ⟨0, Asc.nil _⟩
    · exact ⟨_, q⟩
  obtain ⟨hi, asc⟩ := asc
  have g1 := gM []
  have g2 := dTuple_loc (gF fs)
  refine ⟨fs, hi, [.lst (fs.map pr)] ++ [.lst (M.map pr)], ?_, asc, hfl, fun y => (hy y).trans (hm y)⟩
  clear hPR hF hr gF sF
  generalize M.map pr = ms at *
  generalize fs.map pr = gs at *
  simp only [List.map_nil] at e g1
  simp only [List.cons_append, List.nil_append] at *
  simp [m_make_dates, b_make_dates, w0, g1, e, g2]
end Law
namespace Law
open PySem Mi
/-! ### outside_dates -/
def OutI (ps : List (Int × Int)) (first last : Int) (s0 : Store) (rest : List D) (env : Sl) (s : Store) : Prop := ∃ (P R fs : List (Int × Int)) (low hi lo : Int) (o5 o6 o7 : Option D), rest = R.map pr ∧ ps = P ++ R ∧
  env = [some (.int first), some (.int last), some (.tup (ps.map pr)), some (.loc s0.length), some (.int low), o5, o6, o7] ∧ s = s0 ++ [.lst (fs.map pr)] ∧ fs.length ≤ P.length ∧ Nrm lo R ∧ Asc fs hi ∧ hi + 2 ≤ low ∧ first ≤ low ∧
  (∀ y, mem y P → y < low) ∧ ∀ y, mem y fs ↔ (first ≤ y ∧ y ≤ last ∧ y < low ∧ ¬ mem y ps)
theorem outside_spec {ps : List (Int × Int)} {h : Int} (asc : Asc ps h) (hz : ps.length ≤ 1000) (first last : Int) (s : Store) :
    ∃ fs hi r, m_outside_dates [.int first, .int last, .tup (ps.map pr)] s = .ok (.tup (fs.map pr)) (s ++ r) ∧ Asc fs hi ∧ fs.length ≤ ps.length + 1 ∧ ∀ y, mem y fs ↔ (first ≤ y ∧ y ≤ last ∧ ¬ mem y ps) := by
  obtain ⟨lo0, nrm, _⟩ := asc
  have gF : ∀ fs : List (Int × Int), (s ++ [Cell.lst (fs.map pr)])[s.length]? = some (.lst (fs.map pr)) := fun fs => get_new _ _
  have sF : ∀ (fs : List (Int × Int)) c, (s ++ [Cell.lst (fs.map pr)]).set s.length c = s ++ [c] := fun fs c => by simp
  obtain ⟨env', s', e, P, R, fs, low, hi, lo, o5, o6, o7, hr, hPR, rfl, rfl, hfl, _, asc, g1, g2, g3, g4⟩ := forL_thru (gd := always) (g := gT 2 (gsC (gN 5) (gsC (gN 6) gsN))) (b := bl_outside_dates_1) (OutI ps first last s) (fun _ _ _ _ => trivial) (xs := ps.map pr)
    (env := [some (.int first), some (.int last), some (.tup (ps.map pr)), some (.loc s.length), some (.int first), none, none, none]) (s := s ++ [.lst ([].map pr)]) (fun x xs env s1 ⟨P, R, fs, low, hi, lo, o5, o6, o7, hr, hPR, he, hs, hl, hn, asc, g1, g2, g3, g4⟩ => by
      subst he hs
      cases R with
      | nil => cases hr
      | cons a R =>
        obtain ⟨rfl, rfl⟩ := List.cons.inj hr
        obtain ⟨n1, n2, n3⟩ := hn
        have hm : ∀ y, mem y ps ↔ (mem y P ∨ (a.1 ≤ y ∧ y ≤ a.2) ∨ mem y R) := fun y => by rw [hPR]; simp
        have hPl : P.length < ps.length := by rw [hPR]; simp
        have t1 := tyOk_list (gF fs)
        have g3' : ∀ y, mem y (P ++ [a]) → y < max low (a.2 + 1) := fun y hy => by
          rcases mem_app.mp hy with q | q
          · have := g3 y q; omega
          · rcases mem_cons.mp q with q | q
            · omega
            · exact (mem_nil _ q).elim
        by_cases c : low ≤ min (a.1 - 1) last
        · have w1 := dAppend_loc (gF fs) (by simp; omega) (.tup [.int low, .int (min (a.1 - 1) last)])
          rw [sF] at w1
          have f : OutI ps first last s (R.map pr) [some (.int first), some (.int last), some (.tup (ps.map pr)), some (.loc s.length), some (.int (max low (a.2 + 1))), some (.int a.1), some (.int a.2), some (.int (min (a.1 - 1) last))] (s ++ [.lst ((fs ++ [(low, min (a.1 - 1) last)]).map pr)]) :=
            ⟨P ++ [a], R, fs ++ [(low, min (a.1 - 1) last)], max low (a.2 + 1), min (a.1 - 1) last, a.2, _, _, _, rfl, by rw [hPR]; simp, rfl, rfl, by simpa using hl, n3, asc.snoc g1 c, by omega, by omega, g3', fun y => by
              rw [mem_app, g4 y, mem_cons]
              simp only [mem_nil, or_false]
              have q := hm y
              have q3 := g3 y
              have qR := fun m => n3.ge (y := y) m
              constructor
              · rintro (⟨z1, z2, z3, z4⟩ | ⟨z1, z2⟩)
                · exact ⟨z1, z2, by omega, z4⟩
                · refine ⟨by omega, by omega, by omega, fun m => ?_⟩
                  rcases q.mp m with m | m | m
                  · have := q3 m; omega
                  · omega
                  · have := qR m; omega
              · rintro ⟨z1, z2, z3, z4⟩
                by_cases c2 : y < low
                · exact .inl ⟨z1, z2, c2, z4⟩
                · refine .inr ⟨by omega, ?_⟩
                  have : ¬ (a.1 ≤ y ∧ y ≤ a.2) := fun m => z4 (q.mpr (.inr (.inl m)))
                  omega⟩
          simp [pr, bl_outside_dates_1, c, t1, w1]
          simpa [pr] using f
        · have f : OutI ps first last s (R.map pr) [some (.int first), some (.int last), some (.tup (ps.map pr)), some (.loc s.length), some (.int (max low (a.2 + 1))), some (.int a.1), some (.int a.2), some (.int (min (a.1 - 1) last))] (s ++ [.lst (fs.map pr)]) :=
            ⟨P ++ [a], R, fs, max low (a.2 + 1), hi, a.2, _, _, _, rfl, by rw [hPR]; simp, rfl, rfl, by simp; omega, n3, asc, by omega, by omega, g3', fun y => by
              rw [g4 y]
              have q := hm y
              constructor
              · rintro ⟨z1, z2, z3, z4⟩
                exact ⟨z1, z2, by omega, z4⟩
              · rintro ⟨z1, z2, z3, z4⟩
                have : ¬ (a.1 ≤ y ∧ y ≤ a.2) := fun m => z4 (q.mpr (.inr (.inl m)))
                exact ⟨z1, z2, by omega, z4⟩⟩
          simp [pr, bl_outside_dates_1, c]
          exact f)
    ⟨[], ps, [], first, first - 2, lo0, none, none, none, rfl, rfl, rfl, rfl, by simp, nrm, Asc.nil _, by omega, by omega, fun y m => (mem_nil _ m).elim, fun y => ⟨fun m => (mem_nil _ m).elim, fun m => by omega⟩⟩
  have hR : R = [] := by
    cases R with
    | nil => rfl
    | cons _ _ => cases hr
  subst hR
  rw [List.append_nil] at hPR
  rw [← hPR] at g3 hfl
  simp only [List.map_nil] at e
  by_cases c : low ≤ last
  · have w1 := dAppend_loc (gF fs) (by simp; omega) (.tup [.int low, .int last])
    rw [sF] at w1
    have w2 := dTuple_loc (gF (fs ++ [(low, last)]))
    have t1 := tyOk_list (gF fs)
    refine ⟨fs ++ [(low, last)], last, [.lst ((fs ++ [(low, last)]).map pr)], ?_, asc.snoc g1 c, by simp; omega, fun y => ?_⟩
    · rw [List.map_append] at w2 ⊢
      rw [show [(low, last)].map pr = [.tup [.int low, .int last]] from rfl] at w2 ⊢
      simp [m_outside_dates, b_outside_dates, e, c, t1, w1, w2]
    · rw [mem_app, g4 y, mem_cons]
      simp only [mem_nil, or_false]
      have q3 := g3 y
      constructor
      · rintro (⟨z1, z2, z3, z4⟩ | ⟨z1, z2⟩)
        · exact ⟨z1, z2, z4⟩
        · refine ⟨by omega, by omega, fun m => ?_⟩
          have := q3 m
          omega
      · rintro ⟨z1, z2, z4⟩
        by_cases c2 : y < low
        · exact .inl ⟨z1, z2, c2, z4⟩
        · exact .inr ⟨by omega, by omega⟩
  · have w2 := dTuple_loc (gF fs)
    refine ⟨fs, hi, [.lst (fs.map pr)], ?_, asc, by omega, fun y => ?_⟩
    · simp [m_outside_dates, b_outside_dates, e, c, w2]
    · rw [g4 y]
      constructor
      · rintro ⟨z1, z2, z3, z4⟩
        exact ⟨z1, z2, z4⟩
      · rintro ⟨z1, z2, z4⟩
        exact ⟨z1, z2, by omega, z4⟩
/-! ### the law's own -/
def LoutI (ps : List (Int × Int)) (first last : Int) (s0 : Store) (rest : List D) (env : Sl) (s : Store) : Prop := ∃ (P R fs : List (Int × Int)) (year hi lo : Int) (o5 : Option D), rest = R.map pr ∧ ps = P ++ R ∧
  env = [some (.int first), some (.int last), some (.tup (ps.map pr)), some (.loc s0.length), some (.int year), o5] ∧ s = s0 ++ [.lst (fs.map pr)] ∧ fs.length ≤ P.length ∧ Nrm lo R ∧ Asc fs hi ∧ hi + 2 ≤ year ∧ first ≤ year ∧ (year = first ∨ year ≤ lo + 1) ∧
  (∀ y, mem y P → y ≤ last → y < year) ∧ ∀ y, mem y fs ↔ (first ≤ y ∧ y ≤ last ∧ y < year ∧ ¬ mem y ps)
theorem lout_spec {ps : List (Int × Int)} {h : Int} (asc : Asc ps h) (hz : ps.length ≤ 1000) (first last : Int) (s : Store) :
    ∃ fs hi r, m_d_law_outside [.int first, .int last, .tup (ps.map pr)] s = .ok (.tup (fs.map pr)) (s ++ r) ∧ Asc fs hi ∧ fs.length ≤ ps.length + 1 ∧ ∀ y, mem y fs ↔ (first ≤ y ∧ y ≤ last ∧ ¬ mem y ps) := by
  obtain ⟨lo0, nrm, _⟩ := asc
  have gF : ∀ fs : List (Int × Int), (s ++ [Cell.lst (fs.map pr)])[s.length]? = some (.lst (fs.map pr)) := fun fs => get_new _ _
  have sF : ∀ (fs : List (Int × Int)) c, (s ++ [Cell.lst (fs.map pr)]).set s.length c = s ++ [c] := fun fs c => by simp
  obtain ⟨env', s', e, P, R, fs, low, hi, lo, o5, hr, hPR, rfl, rfl, hfl, _, asc, g1, g2, _, g3, g4⟩ := forL_thru (gd := always) (g := gN 5) (b := bl_d_law_outside_1) (LoutI ps first last s) (fun _ _ _ _ => trivial) (xs := ps.map pr)
    (env := [some (.int first), some (.int last), some (.tup (ps.map pr)), some (.loc s.length), some (.int first), none]) (s := s ++ [.lst ([].map pr)]) (fun x xs env s1 ⟨P, R, fs, low, hi, lo, o5, hr, hPR, he, hs, hl, hn, asc, g1, g2, gy, g3, g4⟩ => by
      subst he hs
      cases R with
      | nil => cases hr
      | cons a R =>
        obtain ⟨rfl, rfl⟩ := List.cons.inj hr
        obtain ⟨n1, n2, n3⟩ := hn
        have hm : ∀ y, mem y ps ↔ (mem y P ∨ (a.1 ≤ y ∧ y ≤ a.2) ∨ mem y R) := fun y => by rw [hPR]; simp
        have hPl : P.length < ps.length := by rw [hPR]; simp
        have t1 := tyOk_list (gF fs)
        by_cases ca : first ≤ a.2 ∧ a.1 ≤ last
        · obtain ⟨ca1, ca2⟩ := ca
          have up : low ≤ a.2 + 1 := by omega
          have g3' : ∀ y, mem y (P ++ [a]) → y ≤ last → y < a.2 + 1 := fun y hy hl => by
            rcases mem_app.mp hy with q | q
            · have := g3 y q hl; omega
            · rcases mem_cons.mp q with q | q
              · omega
              · exact (mem_nil _ q).elim
          by_cases c : low < a.1
          · have w1 := dAppend_loc (gF fs) (by simp; omega) (.tup [.int low, .int (a.1 - 1)])
            rw [sF] at w1
            have f : LoutI ps first last s (R.map pr) [some (.int first), some (.int last), some (.tup (ps.map pr)), some (.loc s.length), some (.int (a.2 + 1)), some (pr a)] (s ++ [.lst ((fs ++ [(low, a.1 - 1)]).map pr)]) :=
              ⟨P ++ [a], R, fs ++ [(low, a.1 - 1)], a.2 + 1, a.1 - 1, a.2, _, rfl, by rw [hPR]; simp, rfl, rfl, by simpa using hl, n3, asc.snoc (x := (low, a.1 - 1)) g1 (by show low ≤ a.1 - 1; omega), by omega, by omega, .inr (by omega), g3', fun y => by
                rw [mem_app, g4 y, mem_cons]
                simp only [mem_nil, or_false]
                have q := hm y
                have q3 := g3 y
                have qR := fun m => n3.ge (y := y) m
                constructor
                · rintro (⟨z1, z2, z3, z4⟩ | ⟨z1, z2⟩)
                  · exact ⟨z1, z2, by omega, z4⟩
                  · refine ⟨by omega, by omega, by omega, fun m => ?_⟩
                    rcases q.mp m with m | m | m
                    · have := q3 m (by omega); omega
                    · omega
                    · have := qR m; omega
                · rintro ⟨z1, z2, z3, z4⟩
                  by_cases c2 : y < low
                  · exact .inl ⟨z1, z2, c2, z4⟩
                  · refine .inr ⟨by omega, ?_⟩
                    have : ¬ (a.1 ≤ y ∧ y ≤ a.2) := fun m => z4 (q.mpr (.inr (.inl m)))
                    omega⟩
            simp [pr, bl_d_law_outside_1, ix0, ix1, ca1, ca2, c, t1, w1]
            simpa [pr] using f
          · have f : LoutI ps first last s (R.map pr) [some (.int first), some (.int last), some (.tup (ps.map pr)), some (.loc s.length), some (.int (a.2 + 1)), some (pr a)] (s ++ [.lst (fs.map pr)]) :=
              ⟨P ++ [a], R, fs, a.2 + 1, hi, a.2, _, rfl, by rw [hPR]; simp, rfl, rfl, by simp; omega, n3, asc, by omega, by omega, .inr (by omega), g3', fun y => by
                rw [g4 y]
                have q := hm y
                constructor
                · rintro ⟨z1, z2, z3, z4⟩
                  exact ⟨z1, z2, by omega, z4⟩
                · rintro ⟨z1, z2, z3, z4⟩
                  have : ¬ (a.1 ≤ y ∧ y ≤ a.2) := fun m => z4 (q.mpr (.inr (.inl m)))
                  exact ⟨z1, z2, by omega, z4⟩⟩
            simp [pr, bl_d_law_outside_1, ix0, ix1, ca1, ca2, c]
            exact f
        · have f : LoutI ps first last s (R.map pr) [some (.int first), some (.int last), some (.tup (ps.map pr)), some (.loc s.length), some (.int low), some (pr a)] (s ++ [.lst (fs.map pr)]) :=
            ⟨P ++ [a], R, fs, low, hi, a.2, _, rfl, by rw [hPR]; simp, rfl, rfl, by simp; omega, n3, asc, g1, g2, by omega, fun y hy hl => by
              rcases mem_app.mp hy with q | q
              · exact g3 y q hl
              · rcases mem_cons.mp q with q | q
                · omega
                · exact (mem_nil _ q).elim, g4⟩
          by_cases ca1 : first ≤ a.2
          · have ca2 : ¬ a.1 ≤ last := fun h => ca ⟨ca1, h⟩
            simp [pr, bl_d_law_outside_1, ix0, ix1, ca1, ca2]
            exact f
          · simp [pr, bl_d_law_outside_1, ix0, ix1, ca1]
            exact f)
    ⟨[], ps, [], first, first - 2, lo0, none, rfl, rfl, rfl, rfl, by simp, nrm, Asc.nil _, by omega, by omega, .inl rfl, fun y m => (mem_nil _ m).elim, fun y => ⟨fun m => (mem_nil _ m).elim, fun m => by omega⟩⟩
  have hR : R = [] := by
    cases R with
    | nil => rfl
    | cons _ _ => cases hr
  subst hR
  rw [List.append_nil] at hPR
  rw [← hPR] at g3 hfl
  simp only [List.map_nil] at e
  by_cases c : low ≤ last
  · have w1 := dAppend_loc (gF fs) (by simp; omega) (.tup [.int low, .int last])
    rw [sF] at w1
    have w2 := dTuple_loc (gF (fs ++ [(low, last)]))
    have t1 := tyOk_list (gF fs)
    refine ⟨fs ++ [(low, last)], last, [.lst ((fs ++ [(low, last)]).map pr)], ?_, asc.snoc g1 c, by simp; omega, fun y => ?_⟩
    · rw [List.map_append] at w2 ⊢
      rw [show [(low, last)].map pr = [.tup [.int low, .int last]] from rfl] at w2 ⊢
      simp [m_d_law_outside, b_d_law_outside, e, c, t1, w1, w2]
    · rw [mem_app, g4 y, mem_cons]
      simp only [mem_nil, or_false]
      have q3 := g3 y
      constructor
      · rintro (⟨z1, z2, z3, z4⟩ | ⟨z1, z2⟩)
        · exact ⟨z1, z2, z4⟩
        · refine ⟨by omega, by omega, fun m => ?_⟩
          have := q3 m (by omega)
          omega
      · rintro ⟨z1, z2, z4⟩
        by_cases c2 : y < low
        · exact .inl ⟨z1, z2, c2, z4⟩
        · exact .inr ⟨by omega, by omega⟩
  · have w2 := dTuple_loc (gF fs)
    refine ⟨fs, hi, [.lst (fs.map pr)], ?_, asc, by omega, fun y => ?_⟩
    · simp [m_d_law_outside, b_d_law_outside, e, c, w2]
    · rw [g4 y]
      constructor
      · rintro ⟨z1, z2, z3, z4⟩
        exact ⟨z1, z2, z4⟩
      · rintro ⟨z1, z2, z4⟩
        exact ⟨z1, z2, by omega, z4⟩
end Law
namespace Law
open PySem Mi
/-! ### moved and turned -/
theorem moved_spec (ps : List (Int × Int)) (hz : ps.length ≤ 1000) (by_ : Int) (s : Store) : ∃ r, m_moved_dates [.tup (ps.map pr), .int by_] s = .ok (.tup ((ps.map fun x => (x.1 + by_, x.2 + by_)).map pr)) (s ++ r) := by
  have e := lcL_map (gd := always) (g := gT 2 (gsC (gN 2) (gsC (gN 3) gsN))) (t := tT) (e := le_moved_dates_1) (env := [some (.tup (ps.map pr)), some (.int by_), none, none]) (s := s) trivial pr (fun x => pr (x.1 + by_, x.2 + by_)) ps (fun x _ => by simp [pr, le_moved_dates_1]) (by omega)
  have e2 : (ps.map fun x => pr (x.1 + by_, x.2 + by_)) = (ps.map fun x => (x.1 + by_, x.2 + by_)).map pr := by simp
  rw [e2] at e
  generalize (ps.map fun x => (x.1 + by_, x.2 + by_)).map pr = qs at e
  have w := dTuple_loc (get_new s (.lst qs))
  exact ⟨[.lst qs], by simp [m_moved_dates, b_moved_dates, e, w]⟩
theorem turned_spec (ps : List (Int × Int)) (hz : ps.length ≤ 1000) (a b : Int) (s : Store) : ∃ r, m_turned_dates [.int a, .int b, .tup (ps.map pr)] s = .ok (.tup ((ps.reverse.map fun x => (a + b - x.2, a + b - x.1)).map pr)) (s ++ r) := by
  have e := lcL_map (gd := always) (g := gT 2 (gsC (gN 4) (gsC (gN 5) gsN))) (t := tT) (e := le_turned_dates_1) (env := [some (.int a), some (.int b), some (.tup (ps.map pr)), some (.int (a + b)), none, none]) (s := s) trivial pr (fun x => pr (a + b - x.2, a + b - x.1)) ps.reverse (fun x _ => by simp [pr, le_turned_dates_1]) (by simp; omega)
  have e2 : (ps.reverse.map fun x => pr (a + b - x.2, a + b - x.1)) = (ps.reverse.map fun x => (a + b - x.2, a + b - x.1)).map pr := by rw [List.map_map]; rfl
  have e3 : ∀ s, dRev (.tup (ps.map pr)) s = some (.tup (ps.reverse.map pr), s) := fun s => by simp [dRev]
  rw [e2] at e
  generalize (ps.reverse.map fun x => (a + b - x.2, a + b - x.1)).map pr = qs at e
  generalize ps.reverse.map pr = rs at e e3
  generalize ps.map pr = ts at e e3
  have w := dTuple_loc (get_new s (.lst qs))
  exact ⟨[.lst qs], by simp [m_turned_dates, b_turned_dates, e3, e, w]⟩
/-! ### pieces -/
def cut (cs : List Int) (i : Nat) : Int := cs.getD i 0
def flag (fl : List Bool) (i : Nat) : Bool := fl.getD i false
def Inc (cs : List Int) : Prop := ∀ i, i + 1 < cs.length → cut cs i < cut cs (i + 1)
def pm (cs : List Int) (f : Nat → Bool) (n : Nat) (y : Int) : Prop := ∃ k, k < n ∧ f k = true ∧ cut cs k ≤ y ∧ y < cut cs (k + 1)
theorem pm_succ (cs : List Int) (f : Nat → Bool) (n : Nat) (y : Int) : pm cs f (n + 1) y ↔ pm cs f n y ∨ (f n = true ∧ cut cs n ≤ y ∧ y < cut cs (n + 1)) := by
  constructor
  · rintro ⟨k, h, q⟩
    by_cases c : k = n
    · exact .inr (c ▸ q)
    · exact .inl ⟨k, by omega, q⟩
  · rintro (⟨k, h, q⟩ | q)
    · exact ⟨k, by omega, q⟩
    · exact ⟨n, by omega, q⟩
theorem Inc.le {cs : List Int} (h : Inc cs) : ∀ {i j : Nat}, i ≤ j → j < cs.length → cut cs i ≤ cut cs j := by
  intro i j hij
  induction j with
  | zero => intro _; rw [show i = 0 by omega]; exact Int.le_refl _
  | succ j ih =>
    intro hj
    by_cases c : i = j + 1
    · rw [c]; exact Int.le_refl _
    · have := ih (by omega) (by omega)
      have := h j hj
      omega
theorem Inc.one {cs : List Int} (h : Inc cs) {i j : Nat} {y : Int} (hi : i + 1 < cs.length) (hj : j + 1 < cs.length) (a : cut cs i ≤ y) (b : y < cut cs (i + 1)) (c : cut cs j ≤ y) (d : y < cut cs (j + 1)) : i = j := by
  rcases (by omega : i = j ∨ i + 1 ≤ j ∨ j + 1 ≤ i) with e | e | e
  · exact e
  · have := h.le e (by omega); omega
  · have := h.le e (by omega); omega
theorem pm_and {cs : List Int} (h : Inc cs) {f g : Nat → Bool} {n : Nat} (hn : n < cs.length) (y : Int) : pm cs (fun k => f k && g k) n y ↔ (pm cs f n y ∧ pm cs g n y) := by
  constructor
  · rintro ⟨k, a, b, c⟩
    simp at b
    exact ⟨⟨k, a, b.1, c⟩, ⟨k, a, b.2, c⟩⟩
  · rintro ⟨⟨k, a, b, c⟩, ⟨j, d, e, g⟩⟩
    have := h.one (by omega) (by omega) c.1 c.2 g.1 g.2
    subst this
    exact ⟨k, a, by simp [b, e], c⟩
theorem pm_or {cs : List Int} {f g : Nat → Bool} {n : Nat} (y : Int) : pm cs (fun k => f k || g k) n y ↔ (pm cs f n y ∨ pm cs g n y) := by
  constructor
  · rintro ⟨k, a, b, c⟩
    simp at b
    rcases b with b | b
    · exact .inl ⟨k, a, b, c⟩
    · exact .inr ⟨k, a, b, c⟩
  · rintro (⟨k, a, b, c⟩ | ⟨k, a, b, c⟩)
    · exact ⟨k, a, by simp [b], c⟩
    · exact ⟨k, a, by simp [b], c⟩
theorem ixI {s : Store} {l i : Nat} {cs : List Int} (h : s[l]? = some (.lst (cs.map D.int))) (hi : i < cs.length) : dIx (.loc l) (.int (i : Nat)) s = some (.int (cut cs i), s) := by
  rw [dIx_loc h, atI_ofNat _ _ (.int (cut cs i)) (by simp [cut, hi])]
  rfl
theorem ixB {s : Store} {l i : Nat} {fl : List Bool} (h : s[l]? = some (.lst (fl.map D.bl))) (hi : i < fl.length) : dIx (.loc l) (.int (i : Nat)) s = some (.bl (flag fl i), s) := by
  rw [dIx_loc h, atI_ofNat _ _ (.bl (flag fl i)) (by simp [flag, hi])]
  rfl
def DatI (lc lf : Nat) (cs : List Int) (fl : List Bool) (s0 : Store) (i : Nat) (env : Sl) (s : Store) : Prop := ∃ (F : List (Int × Int)) (o3 o4 : Option D), env = [some (.loc lc), some (.loc lf), some (.loc s0.length), o3, o4] ∧ s = s0 ++ [.lst (F.map pr)] ∧ F.length ≤ i ∧
  (∀ y, mem y F ↔ pm cs (flag fl) i y) ∧ ((i = 0 ∧ F = []) ∨ (0 < i ∧ flag fl (i - 1) = true ∧ ∃ F' a, F = F' ++ [(a, cut cs i - 1)] ∧ Asc F' (a - 2) ∧ a ≤ cut cs i - 1) ∨ (0 < i ∧ flag fl (i - 1) = false ∧ ∃ hi, Asc F hi ∧ hi + 2 ≤ cut cs i))
theorem ldates_spec {lc lf : Nat} {cs : List Int} {fl : List Bool} {s : Store} (hc : s[lc]? = some (.lst (cs.map D.int))) (hf : s[lf]? = some (.lst (fl.map D.bl))) (hn : cs.length = fl.length + 1) (inc : Inc cs) (hz : fl.length ≤ 1000) :
    ∃ F hi r, m_d_law_dates [.loc lc, .loc lf] s = .ok (.tup (F.map pr)) (s ++ r) ∧ Asc F hi ∧ F.length ≤ fl.length ∧ ∀ y, mem y F ↔ pm cs (flag fl) fl.length y := by
  have gF : ∀ fs : List (Int × Int), (s ++ [Cell.lst (fs.map pr)])[s.length]? = some (.lst (fs.map pr)) := fun fs => get_new _ _
  have sF : ∀ (fs : List (Int × Int)) c, (s ++ [Cell.lst (fs.map pr)]).set s.length c = s ++ [c] := fun fs c => by simp
  have kc : ∀ c : Cell, (s ++ [c])[lc]? = some (.lst (cs.map D.int)) := fun c => by rw [List.getElem?_append_left (lt_of_get hc)]; exact hc
  have kf : ∀ c : Cell, (s ++ [c])[lf]? = some (.lst (fl.map D.bl)) := fun c => by rw [List.getElem?_append_left (lt_of_get hf)]; exact hf
  obtain ⟨env', s', e, F, o3, o4, rfl, rfl, hl, hm, hsh⟩ := forL_rangeT (gd := always) (g := gN 3) (b := bl_d_law_dates_1) fl.length (DatI lc lf cs fl s) (fun _ _ _ _ _ => trivial) (env := [some (.loc lc), some (.loc lf), some (.loc s.length), none, none]) (s := s ++ [.lst ([].map pr)]) (fun i env s1 hi ⟨F, o3, o4, he, hs, hl, hm, hsh⟩ => by
      subst he hs
      have ci : cut cs i < cut cs (i + 1) := inc i (by omega)
      have z1 : ∀ c, dIx (.loc lc) (.int (i : Nat)) (s ++ [c]) = some (.int (cut cs i), s ++ [c]) := fun c => ixI (kc c) (by omega)
      have z2 : ∀ c, dIx (.loc lc) (.int ((i : Int) + 1)) (s ++ [c]) = some (.int (cut cs (i + 1)), s ++ [c]) := fun c => ixI (i := i + 1) (kc c) (by omega)
      have z3 : ∀ c, dIx (.loc lf) (.int (i : Nat)) (s ++ [c]) = some (.bl (flag fl i), s ++ [c]) := fun c => ixB (kf c) hi
      have t1 : ∀ fs : List (Int × Int), tyOk "list" (s ++ [Cell.lst (fs.map pr)]) (.loc s.length) = true := fun fs => tyOk_list (gF fs)
      have ps := pm_succ cs (flag fl) i
      cases cf : flag fl i with
      | false =>
        rw [cf] at z3
        have f : DatI lc lf cs fl s (i + 1) [some (.loc lc), some (.loc lf), some (.loc s.length), some (.int (i : Nat)), some (.int (cut cs i))] (s ++ [.lst (F.map pr)]) :=
          ⟨F, _, _, rfl, rfl, by omega, fun y => by rw [ps y, cf, hm y]; simp, .inr (.inr ⟨by omega, cf, by
            rcases hsh with ⟨_, rfl⟩ | ⟨_, _, F', a, rfl, h1, h2⟩ | ⟨_, _, hi, h1, h2⟩
            · exact ⟨cut cs (i + 1) - 2, Asc.nil _, by omega⟩
            · exact ⟨_, h1.snoc (x := (a, cut cs i - 1)) (by show a - 2 + 2 ≤ a; omega) h2, by show cut cs i - 1 + 2 ≤ _; omega⟩
            · exact ⟨hi, h1, by omega⟩⟩)⟩
        simp [bl_d_law_dates_1, z1, z2, z3]
        exact f
      | true =>
        rw [cf] at z3
        have fin : ∀ F' a, Asc F' (a - 2) → a ≤ cut cs i → F'.length ≤ i → (∀ y, mem y (F' ++ [(a, cut cs (i + 1) - 1)]) ↔ (mem y F ∨ (cut cs i ≤ y ∧ y < cut cs (i + 1)))) →
            DatI lc lf cs fl s (i + 1) [some (.loc lc), some (.loc lf), some (.loc s.length), some (.int (i : Nat)), some (.int a)] (s ++ [.lst (F'.map pr ++ [.tup [.int a, .int (cut cs (i + 1) - 1)]])]) := fun F' a h1 h2 h3 h4 =>
          ⟨F' ++ [(a, cut cs (i + 1) - 1)], _, _, rfl, by simp [pr], by simp; omega, fun y => by rw [ps y, cf, h4 y, hm y]; simp, .inr (.inl ⟨by omega, cf, F', a, rfl, h1, by omega⟩)⟩
        rcases hsh with ⟨rfl, rfl⟩ | ⟨i0, pf, F', a, rfl, h1, h2⟩ | ⟨i0, pf, hi', h1, h2⟩
        · have w1 := dAppend_loc (gF []) (by simp) (.tup [.int (cut cs 0), .int (cut cs (0 + 1) - 1)])
          rw [sF] at w1
          have f := fin [] (cut cs 0) (Asc.nil _) (Int.le_refl _) (by simp) (fun y => by simp; omega)
          have z1' := z1 (.lst [])
          have z2' := z2 (.lst [])
          have z3' := z3 (.lst [])
          have t1' := t1 []
          simp at w1 z1' z2' z3' t1' f
          simp [bl_d_law_dates_1, z1', z2', z3', t1', w1]
          exact f
        · have zp : ∀ c, dIx (.loc lf) (.int ((i : Int) - 1)) (s ++ [c]) = some (.bl true, s ++ [c]) := fun c => by
            have q := ixB (i := i - 1) (kf c) (by omega)
            rw [pf, show (((i - 1 : Nat)) : Int) = (i : Int) - 1 by omega] at q
            exact q
          have g1 := gF (F' ++ [(a, cut cs i - 1)])
          rw [List.map_append] at g1
          have w0 : dPop (.loc s.length) [] (s ++ [.lst (F'.map pr ++ [.tup [.int a, .int (cut cs i - 1)]])]) = some (.tup [.int a, .int (cut cs i - 1)], s ++ [.lst (F'.map pr)]) := by
            have q := dPop_loc (s := s ++ [.lst (F'.map pr ++ [.tup [.int a, .int (cut cs i - 1)]])]) (l := s.length) (xs := F'.map pr) (y := .tup [.int a, .int (cut cs i - 1)]) (get_new _ _)
            rw [show (s ++ [Cell.lst (F'.map pr ++ [.tup [.int a, .int (cut cs i - 1)]])]).set s.length (Cell.lst (F'.map pr)) = s ++ [.lst (F'.map pr)] by simp] at q
            exact q
          have w1 := dAppend_loc (gF F') (by simp at hl ⊢; omega) (.tup [.int a, .int (cut cs (i + 1) - 1)])
          rw [sF] at w1
          have t2 := t1 F'
          have t3 := tyOk_list (get_new s (.lst (F'.map pr ++ [.tup [.int a, .int (cut cs i - 1)]])))
          have i0' : (0 : Int) < (i : Int) := by omega
          have f := fin F' a h1 (by omega) (by simp at hl; omega) (fun y => by
            rw [mem_app, mem_app, mem_cons, mem_cons]
            simp only [mem_nil, or_false]
            constructor
            · rintro (m | ⟨m1, m2⟩)
              · exact .inl (.inl m)
              · by_cases c : y < cut cs i
                · exact .inl (.inr (by omega))
                · exact .inr (by omega)
            · rintro ((m | ⟨m1, m2⟩) | ⟨m1, m2⟩)
              · exact .inl m
              · exact .inr (by omega)
              · exact .inr (by omega))
          simp [pr] at t2 t3 w0 w1 f ⊢
          simp [bl_d_law_dates_1, z1, z2, z3, zp, t2, t3, i0, w0, ix0, w1]
          exact f
        · have zp : ∀ c, dIx (.loc lf) (.int ((i : Int) - 1)) (s ++ [c]) = some (.bl false, s ++ [c]) := fun c => by
            have q := ixB (i := i - 1) (kf c) (by omega)
            rw [pf, show (((i - 1 : Nat)) : Int) = (i : Int) - 1 by omega] at q
            exact q
          have w1 := dAppend_loc (gF F) (by simp; omega) (.tup [.int (cut cs i), .int (cut cs (i + 1) - 1)])
          rw [sF] at w1
          have f := fin F (cut cs i) (h1.mono (by omega)) (Int.le_refl _) hl (fun y => by
            rw [mem_app, mem_cons]
            simp only [mem_nil, or_false]
            constructor
            · rintro (m | m)
              · exact .inl m
              · exact .inr (by omega)
            · rintro (m | m)
              · exact .inl m
              · exact .inr (by omega))
          simp [bl_d_law_dates_1, z1, z2, z3, zp, t1, i0, w1]
          exact f)
    ⟨[], none, none, rfl, rfl, by simp, fun y => ⟨fun m => (mem_nil _ m).elim, fun ⟨_, m, _⟩ => by omega⟩, .inl ⟨rfl, rfl⟩⟩
  have asc : ∃ hi, Asc F hi := by
    rcases hsh with ⟨_, rfl⟩ | ⟨_, _, F', a, rfl, h1, h2⟩ | ⟨_, _, hi, h1, h2⟩
    · exact ⟨0, Asc.nil _⟩
    · exact ⟨_, h1.snoc (x := (a, cut cs fl.length - 1)) (by show a - 2 + 2 ≤ a; omega) h2⟩
    · exact ⟨hi, h1⟩
  obtain ⟨hi, asc⟩ := asc
  refine ⟨F, hi, [.lst (F.map pr)], ?_, asc, hl, hm⟩
  have w2 := dTuple_loc (gF F)
  have w3 : dLen [.loc lf] (s ++ [.lst []]) = some (.int fl.length, s ++ [.lst []]) := by rw [dLen_loc (kf _)]; simp
  have w4 := rangeOf_int (s ++ [.lst []]) (fl.length : Int) (by omega) (by omega)
  simp only [List.map_nil, Int.toNat_natCast] at e w4
  simp [m_d_law_dates, b_d_law_dates, w3, w4, e, w2]
end Law
namespace Law
open PySem Mi
theorem Pool.app {p : Nat} {s : Store} (h : Pool p s) (r : Store) : Pool p (s ++ r) := by
  obtain ⟨x, xs, hs, q⟩ := h
  exact ⟨x, xs, by rw [List.getElem?_append_left (lt_of_get hs)]; exact hs, q⟩
theorem Pool.set {p l : Nat} {s : Store} (h : Pool p s) (n : l ≠ p) (c : Cell) : Pool p (s.set l c) := by
  obtain ⟨x, xs, hs, q⟩ := h
  exact ⟨x, xs, by rw [List.getElem?_set_ne n]; exact hs, q⟩
theorem Pool.lt {p : Nat} {s : Store} (h : Pool p s) : p < s.length := let ⟨_, _, hs, _⟩ := h; lt_of_get hs
def Btw (lo hi : Int) (zs : List Int) : Prop := ∀ z ∈ zs, lo ≤ z ∧ z ≤ hi
theorem Btw.sum {lo hi : Int} : ∀ {zs : List Int}, Btw lo hi zs → lo * zs.length ≤ zs.sum ∧ zs.sum ≤ hi * zs.length
  | [], _ => by simp
  | z :: zs, h => by
    have h1 := h z (by simp)
    have h2 := Btw.sum (zs := zs) fun y hy => h y (by simp [hy])
    have e1 : lo * ((zs.length : Int) + 1) = lo * zs.length + lo := by rw [Int.mul_add, Int.mul_one]
    have e2 : hi * ((zs.length : Int) + 1) = hi * zs.length + hi := by rw [Int.mul_add, Int.mul_one]
    simp only [List.length_cons, List.sum_cons, Int.natCast_add, Int.natCast_one, e1, e2]
    omega
theorem Btw.snoc {lo hi z : Int} {zs : List Int} (h : Btw lo hi zs) (h1 : lo ≤ z) (h2 : z ≤ hi) : Btw lo hi (zs ++ [z]) := fun y hy => by
  rcases List.mem_append.mp hy with q | q
  · exact h y q
  · rw [List.mem_singleton.mp q]; exact ⟨h1, h2⟩
def LcI (p : Nat) (s0 : Store) (lo hi : Int) (i : Nat) (acc : List D) (s : Store) : Prop := ∃ zs : List Int, acc = zs.map D.int ∧ zs.length = i ∧ Btw lo hi zs ∧ Pool p s ∧ Kp p s0 s
theorem sizes_spec {p : Nat} {s : Store} (h : Pool p s) {wide : Int} (w0 : 0 < wide) (w1 : wide ≤ 400) (n : Nat) (hn : n ≤ 100) (r : Sl) :
    ∃ acc s', lcL always (gN 6) tT le_d_law_cuts_2 (some (.loc p) :: some (.int n) :: some (.int wide) :: r) (rng n) [] s = .ok acc s' ∧ LcI p s 1 400 n acc s' := by
  refine lcL_range n (LcI p s 1 400) (fun _ _ _ _ _ => trivial) (fun i acc s1 hi ⟨zs, h1, h2, h3, h4, h5⟩ => ?_) ⟨[], rfl, rfl, (fun _ hh => by cases hh), h, Kp.refl _ _⟩
  obtain ⟨k, s2, e, k0, k1, h', kp⟩ := often_spec h4 w0 (by omega)
  simp [le_d_law_cuts_2, e]
  subst h1
  exact ⟨by simp; omega, zs ++ [1 + k], by simp, by simp [h2], h3.snoc (by omega) (by omega), h', h5.trans kp⟩
theorem cut_old {cs : List Int} {z : Int} {i : Nat} (h : i < cs.length) : cut (cs ++ [z]) i = cut cs i := by simp [cut, List.getD_eq_getElem?_getD, List.getElem?_append_left h]
theorem cut_new (cs : List Int) (z : Int) : cut (cs ++ [z]) cs.length = z := by simp [cut, List.getD_eq_getElem?_getD]
theorem Inc.snoc {cs : List Int} {z : Int} (h : Inc cs) (hn : 0 < cs.length) (hz : cut cs (cs.length - 1) < z) : Inc (cs ++ [z]) := fun i hi => by
  simp at hi
  rw [cut_old (by omega)]
  by_cases c : i + 1 < cs.length
  · rw [cut_old c]; exact h i c
  · have e : i + 1 = cs.length := by omega
    rw [e, cut_new, show i = cs.length - 1 by omega]
    exact hz
def CutI (p lc ls : Nat) (n : Nat) (w o6 : Option D) (zs : List Int) (c0 : Int) (s0 : Store) (rest : List D) (env : Sl) (s : Store) : Prop := ∃ (P R cs : List Int) (o5 : Option D), rest = R.map D.int ∧ zs = P ++ R ∧
  env = [some (.loc p), some (.int n), w, some (.loc ls), some (.loc lc), o5, o6] ∧ s[ls]? = some (.lst (zs.map D.int)) ∧ s[lc]? = some (.lst (cs.map D.int)) ∧ cs.length = P.length + 1 ∧ Inc cs ∧ cut cs 0 = c0 ∧ cut cs P.length = c0 + P.sum ∧ Pool p s ∧ Kp p s0 s
theorem cut_loop {p lc ls n : Nat} {w o6 : Option D} {zs : List Int} {c0 : Int} {s0 s : Store} (h : Pool p s) (kp : Kp p s0 s) (h1 : s[ls]? = some (.lst (zs.map D.int))) (h2 : s[lc]? = some (.lst [.int c0])) (n1 : ls ≠ lc) (n2 : lc ≠ p) (n3 : s0.length ≤ lc) (hz : zs.length ≤ 1000) (hb : Btw 1 400 zs) :
    ∃ env' s' cs, forL (fun s2 => s2[ls]? = some (.lst (zs.map D.int))) (gN 5) bl_d_law_cuts_1 (zs.map D.int) [some (.loc p), some (.int n), w, some (.loc ls), some (.loc lc), none, o6] s = .nx env' s' ∧ env'[4]? = some (some (.loc lc)) ∧ s'[lc]? = some (.lst (cs.map D.int)) ∧ cs.length = zs.length + 1 ∧ Inc cs ∧ cut cs 0 = c0 ∧ cut cs zs.length = c0 + zs.sum ∧ Pool p s' ∧ Kp p s0 s' := by
  obtain ⟨env', s', e, P, R, cs, o5, hr, hP, rfl, q1, q2, q3, q4, q5, q6, q7, q8⟩ := forL_thru (gd := fun s2 => s2[ls]? = some (.lst (zs.map D.int))) (g := gN 5) (b := bl_d_law_cuts_1) (CutI p lc ls n w o6 zs c0 s0) (fun _ _ _ ⟨_, _, _, _, _, _, _, h, _⟩ => h) (xs := zs.map D.int)
    (env := [some (.loc p), some (.int n), w, some (.loc ls), some (.loc lc), none, o6]) (s := s) (fun x xs env s1 ⟨P, R, cs, o5, hr, hP, he, q1, q2, q3, q4, q5, q6, q7, q8⟩ => by
      subst he
      cases R with
      | nil => cases hr
      | cons z R =>
        obtain ⟨rfl, rfl⟩ := List.cons.inj hr
        have hzz := hb z (by rw [hP]; simp)
        have hPl : P.length < zs.length := by rw [hP]; simp
        have w1 := dAppend_loc q2 (by simp; omega) (.int (cut cs P.length + z))
        have z1 : dIx (.loc lc) (.int ((cs.length : Int) - 1)) s1 = some (.int (cut cs P.length), s1) := by
          have q := ixI (i := P.length) q2 (by omega)
          rw [show ((cs.length : Int) - 1) = (P.length : Nat) by omega]
          exact q
        have w2 := dLen_loc q2
        have t1 := tyOk_list q2
        rw [List.length_map] at w2
        simp [bl_d_law_cuts_1, w2, z1, t1, w1]
        refine ⟨P ++ [z], R, cs ++ [cut cs P.length + z], _, rfl, by rw [hP]; simp, rfl, by rw [List.getElem?_set_ne (Ne.symm n1)]; exact q1, by rw [get_set q2]; simp, by simp; omega, q4.snoc (by omega) (by rw [show cs.length - 1 = P.length by omega]; omega), by rw [cut_old (by omega)]; exact q5, ?_, q7.set n2 _,
          ⟨by simp; exact q8.1, fun l hl hn => by rw [List.getElem?_set_ne (by omega)]; exact q8.2 l hl hn⟩⟩
        have e : (P ++ [z]).length = cs.length := by simp; omega
        rw [e, cut_new, q6]
        simp
        omega)
    ⟨[], zs, [c0], none, rfl, rfl, rfl, h1, h2, rfl, (fun i hi => by simp at hi), rfl, by simp [cut], h, kp⟩
  have hR : R = [] := by
    cases R with
    | nil => rfl
    | cons _ _ => cases hr
  subst hR
  rw [List.append_nil] at hP
  subst hP
  exact ⟨_, s', cs, e, rfl, q2, q3, q4, q5, q6, q7, q8⟩
theorem cuts_spec {p : Nat} {s : Store} (h : Pool p s) {n : Nat} (hn : n ≤ 48) :
    Rets (fun d s' => ∃ l cs, d = .loc l ∧ s'[l]? = some (.lst (cs.map D.int)) ∧ l ≠ p ∧ cs.length = n + 1 ∧ Inc cs ∧ -9999 ≤ cut cs 0 ∧ cut cs n ≤ 10000 ∧ Pool p s' ∧ Kp p s s') (m_d_law_cuts [.loc p, .int n] s) := by
  obtain ⟨k1, s1, e1, k10, k11, h1, kp1⟩ := draw_spec (h.app [.lst [.int 1, .int 1, .int 4, .int 400]]) (many := 4) (by omega) (by omega)
  have kpa := (Kp.app p s [.lst [.int 1, .int 1, .int 4, .int 400]]).trans kp1
  have hl1 : s1[s.length]? = some (.lst [.int 1, .int 1, .int 4, .int 400]) := kp1.get (get_new _ _) (Nat.ne_of_gt h.lt)
  obtain ⟨wide, w0, w1, hw⟩ : ∃ wide : Int, 0 < wide ∧ wide ≤ 400 ∧ dIx (.loc s.length) (.int k1) s1 = some (.int wide, s1) := by
    rw [dIx_loc hl1]
    rcases (by omega : k1 = 0 ∨ k1 = 1 ∨ k1 = 2 ∨ k1 = 3) with rfl | rfl | rfl | rfl
    · exact ⟨1, by omega, by omega, by simp⟩
    · exact ⟨1, by omega, by omega, by simp⟩
    · exact ⟨4, by omega, by omega, by simp⟩
    · exact ⟨400, by omega, by omega, by simp⟩
  obtain ⟨_, s2, e2, zs, rfl, lz, bz, h2, kp2⟩ := sizes_spec h1 w0 w1 n (by omega) [none, none, none, none]
  have sm := bz.sum
  rw [lz] at sm
  have wr := rangeOf_int s1 (n : Int) (by omega) (by omega)
  have g3 : (s2 ++ [Cell.lst (zs.map D.int)])[s2.length]? = some (.lst (zs.map D.int)) := get_new _ _
  have ws := dSum_loc g3
  have h3 := h2.app [.lst (zs.map D.int)]
  obtain ⟨k4, s4, e4, k40, k41, h4, kp4⟩ := often_spec h3 (many := 20000 - zs.sum) (by omega) (by omega)
  have g4 := kp4.get g3 (Nat.ne_of_gt h2.lt)
  have h5 := h4.app [.lst [.int (-9999 + k4)]]
  obtain ⟨k6, s6, e6, k60, k61, h6, kp6⟩ := draw_spec h5 (many := 3) (by omega) (by omega)
  have g5 : (s4 ++ [Cell.lst [.int (-9999 + k4)]])[s2.length]? = some (.lst (zs.map D.int)) := by rw [List.getElem?_append_left (lt_of_get g4)]; exact g4
  have g6 := kp6.get g5 (Nat.ne_of_gt h2.lt)
  have g7 := kp6.get (get_new s4 (.lst [.int (-9999 + k4)])) (Nat.ne_of_gt h4.lt)
  have ka := ((kpa.trans kp2).trans (Kp.app p s2 [.lst (zs.map D.int)])).trans kp4
  have kb := (ka.trans (Kp.app p s4 [.lst [.int (-9999 + k4)]])).trans kp6
  have b2 : s.length < s2.length := by have := (kpa.trans kp2).1; have := lt_of_get hl1; have := kp2.1; omega
  have l24 : s2.length < s4.length := lt_of_get g4
  by_cases c : k6 = 0
  · have ws6 := dSum_loc g6
    obtain ⟨k7, s7, e7, k70, k71, h7, kp7⟩ := draw_spec h6 (many := min 9999 (1 + zs.sum)) (by omega) (by omega)
    have x7 := kp7.get g6 (Nat.ne_of_gt h2.lt)
    have l7 : s4.length < s7.length := lt_of_get (kp7.get g7 (Nat.ne_of_gt h4.lt))
    have x8 : (s7 ++ [Cell.lst [.int (-k7)]])[s2.length]? = some (.lst (zs.map D.int)) := by rw [List.getElem?_append_left (lt_of_get x7)]; exact x7
    have ws8 := dSum_loc x8
    have ix8 : dIx (.loc s7.length) (.int 0) (s7 ++ [Cell.lst [.int (-k7)]]) = some (.int (-k7), s7 ++ [Cell.lst [.int (-k7)]]) := by rw [dIx_loc (get_new _ _)]; simp
    obtain ⟨c0, hc0⟩ : ∃ c0, c0 = min (-k7) (10000 - zs.sum) := ⟨_, rfl⟩
    have x9 : (s7 ++ [Cell.lst [.int (-k7)]] ++ [Cell.lst [.int c0]])[s2.length]? = some (.lst (zs.map D.int)) := by rw [List.getElem?_append_left (lt_of_get x8)]; exact x8
    have y9 : (s7 ++ [Cell.lst [.int (-k7)]] ++ [Cell.lst [.int c0]])[s7.length + 1]? = some (.lst [.int c0]) := by
      have q := get_new (s7 ++ [Cell.lst [.int (-k7)]]) (.lst [.int c0])
      simpa using q
    obtain ⟨env', s', cs, e, q0, q1, q2, q3, q4, q5, q6, q7⟩ := cut_loop (n := n) (w := some (.int wide)) (o6 := none) (s0 := s) ((h7.app [.lst [.int (-k7)]]).app [.lst [.int c0]]) ((kb.trans kp7).trans ((Kp.app p s7 [.lst [.int (-k7)]]).trans (Kp.app p _ [.lst [.int c0]]))) x9 y9 (by omega) (by have := h.lt; omega) (by omega) (by omega) bz
    rw [hc0] at x9 e
    simp only [List.append_assoc, List.cons_append, List.nil_append] at e x9
    simp [m_d_law_cuts, b_d_law_cuts, e1, hw, wr, e2, ws, e4, e6, c, ws6, e7, ix8, ws8, x9, e, eV, q0]
    exact ⟨cs, q1, by have := h.lt; omega, by omega, q3, by rw [q4, hc0]; omega, by rw [← lz, q5, hc0]; omega, q6, q7⟩
  · obtain ⟨env', s', cs, e, q0, q1, q2, q3, q4, q5, q6, q7⟩ := cut_loop (n := n) (w := some (.int wide)) (o6 := none) (s0 := s) h6 kb g6 g7 (by omega) (Nat.ne_of_gt h4.lt) (by omega) (by omega) bz
    simp [m_d_law_cuts, b_d_law_cuts, e1, hw, wr, e2, ws, e4, e6, c, g6, e, eV, q0]
    exact ⟨cs, q1, Nat.ne_of_gt h4.lt, by omega, q3, by rw [q4]; omega, by rw [← lz, q5]; omega, q6, q7⟩
end Law
namespace Law
open PySem Mi
def Ext (s s' : Store) : Prop := ∃ r, s' = s ++ r
theorem Ext.refl (s : Store) : Ext s s := ⟨[], by simp⟩
theorem Ext.trans {s t u : Store} (h : Ext s t) (k : Ext t u) : Ext s u := by
  obtain ⟨r, rfl⟩ := h
  obtain ⟨q, rfl⟩ := k
  exact ⟨r ++ q, by simp⟩
theorem Ext.get {s t : Store} (h : Ext s t) {l : Nat} {c : Cell} (e : s[l]? = some c) : t[l]? = some c := by
  obtain ⟨r, rfl⟩ := h
  rw [List.getElem?_append_left (lt_of_get e)]
  exact e
theorem Ext.pool {s t : Store} (h : Ext s t) {p : Nat} (e : Pool p s) : Pool p t := by
  obtain ⟨r, rfl⟩ := h
  exact e.app r
theorem Ext.kp {s t : Store} (h : Ext s t) (p : Nat) : Kp p s t := by
  obtain ⟨r, rfl⟩ := h
  exact Kp.app p s r
theorem Nrm.val : ∀ {ps : List (Int × Int)} {lo : Int}, Nrm lo ps → ∀ x ∈ ps, x.1 ≤ x.2
  | [], _, _, x, h => by cases h
  | y :: r, lo, ⟨_, b, c⟩, x, h => by
    rcases List.mem_cons.mp h with rfl | h
    · exact b
    · exact Nrm.val c x h
theorem Asc.val {ps : List (Int × Int)} {h : Int} (a : Asc ps h) : ∀ x ∈ ps, x.1 ≤ x.2 := let ⟨_, n, _⟩ := a; n.val
theorem both_eq {a b c : List (Int × Int)} {h1 h2 h3 : Int} (a1 : Asc a h1) (a2 : Asc b h2) (a3 : Asc c h3) (l1 : a.length ≤ 1000) (l2 : b.length ≤ 1000) (hm : ∀ y, mem y c ↔ (mem y a ∧ mem y b)) (s : Store) :
    ∃ s', m_both_dates [.tup (a.map pr), .tup (b.map pr)] s = .ok (.tup (c.map pr)) s' ∧ Ext s s' := by
  obtain ⟨fs, hi, r, e, asc, _, q⟩ := both_spec a1 a2 l1 l2 s
  have := asc.uniq a3 fun y => (q y).trans (hm y).symm
  subst this
  exact ⟨_, e, r, rfl⟩
theorem either_eq {a b c : List (Int × Int)} {h1 h2 h3 : Int} (a1 : Asc a h1) (a2 : Asc b h2) (a3 : Asc c h3) (l1 : a.length ≤ 1000) (l2 : b.length ≤ 1000) (hm : ∀ y, mem y c ↔ (mem y a ∨ mem y b)) (s : Store) :
    ∃ s', m_either_dates [.tup (a.map pr), .tup (b.map pr)] s = .ok (.tup (c.map pr)) s' ∧ Ext s s' := by
  obtain ⟨fs, hi, r, e, asc, _, q⟩ := make_spec (a ++ b) (fun x hx => by
    rcases List.mem_append.mp hx with h | h
    · exact a1.val x h
    · exact a2.val x h) (by simp; omega) s
  have := asc.uniq a3 fun y => (q y).trans (by rw [mem_app]; exact (hm y).symm)
  subst this
  have w := dAdd_tup (s := s) (xs := a.map pr) (ys := b.map pr) (by simp; omega)
  rw [List.map_append] at e
  exact ⟨_, by simp [m_either_dates, b_either_dates, w, e], r, rfl⟩
theorem joins_spec {a b c d : List (Int × Int)} {h1 h2 h3 h4 : Int} (a1 : Asc a h1) (a2 : Asc b h2) (a3 : Asc c h3) (a4 : Asc d h4) (l1 : a.length ≤ 1000) (l2 : b.length ≤ 1000) (l3 : c.length ≤ 1000) (l4 : d.length ≤ 1000)
    (hm : ∀ y, mem y c ↔ (mem y a ∧ mem y b)) (ho : ∀ y, mem y d ↔ (mem y a ∨ mem y b)) (s : Store) : ∃ s', m_d_law_joins [.tup (a.map pr), .tup (b.map pr), .tup (c.map pr), .tup (d.map pr)] s = .ok (.bl true) s' ∧ Ext s s' := by
  obtain ⟨s1, e1, x1⟩ := both_eq a1 a2 a3 l1 l2 hm s
  obtain ⟨s2, e2, x2⟩ := both_eq a2 a1 a3 l2 l1 (fun y => (hm y).trans And.comm) s1
  obtain ⟨s3, e3, x3⟩ := either_eq a1 a2 a4 l1 l2 ho s2
  obtain ⟨s4, e4, x4⟩ := either_eq a2 a1 a4 l2 l1 (fun y => (ho y).trans Or.comm) s3
  obtain ⟨s5, e5, x5⟩ := both_eq a1 a1 a1 l1 l1 (fun y => by simp) s4
  obtain ⟨s6, e6, x6⟩ := either_eq a1 a1 a1 l1 l1 (fun y => by simp) s5
  obtain ⟨s7, e7, x7⟩ := both_eq a1 (Asc.nil 0) (Asc.nil 0) l1 (by simp) (fun y => by simp) s6
  obtain ⟨s8, e8, x8⟩ := both_eq (Asc.nil 0) a1 (Asc.nil 0) (by simp) l1 (fun y => by simp) s7
  obtain ⟨s9, e9, x9⟩ := either_eq a1 (Asc.nil 0) a1 l1 (by simp) (fun y => by simp) s8
  obtain ⟨s10, e10, x10⟩ := either_eq (Asc.nil 0) a1 a1 (by simp) l1 (fun y => by simp) s9
  have q1 := fun s => same_tup a l1 s
  have q3 := fun s => same_tup c l3 s
  have q4 := fun s => same_tup d l4 s
  have q5 := fun s => same_tup [] (by simp) s
  simp only [List.map_nil] at e7 e8 e9 e10 q5
  refine ⟨s10, by simp [m_d_law_joins, b_d_law_joins, e1, e2, e3, e4, e5, e6, e7, e8, e9, e10, q1, q3, q4, q5], ?_⟩
  exact x1.trans (x2.trans (x3.trans (x4.trans (x5.trans (x6.trans (x7.trans (x8.trans (x9.trans x10))))))))
theorem Asc.one {a b : Int} (h : a ≤ b) : Asc [(a, b)] b := (Asc.nil (a - 2)).snoc (x := (a, b)) (by show a - 2 + 2 ≤ a; omega) h
theorem near_spec {p : Nat} {s : Store} (h : Pool p s) : ∃ s', m_d_law_near [.loc p] s = .ok (.bl true) s' ∧ Pool p s' ∧ Kp p s s' := by
  obtain ⟨k, s1, e1, k0, k1, h1, kp1⟩ := often_spec h (many := 19990) (by omega) (by omega)
  obtain ⟨low, hlow⟩ : ∃ low, low = -9999 + k := ⟨_, rfl⟩
  have o := Asc.one (a := low) (b := low + 2) (by omega)
  obtain ⟨s2, e2, x2⟩ := both_eq o (Asc.one (a := low + 2) (b := low + 5) (by omega)) (Asc.one (a := low + 2) (b := low + 2) (by omega)) (by simp) (by simp) (fun y => by simp; omega) s1
  obtain ⟨s3, e3, x3⟩ := both_eq o (Asc.one (a := low + 3) (b := low + 5) (by omega)) (Asc.nil 0) (by simp) (by simp) (fun y => by simp; omega) s2
  obtain ⟨s4, e4, x4⟩ := either_eq (Asc.one (a := low + 3) (b := low + 5) (by omega)) o (Asc.one (a := low) (b := low + 5) (by omega)) (by simp) (by simp) (fun y => by simp; omega) s3
  obtain ⟨s5, e5, x5⟩ := either_eq (Asc.one (a := low + 4) (b := low + 5) (by omega)) o (o.snoc (x := (low + 4, low + 5)) (by show low + 2 + 2 ≤ low + 4; omega) (by show low + 4 ≤ low + 5; omega)) (by simp) (by simp) (fun y => by simp; omega) s4
  have q2 := fun s => same_tup [(low + 2, low + 2)] (by simp) s
  have q3 := fun s => same_tup [] (by simp) s
  have q4 := fun s => same_tup [(low, low + 5)] (by simp) s
  have q5 := fun s => same_tup [(low, low + 2), (low + 4, low + 5)] (by simp) s
  simp only [List.map_cons, List.map_nil, pr, List.cons_append, List.nil_append] at e2 e3 e4 e5 q2 q3 q4 q5
  refine ⟨s5, ?_, (x2.trans (x3.trans (x4.trans x5))).pool h1, kp1.trans ((x2.trans (x3.trans (x4.trans x5))).kp p)⟩
  rw [hlow] at *
  simp [m_d_law_near, b_d_law_near, e1, e2, e3, e4, e5, q2, q3, q4, q5]
/-! ### dates != () -/
def pp (x : Int × Int) : PyData := .tuple [.int x.1, .int x.2]
theorem pys_pr : ∀ ps : List (Int × Int), pys0 (ps.map pr) = some (ps.map pp)
  | [] => rfl
  | x :: r => by
    show (py0 (pr x)).bind (fun a => (pys0 (r.map pr)).map fun q => a :: q) = _
    rw [pys_pr r]
    rfl
theorem lay_pp : ∀ ps : List (Int × Int), PyData.canLayAll0 (ps.map pp) = true ∧ PyData.depthAll (ps.map pp) ≤ 10
  | [] => ⟨by simp [PyData.canLayAll0], by simp [PyData.depthAll]⟩
  | x :: r => by
    obtain ⟨a, b⟩ := lay_pp r
    constructor
    · simp [pp, PyData.canLayAll0, PyData.canLay0]
      simpa [pp] using a
    · simp only [pp, List.map_cons, PyData.depthAll, PyData.depth] at b ⊢
      omega
theorem ne_nil (ps : List (Int × Int)) (s : Store) : dNe (.tup (ps.map pr)) (.tup []) s = some (.bl (!ps.isEmpty), s) := by
  obtain ⟨a, b⟩ := lay_pp ps
  have h1 : py1 s (.tup (ps.map pr)) = some (.tuple (ps.map pp)) := by
    show (pys0 (ps.map pr)).map PyData.tuple = _
    rw [pys_pr]
    rfl
  have h2 : py1 s (.tup []) = some (.tuple []) := rfl
  have h3 : SeqAt.shaped (.tuple (ps.map pp)) = true := by
    simp [SeqAt.shaped, PyData.canLay0, PyData.depth, a]
    omega
  have h4 : SeqAt.shaped (.tuple []) = true := by simp [SeqAt.shaped, PyData.canLay0, PyData.canLayAll0, PyData.depth, PyData.depthAll]
  have h5 : PyData.eqv (.tuple (ps.map pp)) (.tuple []) = ps.isEmpty := by
    cases ps <;> simp [PyData.eqv, PyData.eqvAll]
  have h6 : dScal (.tup (ps.map pr)) (.tup []) = none := rfl
  simp [dNe, dEqB, h6, h1, h2, h3, h4, h5]
end Law
namespace Law
open PySem Mi
@[simp] theorem dMin3_int (i j k : Int) (s : Store) : dMin3 [.int i, .int j, .int k] s = some (.int (min (min i j) k), s) := rfl
/-! ### flags -/
theorem pure_lc {e : ME D} {env : Sl} (f : Nat → Bool) (n : Nat) (hn : n ≤ 1000) (s : Store) (he : ∀ i : Nat, i < n → e (env.set 4 (some (.int (i : Nat)))) s = .ok (.bl (f i)) s) :
    lcL always (gN 4) tT e env (rng n) [] s = .ok (((List.range n).map f).map D.bl) s := by
  have q := lcL_map (gd := always) (g := gN 4) (t := tT) (e := e) (env := env) (s := s) trivial (fun k : Nat => D.int k) (fun k => D.bl (f k)) (List.range n) (fun i hi => by simp [he i (List.mem_range.mp hi)]) (by simp; omega)
  rw [List.map_map]
  rw [show rng n = (List.range n).map fun k : Nat => D.int k by simp [rng]]
  exact q
def DrwI (p : Nat) (s0 : Store) (i : Nat) (acc : List D) (s : Store) : Prop := ∃ bs : List Bool, acc = bs.map D.bl ∧ bs.length = i ∧ Pool p s ∧ Kp p s0 s
theorem draw_lc {p : Nat} {s : Store} (h : Pool p s) {e : ME D} {env : Sl} (n : Nat) (hn : n ≤ 1000) (he : ∀ (i : Nat) s1, Pool p s1 → ∃ b s2, e (env.set 4 (some (.int (i : Nat)))) s1 = .ok (.bl b) s2 ∧ Pool p s2 ∧ Kp p s1 s2) :
    ∃ acc s', lcL always (gN 4) tT e env (rng n) [] s = .ok acc s' ∧ DrwI p s n acc s' := by
  refine lcL_range n (DrwI p s) (fun _ _ _ _ _ => trivial) (fun i acc s1 hi ⟨bs, h1, h2, h4, h5⟩ => ?_) ⟨[], rfl, rfl, h, Kp.refl _ _⟩
  obtain ⟨b, s2, e, h', kp⟩ := he i s1 h4
  simp [e]
  subst h1
  exact ⟨by simp; omega, bs ++ [b], by simp, by simp [h2], h', h5.trans kp⟩
def FlagsR (p n : Nat) (s : Store) (d : D) (s' : Store) : Prop := ∃ lf l1 l2 f1 f2, d = .loc lf ∧ s'[lf]? = some (.lst [.loc l1, .loc l2]) ∧ s'[l1]? = some (.lst ((f1 : List Bool).map D.bl)) ∧ s'[l2]? = some (.lst ((f2 : List Bool).map D.bl)) ∧ f1.length = n ∧ f2.length = n ∧ Pool p s' ∧ Kp p s s'
theorem flags_end {p n : Nat} {s0 s : Store} (h : Pool p s) (kp : Kp p s0 s) {a b : List Bool} (ha : a.length = n) (hb : b.length = n) : FlagsR p n s0 (.loc (s.length + 1 + 1)) (s ++ [.lst (a.map D.bl)] ++ [.lst (b.map D.bl)] ++ [.lst [.loc s.length, .loc (s.length + 1)]]) := by
  refine ⟨_, s.length, s.length + 1, a, b, rfl, ?_, ?_, ?_, ha, hb, ((h.app _).app _).app _, ((kp.trans (Kp.app p _ _)).trans (Kp.app p _ _)).trans (Kp.app p _ _)⟩
  · have q := get_new (s ++ [.lst (a.map D.bl)] ++ [.lst (b.map D.bl)]) (.lst [.loc s.length, .loc (s.length + 1)])
    rw [show (s ++ [Cell.lst (a.map D.bl)] ++ [Cell.lst (b.map D.bl)]).length = s.length + 1 + 1 by simp] at q
    exact q
  · simp
  · simp
theorem flags_spec {p : Nat} {s : Store} (h : Pool p s) (shape : Int) {n : Nat} (hn : n ≤ 100) : Rets (FlagsR p n s) (m_d_law_flags [.loc p, .int shape, .int n] s) := by
  have wr := fun s => rangeOf_int s (n : Int) (by omega) (by omega)
  simp only [Int.toNat_natCast] at wr
  by_cases c0 : shape = 0
  · have e1 := pure_lc (e := le_d_law_flags_6) (env := [some (.loc p), some (.int shape), some (.int n), none, none]) (fun i => decide ((i : Int) % 4 = 0)) n (by omega) s (fun i _ => by simp [le_d_law_flags_6])
    generalize hA : (List.range n).map (fun i : Nat => decide ((i : Int) % 4 = 0)) = A at e1
    have e2 := pure_lc (e := le_d_law_flags_5) (env := [some (.loc p), some (.int shape), some (.int n), none, none]) (fun i => decide ((i : Int) % 4 = 2)) n (by omega) (s ++ [.lst (A.map D.bl)]) (fun i _ => by simp [le_d_law_flags_5])
    generalize hB : (List.range n).map (fun i : Nat => decide ((i : Int) % 4 = 2)) = B at e2
    have f := flags_end h (Kp.refl p s) (a := A) (b := B) (n := n) (by rw [← hA]; simp) (by rw [← hB]; simp)
    subst c0
    generalize A.map D.bl = as at *
    generalize B.map D.bl = bs at *
    simp only [List.append_assoc, List.cons_append, List.nil_append] at f
    simp [m_d_law_flags, b_d_law_flags, wr, e1, e2]
    exact f
  · by_cases c1 : shape = 1
    · have e1 := pure_lc (e := le_d_law_flags_4) (env := [some (.loc p), some (.int shape), some (.int n), none, none]) (fun i => decide ((i : Int) % 2 = 0)) n (by omega) s (fun i _ => by simp [le_d_law_flags_4])
      generalize hA : (List.range n).map (fun i : Nat => decide ((i : Int) % 2 = 0)) = A at e1
      have e2 := pure_lc (e := le_d_law_flags_3) (env := [some (.loc p), some (.int shape), some (.int n), none, none]) (fun i => decide ((i : Int) % 2 = 1)) n (by omega) (s ++ [.lst (A.map D.bl)]) (fun i _ => by simp [le_d_law_flags_3])
      generalize hB : (List.range n).map (fun i : Nat => decide ((i : Int) % 2 = 1)) = B at e2
      have f := flags_end h (Kp.refl p s) (a := A) (b := B) (n := n) (by rw [← hA]; simp) (by rw [← hB]; simp)
      subst c1
      generalize A.map D.bl = as at *
      generalize B.map D.bl = bs at *
      simp only [List.append_assoc, List.cons_append, List.nil_append] at f
      simp [m_d_law_flags, b_d_law_flags, wr, e1, e2]
      exact f
    · obtain ⟨_, s1, e1, A, rfl, lA, h1, kp1⟩ := draw_lc h (e := le_d_law_flags_2) (env := [some (.loc p), some (.int shape), some (.int n), none, none]) n (by omega) (fun i s1 h1 => by
        obtain ⟨k, s2, e, _, _, h2, kp⟩ := draw_spec h1 (many := 2) (by omega) (by omega)
        exact ⟨decide (k = 0), s2, by simp [le_d_law_flags_2, e], h2, kp⟩)
      by_cases c2 : shape = 2
      · have f := flags_end h1 kp1 (a := A) (b := A) lA lA
        have w := get_new s1 (.lst (A.map D.bl))
        have w2 : dList [.loc s1.length] (s1 ++ [.lst (A.map D.bl)]) = some (.loc (s1.length + 1), s1 ++ [.lst (A.map D.bl), .lst (A.map D.bl)]) := by simp [dList, seqOf, lstOf]
        subst c2
        simp only [List.append_assoc, List.cons_append, List.nil_append] at f
        simp [m_d_law_flags, b_d_law_flags, wr, e1, w2]
        exact f
      · obtain ⟨_, s3, e3, B, rfl, lB, h3, kp3⟩ := draw_lc (h1.app [.lst (A.map D.bl)]) (e := le_d_law_flags_1) (env := [some (.loc p), some (.int shape), some (.int n), some (.loc s1.length), none]) n (by omega) (fun i s1 h1 => by
          obtain ⟨k, s2, e, _, _, h2, kp⟩ := draw_spec h1 (many := 2) (by omega) (by omega)
          exact ⟨decide (k = 0), s2, by simp [le_d_law_flags_1, e], h2, kp⟩)
        have x1 := kp3.get (get_new s1 (.lst (A.map D.bl))) (Nat.ne_of_gt h1.lt)
        have hlt := lt_of_get x1
        simp [m_d_law_flags, b_d_law_flags, wr, e1, e3, c0, c1, c2]
        refine ⟨_, s1.length, s3.length, A, B, rfl, ?_, ?_, ?_, lA, lB, h3.app _, ((kp1.trans (Kp.app p s1 _)).trans kp3).trans (Kp.app p _ _)⟩
        · simp
        · rw [List.getElem?_append_left hlt]
          exact x1
        · simp
/-! ### frame -/
theorem frame_spec {p lc : Nat} {cs : List Int} {s : Store} (h : Pool p s) (hc : s[lc]? = some (.lst (cs.map D.int))) (np : lc ≠ p) (hn : 0 < cs.length) (hz : cs.length ≤ 1000) :
    Rets (fun d s' => ∃ l a b, d = .loc l ∧ s'[l]? = some (.lst [.int a, .int b]) ∧ l ≠ p ∧ a ≤ b ∧ -9999 ≤ a ∧ b ≤ 9999 ∧ Pool p s' ∧ Kp p s s') (m_d_law_frame [.loc p, .loc lc] s) := by
  have w0 := dLen_loc hc
  rw [List.length_map] at w0
  obtain ⟨k1, s1, e1, k10, k11, h1, kp1⟩ := often_spec h (many := cs.length) (by omega) (by omega)
  obtain ⟨i1, rfl⟩ := Int.eq_ofNat_of_zero_le k10
  have c1 := kp1.get hc np
  have x1 := ixI c1 (i := i1) (by omega)
  obtain ⟨k2, s2, e2, k20, k21, h2, kp2⟩ := draw_spec h1 (many := 4) (by omega) (by omega)
  have c2 := kp2.get c1 np
  have w2 := dLen_loc c2
  rw [List.length_map] at w2
  obtain ⟨k3, s3, e3, k30, k31, h3, kp3⟩ := often_spec h2 (many := cs.length) (by omega) (by omega)
  obtain ⟨i3, rfl⟩ := Int.eq_ofNat_of_zero_le k30
  have c3 := kp3.get c2 np
  have x3 := ixI c3 (i := i3) (by omega)
  obtain ⟨k4, s4, e4, k40, k41, h4, kp4⟩ := draw_spec h3 (many := 4) (by omega) (by omega)
  have c4 := kp4.get c3 np
  obtain ⟨k5, s5, e5, k50, k51, h5, kp5⟩ := draw_spec h4 (many := 4) (by omega) (by omega)
  have c5 := kp5.get c4 np
  have k05 := (((kp1.trans kp2).trans kp3).trans kp4).trans kp5
  have fin : ∀ (one other : Int) (t : Store), Pool p t → Kp p s t → ∃ l a b, D.loc t.length = .loc l ∧ (t ++ [Cell.lst [.int (max (-9999) (min (min one other) 9999)), .int (max (max (-9999) (min (min one other) 9999)) (min (min (max one other) 9999) (max (-9999) (min (min one other) 9999) + 3000)))]])[l]? = some (.lst [.int a, .int b]) ∧ l ≠ p ∧ a ≤ b ∧ -9999 ≤ a ∧ b ≤ 9999 ∧ Pool p (t ++ [Cell.lst [.int (max (-9999) (min (min one other) 9999)), .int (max (max (-9999) (min (min one other) 9999)) (min (min (max one other) 9999) (max (-9999) (min (min one other) 9999) + 3000)))]]) ∧ Kp p s (t ++ [Cell.lst [.int (max (-9999) (min (min one other) 9999)), .int (max (max (-9999) (min (min one other) 9999)) (min (min (max one other) 9999) (max (-9999) (min (min one other) 9999) + 3000)))]]) := fun one other t ht kt =>
    ⟨_, _, _, rfl, get_new _ _, Nat.ne_of_gt ht.lt, by omega, by omega, by omega, ht.app _, kt.trans (Kp.app p _ _)⟩
  by_cases c : k5 = 0
  · have x5 := ixI c5 (i := 0) hn
    obtain ⟨k6, s6, e6, k60, k61, h6, kp6⟩ := draw_spec h5 (many := 40) (by omega) (by omega)
    have c6 := kp6.get c5 np
    have w6 := dLen_loc c6
    rw [List.length_map] at w6
    have x6 : dIx (.loc lc) (.int ((cs.length : Int) - 1)) s6 = some (.int (cut cs (cs.length - 1)), s6) := by
      have q := ixI c6 (i := cs.length - 1) (by omega)
      rw [show ((cs.length : Int) - 1) = ((cs.length - 1 : Nat) : Int) by omega]
      exact q
    obtain ⟨k7, s7, e7, k70, k71, h7, kp7⟩ := draw_spec h6 (many := 40) (by omega) (by omega)
    have x5' : dIx (.loc lc) (.int 0) s5 = some (.int (cut cs 0), s5) := x5
    have f := fin (cut cs 0 - 1 - k6) (cut cs (cs.length - 1) + k7) s7 h7 ((k05.trans kp6).trans kp7)
    simp [m_d_law_frame, b_d_law_frame, w0, e1, x1, e2, w2, e3, x3, e4, e5, c, x5', e6, w6, x6, e7]
    simpa using f
  · have f := fin (cut cs i1 + k2 - 2) (cut cs i3 + k4 - 2) s5 h5 k05
    simp [m_d_law_frame, b_d_law_frame, w0, e1, x1, e2, w2, e3, x3, e4, e5, c]
    simpa using f
end Law
namespace Law
open PySem Mi
theorem out_eq {ps c : List (Int × Int)} {h h3 : Int} (a : Asc ps h) (a3 : Asc c h3) (l1 : ps.length ≤ 999) (x y : Int) (hm : ∀ z, mem z c ↔ (x ≤ z ∧ z ≤ y ∧ ¬ mem z ps)) (s : Store) :
    ∃ s', m_outside_dates [.int x, .int y, .tup (ps.map pr)] s = .ok (.tup (c.map pr)) s' ∧ Ext s s' := by
  obtain ⟨fs, hi, r, e, asc, _, q⟩ := outside_spec a (by omega) x y s
  have := asc.uniq a3 fun y => (q y).trans (hm y).symm
  subst this
  exact ⟨_, e, r, rfl⟩
/-! ### outsides -/
def OsI (p lc : Nat) (ps : List (Int × Int)) (s0 : Store) (i : Nat) (env : Sl) (s : Store) : Prop := ∃ o3 o4, env = [some (.loc p), some (.loc lc), some (.tup (ps.map pr)), o3, o4, none] ∧ (i = 0 ∨ ∃ l a b, o4 = some (.loc l) ∧ s[l]? = some (.lst [.int a, .int b]) ∧ l ≠ p ∧ a ≤ b ∧ -9999 ≤ a ∧ b ≤ 9999) ∧ Pool p s ∧ Kp p s0 s
theorem outsides_spec {p lc : Nat} {cs : List Int} {ps : List (Int × Int)} {hh : Int} {s : Store} (h : Pool p s) (hc : s[lc]? = some (.lst (cs.map D.int))) (np : lc ≠ p) (hn : 0 < cs.length) (hz : cs.length ≤ 1000) (asc : Asc ps hh) (lp : ps.length ≤ 900) :
    ∃ s', m_d_law_outsides [.loc p, .loc lc, .tup (ps.map pr)] s = .ok (.bl true) s' ∧ Pool p s' ∧ Kp p s s' := by
  have i0 : ∀ a b : Int, ∀ (l : Nat) (s : Store), s[l]? = some (Cell.lst [.int a, .int b]) → dIx (.loc l) (.int 0) s = some (.int a, s) ∧ dIx (.loc l) (.int 1) s = some (.int b, s) := fun a b l s e => by
    constructor <;> (rw [dIx_loc e]; simp)
  obtain ⟨env', s1, e1, o3, o4, rfl, hf, h1, kp1⟩ := forL_rangeT (gd := always) (g := gN 3) (b := bl_d_law_outsides_1) 3 (OsI p lc ps s) (fun _ _ _ _ _ => trivial) (env := [some (.loc p), some (.loc lc), some (.tup (ps.map pr)), none, none, none]) (s := s) (fun i env s1 hi ⟨o3, o4, he, _, h1, kp1⟩ => by
      subst he
      obtain ⟨_, s2, e2, l, a, b, rfl, g2, nl, hab, ha, hb, h2, kp2⟩ := (frame_spec h1 (kp1.get hc np) np hn hz).out
      obtain ⟨x0, x1⟩ := i0 a b l s2 g2
      obtain ⟨fs, hi', r, e3, as3, l3, q3⟩ := outside_spec asc (by omega) a b s2
      have g3 : (s2 ++ r)[l]? = some (Cell.lst [.int a, .int b]) := by rw [List.getElem?_append_left (lt_of_get g2)]; exact g2
      obtain ⟨y0, y1⟩ := i0 a b l _ g3
      obtain ⟨gs, hi2, r2, e4, as4, l4, q4⟩ := lout_spec asc (by omega) a b (s2 ++ r)
      have := as3.uniq as4 fun y => (q3 y).trans (q4 y).symm
      subst this
      have w := same_tup fs (by omega) (s2 ++ r ++ r2)
      have hp := (h2.app r).app r2
      have kk := ((kp1.trans kp2).trans (Kp.app p s2 r)).trans (Kp.app p _ r2)
      have g4 : (s2 ++ r ++ r2)[l]? = some (Cell.lst [.int a, .int b]) := by rw [List.getElem?_append_left (lt_of_get g3)]; exact g3
      generalize s2 ++ r ++ r2 = s4 at *
      generalize s2 ++ r = s3 at *
      simp [bl_d_law_outsides_1, e2, x0, x1, e3, y0, y1, e4, w]
      exact ⟨_, _, rfl, .inr ⟨l, a, b, rfl, g4, nl, hab, ha, hb⟩, hp, kk⟩) ⟨none, none, rfl, .inl rfl, h, Kp.refl _ _⟩
  rcases hf with hf | ⟨l, a, b, rfl, g1, nl, hab, ha, hb⟩
  · cases hf
  · obtain ⟨x0, x1⟩ := i0 a b l s1 g1
    obtain ⟨s2, e2, ex2⟩ := out_eq (Asc.nil 0) (Asc.one hab) (by simp) a b (fun z => by simp) s1
    obtain ⟨y0, y1⟩ := i0 a b l s2 (ex2.get g1)
    have w2 := same_tup [(a, b)] (by simp) s2
    have h2 := ex2.pool h1
    obtain ⟨k3, s3, e3, k30, k31, h3, kp3⟩ := draw_spec h2 (many := 3) (by omega) (by omega)
    have g3 := kp3.get (ex2.get g1) nl
    obtain ⟨z0, z1⟩ := i0 a b l s3 g3
    obtain ⟨k4, s4, e4, k40, k41, h4, kp4⟩ := draw_spec h3 (many := 3) (by omega) (by omega)
    obtain ⟨u0, u1⟩ := i0 a b l s4 (kp4.get g3 nl)
    obtain ⟨s5, e5, ex5⟩ := out_eq (Asc.one (a := max (-9999) (a - k3)) (b := min 9999 (b + k4)) (by omega)) (Asc.nil 0) (by simp) a b (fun z => by simp; omega) s4
    have w5 := same_tup [] (by simp) s5
    have wr := rangeOf_int s 3 (by omega) (by omega)
    simp only [List.map_cons, List.map_nil, pr] at e2 w2 e5 w5
    refine ⟨s5, ?_, ex5.pool h4, (((kp1.trans (ex2.kp p)).trans kp3).trans kp4).trans (ex5.kp p)⟩
    simp [m_d_law_outsides, b_d_law_outsides, e1, x0, x1, e2, y0, y1, w2, e3, z0, z1, e4, u0, u1, e5, w5]
/-! ### moves -/
theorem ends_of {ps : List (Int × Int)} {hh lo hi : Int} (asc : Asc ps hh) (b : ∀ y, mem y ps → lo ≤ y ∧ y ≤ hi) (ne : ps.isEmpty = false) : ∃ x z : Int × Int, x.1 ≤ z.2 ∧ lo ≤ x.1 ∧ z.2 ≤ hi ∧ (∀ s, dIx (.tup (ps.map pr)) (.int 0) s = some (pr x, s)) ∧ ∀ s, dIx (.tup (ps.map pr)) (.int ((ps.length : Int) - 1)) s = some (pr z, s) := by
  cases ps with
  | nil => cases ne
  | cons x r =>
    obtain ⟨init, z, hz⟩ : ∃ init z, x :: r = init ++ [z] := ⟨_, _, (List.dropLast_concat_getLast (l := x :: r) (by simp)).symm⟩
    have vx := asc.val x (by simp)
    have vz := asc.val z (by rw [hz]; simp)
    have m1 := b x.1 ⟨x, by simp, Int.le_refl _, vx⟩
    have m2 := b z.2 ⟨z, by rw [hz]; simp, vz, Int.le_refl _⟩
    obtain ⟨lo', n, _⟩ := asc
    have g : x.1 ≤ z.2 := by
      have hm : mem z.2 (x :: r) := ⟨z, by rw [hz]; simp, vz, Int.le_refl _⟩
      rcases mem_cons.mp hm with q | q
      · exact q.1
      · have := n.2.2.ge q; omega
    refine ⟨x, z, g, m1.1, m2.2, fun s => by simp [dIx_tup], fun s => ?_⟩
    rw [hz, dIx_tup, show (((init ++ [z]).length : Int) - 1) = (init.length : Nat) by simp, atI_ofNat _ _ (pr z) (by simp)]
    rfl
theorem due_lc {g : Nat} {e : ME D} {env : Sl} {s : Store} (f : Int × Int → Int × Int) (ps : List (Int × Int)) (hz : ps.length ≤ 1000) (he : ∀ x : Int × Int, e (env.set g (some (.tup [.int x.1, .int x.2]))) s = .ok (pr (f x)) s) :
    lcL always (gN g) tT e env (ps.map pr) [] s = .ok ((ps.map f).map pr) s := by
  have q := lcL_map (gd := always) (g := gN g) (t := tT) (e := e) (env := env) (s := s) trivial pr (fun x => pr (f x)) ps (fun x _ => by simp [pr]; have := he x; simp [pr] at this; simp [this]) (by omega)
  rw [List.map_map]
  exact q
def MovI (p : Nat) (ps : List (Int × Int)) (low high : Int) (s0 : Store) (_ : Nat) (env : Sl) (s : Store) : Prop := ∃ o4 o5 o6, env = [some (.loc p), some (.tup (ps.map pr)), some (.int low), some (.int high), o4, o5, o6, none] ∧ Pool p s ∧ Kp p s0 s
theorem moves_loop {p : Nat} {ps : List (Int × Int)} {low high : Int} {s : Store} (h : Pool p s) (lp : ps.length ≤ 900) (r0 : 0 < high - low + 1) (r1 : high - low + 1 < 1073741824) :
    ∃ env' s', forL always (gN 4) bl_d_law_moves_2 (rng 2) [some (.loc p), some (.tup (ps.map pr)), some (.int low), some (.int high), none, none, none, none] s = .nx env' s' ∧ MovI p ps low high s 2 env' s' := by
  refine forL_rangeT 2 (MovI p ps low high s) (fun _ _ _ _ _ => trivial) (fun i env s1 hi ⟨o4, o5, o6, he, h1, kp1⟩ => ?_) ⟨none, none, none, rfl, h, Kp.refl _ _⟩
  subst he
  obtain ⟨k2, s2, e2, k20, k21, h2, kp2⟩ := often_spec h1 r0 r1
  have fin : ∀ (by_ : Int) (t : Store), Pool p t → Kp p s t → ∃ t2, lcL always (gN 7) tT le_d_law_moves_1 [some (.loc p), some (.tup (ps.map pr)), some (.int low), some (.int high), some (.int (i : Nat)), some (.int by_), o6, none] (ps.map pr) [] t = .ok ((ps.map fun x => (x.1 + by_, x.2 + by_)).map pr) t ∧
      m_moved_dates [.tup (ps.map pr), .int by_] (t ++ [.lst ((ps.map fun x => (x.1 + by_, x.2 + by_)).map pr)]) = .ok (.tup ((ps.map fun x => (x.1 + by_, x.2 + by_)).map pr)) t2 ∧ m_d_law_same [.tup ((ps.map fun x => (x.1 + by_, x.2 + by_)).map pr), .loc t.length] t2 = .ok (.bl true) t2 ∧ Pool p t2 ∧ Kp p s t2 := fun by_ t ht kt => by
    have e := due_lc (g := 7) (e := le_d_law_moves_1) (env := [some (.loc p), some (.tup (ps.map pr)), some (.int low), some (.int high), some (.int (i : Nat)), some (.int by_), o6, none]) (s := t) (fun x => (x.1 + by_, x.2 + by_)) ps (by omega) (fun x => by simp [le_d_law_moves_1, ix0, ix1, pr])
    obtain ⟨r, e3⟩ := moved_spec ps (by omega) by_ (t ++ [.lst ((ps.map fun x => (x.1 + by_, x.2 + by_)).map pr)])
    refine ⟨_, e, e3, same_loc _ (by simp; omega) ?_, (ht.app _).app _, (kt.trans (Kp.app p _ _)).trans (Kp.app p _ _)⟩
    rw [List.getElem?_append_left (lt_of_get (get_new t _))]
    exact get_new t _
  by_cases c : i = 1 ∧ 8 < high - low
  · obtain ⟨c1, c2⟩ := c
    obtain ⟨k3, s3, e3, k30, k31, h3, kp3⟩ := draw_spec h2 (many := 7) (by omega) (by omega)
    obtain ⟨t2, f1, f2, f3, f4, f5⟩ := fin (max low (min high (k3 - 3))) s3 h3 ((kp1.trans kp2).trans kp3)
    generalize (ps.map fun x => (x.1 + max low (min high (k3 - 3)), x.2 + max low (min high (k3 - 3)))).map pr = ds at *
    subst c1
    simp at f1
    simp [bl_d_law_moves_2, e2, c2, e3, f1, f2, f3]
    exact ⟨_, _, _, rfl, f4, f5⟩
  · obtain ⟨t2, f1, f2, f3, f4, f5⟩ := fin (low + k2) s2 h2 (kp1.trans kp2)
    generalize (ps.map fun x => (x.1 + (low + k2), x.2 + (low + k2))).map pr = ds at *
    by_cases c1 : i = 1
    · have c2 : ¬ 8 < high - low := fun h => c ⟨c1, h⟩
      subst c1
      simp at f1
      simp [bl_d_law_moves_2, e2, c2, f1, f2, f3]
      exact ⟨_, _, _, rfl, f4, f5⟩
    · have c1' : ¬ ((i : Int) = 1) := by omega
      simp [bl_d_law_moves_2, e2, c1', c1, f1, f2, f3]
      exact ⟨_, _, _, rfl, f4, f5⟩
theorem moves_spec {p : Nat} {ps : List (Int × Int)} {hh : Int} {s : Store} (h : Pool p s) (asc : Asc ps hh) (lp : ps.length ≤ 900) (b : ∀ y, mem y ps → -9999 ≤ y ∧ y ≤ 9999) :
    ∃ s', m_d_law_moves [.loc p, .tup (ps.map pr)] s = .ok (.bl true) s' ∧ Pool p s' ∧ Kp p s s' := by
  have w := fun s => ne_nil ps s
  cases ne : ps.isEmpty with
  | true =>
    obtain ⟨env', s', e, _, _, _, _, h', k'⟩ := moves_loop (p := p) (ps := ps) (low := -9000) (high := 9000) h lp (by omega) (by omega)
    rw [ne] at w
    refine ⟨s', ?_, h', k'⟩
    simp [m_d_law_moves, b_d_law_moves, w, e]
  | false =>
    obtain ⟨x, z, g, x1, z1, ix, iz⟩ := ends_of asc b ne
    obtain ⟨env', s', e, _, _, _, _, h', k'⟩ := moves_loop (p := p) (ps := ps) (low := -9999 - x.1) (high := 9999 - z.2) h lp (by omega) (by omega)
    rw [ne] at w
    refine ⟨s', ?_, h', k'⟩
    have hl : ((ps.map pr).length : Int) = ps.length := by simp
    generalize ps.map pr = es at *
    simp [m_d_law_moves, b_d_law_moves, w, ix, iz, hl, pr, ix0, ix1, e]
end Law
namespace Law
open PySem Mi
theorem back_lc {env : Sl} {s : Store} {l : Nat} (ds : List (Int × Int)) (hz : ds.length ≤ 1000) (hl : s[l]? = some (.lst (ds.map pr))) (he : ∀ d, eV 7 (env.set 9 d) s = .ok (.loc l) s) (h9 : ∀ d, eV 9 (env.set 9 (some d)) s = .ok d s) :
    lcL always (gN 9) tT le_d_law_turns_1 env (rng ds.length) [] s = .ok (ds.reverse.map pr) s := by
  have w := dLen_loc hl
  rw [List.length_map] at w
  have q := lcL_map (gd := always) (g := gN 9) (t := tT) (e := le_d_law_turns_1) (env := env) (s := s) trivial (fun k : Nat => D.int k) (fun k => pr (ds.getD (ds.length - 1 - k) (0, 0))) (List.range ds.length) (fun i hi => by
    have hi := List.mem_range.mp hi
    have x : dIx (.loc l) (.int ((ds.length : Int) - 1 - (i : Nat))) s = some (pr (ds.getD (ds.length - 1 - i) (0, 0)), s) := by
      rw [dIx_loc hl, show ((ds.length : Int) - 1 - (i : Nat)) = ((ds.length - 1 - i : Nat) : Int) by omega, atI_ofNat _ _ (pr (ds.getD (ds.length - 1 - i) (0, 0))) (by
        rw [List.getElem?_map, List.getD_eq_getElem?_getD, List.getElem?_eq_getElem (by omega)]
        rfl)]
      rfl
    simp [le_d_law_turns_1, he, h9, w, x]) (by simp; omega)
  rw [show rng ds.length = (List.range ds.length).map fun k : Nat => D.int k by simp [rng], q]
  refine congrArg (fun z => R.ok z s) (List.ext_getElem (by simp) fun i h1 h2 => ?_)
  simp at h1 h2
  rw [List.getElem_map, List.getElem_map, List.getElem_reverse, List.getElem_range, List.getD_eq_getElem?_getD, List.getElem?_eq_getElem (by omega)]
  rfl
def ab (i : Int) : Int := if i < 0 then -i else i
@[simp] theorem dAbs_int (i : Int) (s : Store) : dAbs [.int i] s = some (.int (ab i), s) := rfl
theorem ab_le {i : Int} (h0 : -19998 ≤ i) (h1 : i ≤ 19998) : 0 ≤ ab i ∧ ab i ≤ 19998 := by
  unfold ab
  split <;> omega
theorem turns_end {p : Nat} {ps : List (Int × Int)} {s0 s : Store} (h : Pool p s) (kp : Kp p s0 s) (lp : ps.length ≤ 900) (low high both : Int) (b0 : -19998 ≤ both) (b1 : both ≤ 19998) :
    ∃ apart s1, m_d_law_often_end [.loc p, .int (min 2999 (19998 - ab both) + 1)] s = .ok (.int apart) s1 ∧
      lcL always (gN 8) tT le_d_law_turns_2 [some (.loc p), some (.tup (ps.map pr)), some (.int low), some (.int high), some (.int both), some (.int apart), some (.int ((both - apart) / 2)), none, none, none] (ps.map pr) [] s1 = .ok ((ps.map fun x => (both - x.2, both - x.1)).map pr) s1 ∧
      lcL always (gN 9) tT le_d_law_turns_1 [some (.loc p), some (.tup (ps.map pr)), some (.int low), some (.int high), some (.int both), some (.int apart), some (.int ((both - apart) / 2)), some (.loc s1.length), none, none] (rng ps.length) [] (s1 ++ [.lst ((ps.map fun x => (both - x.2, both - x.1)).map pr)]) = .ok ((ps.reverse.map fun x => (both - x.2, both - x.1)).map pr) (s1 ++ [.lst ((ps.map fun x => (both - x.2, both - x.1)).map pr)]) ∧
      dLen [.loc s1.length] (s1 ++ [.lst ((ps.map fun x => (both - x.2, both - x.1)).map pr)]) = some (.int ps.length, s1 ++ [.lst ((ps.map fun x => (both - x.2, both - x.1)).map pr)]) ∧
      ∃ s2, m_turned_dates [.int ((both - apart) / 2), .int (both - (both - apart) / 2), .tup (ps.map pr)] (s1 ++ [.lst ((ps.map fun x => (both - x.2, both - x.1)).map pr), .lst ((ps.reverse.map fun x => (both - x.2, both - x.1)).map pr)]) = .ok (.tup ((ps.reverse.map fun x => (both - x.2, both - x.1)).map pr)) s2 ∧
        m_d_law_same [.tup ((ps.reverse.map fun x => (both - x.2, both - x.1)).map pr), .loc (s1.length + 1)] s2 = .ok (.bl true) s2 ∧ Pool p s2 ∧ Kp p s0 s2 := by
  obtain ⟨apart, s1, e1, _, _, h1, kp1⟩ := often_spec h (many := min 2999 (19998 - ab both) + 1) (by have := ab_le b0 b1; omega) (by have := ab_le b0 b1; omega)
  refine ⟨apart, s1, e1, due_lc (fun x => (both - x.2, both - x.1)) ps (by omega) (fun x => by simp [le_d_law_turns_2, ix0, ix1, pr]), ?_, ?_, ?_⟩
  · have q := back_lc (env := [some (.loc p), some (.tup (ps.map pr)), some (.int low), some (.int high), some (.int both), some (.int apart), some (.int ((both - apart) / 2)), some (.loc s1.length), none, none]) (ps.map fun x => (both - x.2, both - x.1)) (by simp; omega) (get_new s1 _) (fun d => rfl) (fun d => rfl)
    rw [List.length_map, ← List.map_reverse] at q
    exact q
  · rw [dLen_loc (get_new s1 _)]
    simp
  · obtain ⟨r, e⟩ := turned_spec ps (by omega) ((both - apart) / 2) (both - (both - apart) / 2) (s1 ++ [.lst ((ps.map fun x => (both - x.2, both - x.1)).map pr), .lst ((ps.reverse.map fun x => (both - x.2, both - x.1)).map pr)])
    rw [show (both - apart) / 2 + (both - (both - apart) / 2) = both by omega] at e
    refine ⟨_, e, same_loc _ (by simp; omega) ?_, (h1.app _).app _, (kp.trans kp1).trans ((Kp.app p s1 _).trans (Kp.app p _ r))⟩
    have g : (s1 ++ [Cell.lst ((ps.map fun x => (both - x.2, both - x.1)).map pr), Cell.lst ((ps.reverse.map fun x => (both - x.2, both - x.1)).map pr)])[s1.length + 1]? = some (.lst ((ps.reverse.map fun x => (both - x.2, both - x.1)).map pr)) := by simp
    rw [List.getElem?_append_left (lt_of_get g)]
    exact g
theorem turns_spec {p : Nat} {ps : List (Int × Int)} {hh : Int} {s : Store} (h : Pool p s) (asc : Asc ps hh) (lp : ps.length ≤ 900) (b : ∀ y, mem y ps → -9999 ≤ y ∧ y ≤ 9999) :
    ∃ s', m_d_law_turns [.loc p, .tup (ps.map pr)] s = .ok (.bl true) s' ∧ Pool p s' ∧ Kp p s s' := by
  have w := fun s => ne_nil ps s
  have wr := fun s => rangeOf_int s (ps.length : Int) (by omega) (by omega)
  simp only [Int.toNat_natCast] at wr
  have hl : ((ps.map pr).length : Int) = ps.length := by simp
  cases ne : ps.isEmpty with
  | true =>
    obtain ⟨k1, s1, e1, k10, k11, h1, kp1⟩ := often_spec h (many := 39997) (by omega) (by omega)
    obtain ⟨apart, s2, e2, e3, e4, e5, s3, e6, e7, h3, kp3⟩ := turns_end h1 kp1 lp (-19998) 19998 (-19998 + k1) (by omega) (by omega)
    rw [ne] at w
    refine ⟨s3, ?_, h3, kp3⟩
    generalize (ps.reverse.map fun x => (-19998 + k1 - x.2, -19998 + k1 - x.1)).map pr = ds at *
    generalize (ps.map fun x => (-19998 + k1 - x.2, -19998 + k1 - x.1)).map pr = cs at *
    generalize ps.map pr = es at *
    simp [m_d_law_turns, b_d_law_turns, w, e1, e2, e3, e5, wr, e4, e6, e7]
  | false =>
    obtain ⟨x, z, g, x1, z1, ix, iz⟩ := ends_of asc b ne
    obtain ⟨k1, s1, e1, k10, k11, h1, kp1⟩ := often_spec h (many := x.1 + 9999 - (z.2 - 9999) + 1) (by omega) (by omega)
    obtain ⟨k2, s2, e2, k20, k21, h2, kp2⟩ := draw_spec h1 (many := 2) (by omega) (by omega)
    rw [ne] at w
    by_cases c : k2 = 0
    · obtain ⟨k3, s3, e3, k30, k31, h3, kp3⟩ := draw_spec h2 (many := 9) (by omega) (by omega)
      obtain ⟨both, hb⟩ : ∃ both, both = max (z.2 - 9999) (min (x.1 + 9999) (x.1 + z.2 + k3 - 4)) := ⟨_, rfl⟩
      obtain ⟨apart, s4, e4, e5, e6, e7, s5, e8, e9, h5, kp5⟩ := turns_end h3 ((kp1.trans kp2).trans kp3) lp (z.2 - 9999) (x.1 + 9999) both (by omega) (by omega)
      refine ⟨s5, ?_, h5, kp5⟩
      generalize (ps.reverse.map fun x => (both - x.2, both - x.1)).map pr = ds at *
      generalize (ps.map fun x => (both - x.2, both - x.1)).map pr = cs at *
      generalize ps.map pr = es at *
      rw [hb] at e4 e5 e6 e8
      simp [m_d_law_turns, b_d_law_turns, w, ix, iz, hl, pr, ix0, ix1, e1, e2, c, e3, e4, e5, e7, wr, e6, e8, e9]
    · obtain ⟨both, hb⟩ : ∃ both, both = z.2 - 9999 + k1 := ⟨_, rfl⟩
      obtain ⟨apart, s4, e4, e5, e6, e7, s5, e8, e9, h5, kp5⟩ := turns_end h2 (kp1.trans kp2) lp (z.2 - 9999) (x.1 + 9999) both (by omega) (by omega)
      refine ⟨s5, ?_, h5, kp5⟩
      generalize (ps.reverse.map fun x => (both - x.2, both - x.1)).map pr = ds at *
      generalize (ps.map fun x => (both - x.2, both - x.1)).map pr = cs at *
      generalize ps.map pr = es at *
      rw [hb] at e4 e5 e6 e8
      simp [m_d_law_turns, b_d_law_turns, w, ix, iz, hl, pr, ix0, ix1, e1, e2, c, e4, e5, e7, wr, e6, e8, e9]
end Law
namespace Law
open PySem Mi
noncomputable def b_tail : MS := (sSeq (sSet 4 (eCall m_d_law_cuts (aCons (eV 1) (aCons (eV 3) (aNil)))))
  (sSeq (sSet 5 (eCall m_d_law_flags (aCons (eV 1) (aCons (eV 2) (aCons (eV 3) (aNil))))))
  (sSeq (sSet 6 (eCall m_d_law_dates (aCons (eV 4) (aCons (e2 dIx (eV 5) (eC (.int 0))) (aNil)))))
  (sSeq (sSet 7 (eCall m_d_law_dates (aCons (eV 4) (aCons (e2 dIx (eV 5) (eC (.int 1))) (aNil)))))
  (sSeq (sSet 8 (eCall m_d_law_dates (aCons (eV 4) (aCons (eLc (iRange1 (aCons (eV 3) (aNil))) [11] (gN 11) (tT) (le_law_3)) (aNil)))))
  (sSeq (sSet 9 (eCall m_d_law_dates (aCons (eV 4) (aCons (eLc (iRange1 (aCons (eV 3) (aNil))) [11] (gN 11) (tT) (le_law_2)) (aNil)))))
  (sSeq (sIf (tOr (tNot (tTru (eCall m_d_law_joins (aCons (eV 6) (aCons (eV 7) (aCons (eV 8) (aCons (eV 9) (aNil)))))))) (tNot (tTru (eCall m_d_law_near (aCons (eV 1) (aNil)))))) (sRet (eC (.bl false))) (sNil))
  (sSeq (sFor (iSeq (eLst (aCons (eV 6) (aCons (eV 7) (aNil))))) (gN 10) (bl_law_1))
  (sRet (eAnd (eCall m_d_law_same (aCons (eCall m_both_dates (aCons (eV 6) (aCons (eV 7) (aNil)))) (aCons (eV 8) (aNil)))) (eCall m_d_law_same (aCons (eCall m_either_dates (aCons (eV 6) (aCons (eV 7) (aNil)))) (aCons (eV 9) (aNil))))))))))))))
theorem b_law_eq : b_law = sSeq (sSet 1 (eCall m_d_law_pool (aCons (eV 0) (aNil))))
  (sSeq (sSet 2 (eCall m_d_law_draw (aCons (eV 1) (aCons (eC (.int 6)) (aNil)))))
  (sSeq (sSet 3 (e2 dAdd (eC (.int 1)) (eCall m_d_law_often_end (aCons (eV 1) (aCons (eC (.int 24)) (aNil))))))
  (sSeq (sIf (tV (e2 dEq (eV 2) (eC (.int 0)))) (sSet 3 (e2 dMul (eC (.int 4)) (e2 dAdd (eC (.int 4)) (eCall m_d_law_often_end (aCons (eV 1) (aCons (eC (.int 9)) (aNil))))))) (sNil))
  b_tail))) := rfl
theorem pm_congr {cs : List Int} {f g : Nat → Bool} {n : Nat} (h : ∀ k, k < n → f k = g k) (y : Int) : pm cs f n y ↔ pm cs g n y :=
  ⟨fun ⟨k, a, b, c⟩ => ⟨k, a, (h k a) ▸ b, c⟩, fun ⟨k, a, b, c⟩ => ⟨k, a, (h k a).symm ▸ b, c⟩⟩
theorem flag_map {f : Nat → Bool} {n k : Nat} (h : k < n) : flag ((List.range n).map f) k = f k := by simp [flag, List.getD_eq_getElem?_getD, h]
theorem comp_lc {e : ME D} {env : Sl} (f : Nat → Bool) (n : Nat) (hn : n ≤ 1000) (s : Store) (he : ∀ i : Nat, i < n → e (env.set 11 (some (.int (i : Nat)))) s = .ok (.bl (f i)) s) :
    lcL always (gN 11) tT e env (rng n) [] s = .ok (((List.range n).map f).map D.bl) s := by
  have q := lcL_map (gd := always) (g := gN 11) (t := tT) (e := e) (env := env) (s := s) trivial (fun k : Nat => D.int k) (fun k => D.bl (f k)) (List.range n) (fun i hi => by simp [he i (List.mem_range.mp hi)]) (by simp; omega)
  rw [List.map_map]
  rw [show rng n = (List.range n).map fun k : Nat => D.int k by simp [rng]]
  exact q
def LoopI (p lc : Nat) (c0 : D) (o2 o3 d4 d5 : Option D) (one other : List (Int × Int)) (d8 d9 : Option D) (cs : List Int) (l : Nat) (rest : List D) (env : Sl) (s : Store) : Prop := ∃ (qs : List (List (Int × Int))) (o10 : Option D),
  rest = qs.map (fun q => .tup (q.map pr)) ∧ (∀ q ∈ qs, q = one ∨ q = other) ∧ env = [some c0, some (.loc p), o2, o3, d4, d5, some (.tup (one.map pr)), some (.tup (other.map pr)), d8, d9, o10, none] ∧ Pool p s ∧ s[lc]? = some (.lst (cs.map D.int)) ∧ s[l]? = some (.lst [.tup (one.map pr), .tup (other.map pr)])
theorem tail_true {p n : Nat} {s : Store} (h : Pool p s) (c0 : D) (shape : Int) (hn : n ≤ 48) (h1 : 1 ≤ n) : ∃ s', b_tail [some c0, some (.loc p), some (.int shape), some (.int n), none, none, none, none, none, none, none, none] s = .rt (.bl true) s' := by
  obtain ⟨_, s1, e1, lc, cs, rfl, gc, npc, lcs, inc, cb0, cb1, h1', kp1⟩ := (cuts_spec h hn).out
  obtain ⟨_, s2, e2, lf, l1, l2, f1, f2, rfl, gf, g1, g2, lf1, lf2, h2, kp2⟩ := (flags_spec h1' shape (n := n) (by omega)).out
  have gc2 := kp2.get gc npc
  obtain ⟨one, hi1, r3, e3, as3, l3, m3⟩ := ldates_spec gc2 g1 (by omega) inc (by omega)
  have x3 : Ext s2 (s2 ++ r3) := ⟨r3, rfl⟩
  generalize s2 ++ r3 = s3 at *
  obtain ⟨other, hi2, r4, e4, as4, l4, m4⟩ := ldates_spec (x3.get gc2) (x3.get g2) (by omega) inc (by omega)
  have x4 : Ext s3 (s3 ++ r4) := ⟨r4, rfl⟩
  generalize s3 ++ r4 = s4 at *
  have x24 := x3.trans x4
  have wr := fun s => rangeOf_int s (n : Int) (by omega) (by omega)
  simp only [Int.toNat_natCast] at wr
  have ixf : ∀ {s : Store}, Ext s2 s → dIx (.loc lf) (.int 0) s = some (.loc l1, s) ∧ dIx (.loc lf) (.int 1) s = some (.loc l2, s) := fun {s} x => by
    constructor <;> (rw [dIx_loc (x.get gf)]; simp)
  have i1 : ∀ {s : Store} {i : Nat}, Ext s2 s → i < n → dIx (.loc l1) (.int (i : Nat)) s = some (.bl (flag f1 i), s) := fun x hi => ixB (x.get g1) (by omega)
  have i2 : ∀ {s : Store} {i : Nat}, Ext s2 s → i < n → dIx (.loc l2) (.int (i : Nat)) s = some (.bl (flag f2 i), s) := fun x hi => ixB (x.get g2) (by omega)
  obtain ⟨ixf20, _⟩ := ixf (Ext.refl s2)
  obtain ⟨_, ixf31⟩ := ixf x3
  have c5 := comp_lc (e := le_law_3) (env := [some c0, some (.loc p), some (.int shape), some (.int n), some (.loc lc), some (.loc lf), some (.tup (one.map pr)), some (.tup (other.map pr)), none, none, none, none]) (fun i => flag f1 i && flag f2 i) n (by omega) s4 (fun i hi => by
    obtain ⟨a, b⟩ := ixf x24
    cases q : flag f1 i <;> simp [le_law_3, a, b, i1 x24 hi, i2 x24 hi, q])
  generalize hA : (List.range n).map (fun i => flag f1 i && flag f2 i) = A at c5
  have lA : A.length = n := by rw [← hA]; simp
  have xA : Ext s4 (s4 ++ [.lst (A.map D.bl)]) := ⟨_, rfl⟩
  obtain ⟨both, hi5, r5, e5, as5, l5, m5⟩ := ldates_spec ((x24.trans xA).get gc2) (get_new s4 (.lst (A.map D.bl))) (by omega) inc (by omega)
  have x5 : Ext s4 (s4 ++ [.lst (A.map D.bl)] ++ r5) := xA.trans ⟨r5, rfl⟩
  generalize s4 ++ [.lst (A.map D.bl)] ++ r5 = s5 at *
  have x25 := x24.trans x5
  have c6 := comp_lc (e := le_law_2) (env := [some c0, some (.loc p), some (.int shape), some (.int n), some (.loc lc), some (.loc lf), some (.tup (one.map pr)), some (.tup (other.map pr)), some (.tup (both.map pr)), none, none, none]) (fun i => flag f1 i || flag f2 i) n (by omega) s5 (fun i hi => by
    obtain ⟨a, b⟩ := ixf x25
    cases q : flag f1 i <;> simp [le_law_2, a, b, i1 x25 hi, i2 x25 hi, q])
  generalize hB : (List.range n).map (fun i => flag f1 i || flag f2 i) = B at c6
  have lB : B.length = n := by rw [← hB]; simp
  have xB : Ext s5 (s5 ++ [.lst (B.map D.bl)]) := ⟨_, rfl⟩
  obtain ⟨either, hi6, r6, e6, as6, l6, m6⟩ := ldates_spec ((x25.trans xB).get gc2) (get_new s5 (.lst (B.map D.bl))) (by omega) inc (by omega)
  have x6 : Ext s5 (s5 ++ [.lst (B.map D.bl)] ++ r6) := xB.trans ⟨r6, rfl⟩
  generalize s5 ++ [.lst (B.map D.bl)] ++ r6 = s6 at *
  have x26 := x25.trans x6
  rw [lf1] at m3 l3
  rw [lf2] at m4 l4
  rw [lA] at m5 l5
  rw [lB] at m6 l6
  have hb : ∀ y, mem y both ↔ (mem y one ∧ mem y other) := fun y => by
    rw [m5 y, m3 y, m4 y, ← pm_and inc (by omega)]
    exact pm_congr (fun k hk => by rw [← hA, flag_map hk]) y
  have ho : ∀ y, mem y either ↔ (mem y one ∨ mem y other) := fun y => by
    rw [m6 y, m3 y, m4 y, ← pm_or]
    exact pm_congr (fun k hk => by rw [← hB, flag_map hk]) y
  have rng_ : ∀ (f : Nat → Bool) y, pm cs f n y → -9999 ≤ y ∧ y ≤ 9999 := fun f y ⟨k, hk, _, q1, q2⟩ => by
    have z1 := inc.le (i := 0) (j := k) (by omega) (by omega)
    have z2 := inc.le (i := k + 1) (j := n) (by omega) (by omega)
    omega
  obtain ⟨s7, e7, x7⟩ := joins_spec as3 as4 as5 as6 (by omega) (by omega) (by omega) (by omega) hb ho s6
  have x27 := x26.trans x7
  obtain ⟨s8, e8, h8, kp8⟩ := near_spec (x27.pool h2)
  have gc8 := kp8.get (x27.get gc2) npc
  obtain ⟨env9, s9, e9, ⟨qs9, o9, hr9, _, rfl, _, _, _⟩, _⟩ := forL_thru (gd := fun s2 => s2[s8.length]? = some (Cell.lst [.tup (one.map pr), .tup (other.map pr)])) (g := gN 10) (b := bl_law_1)
    (fun rest env s => LoopI p lc c0 (some (.int shape)) (some (.int n)) (some (.loc lc)) (some (.loc lf)) one other (some (.tup (both.map pr))) (some (.tup (either.map pr))) cs s8.length rest env s ∧ s[s8.length]? = some (Cell.lst [.tup (one.map pr), .tup (other.map pr)]))
    (fun _ _ _ h => h.2) (fun x xs env s ⟨⟨qs, o, hr, hq, he, hp, hc, _⟩, hs⟩ => by
      subst he
      cases qs with
      | nil => cases hr
      | cons q qs =>
        obtain ⟨rfl, rfl⟩ := List.cons.inj hr
        have np : s8.length ≠ p := Nat.ne_of_gt h8.lt
        have hq1 : ∃ hi, Asc q hi ∧ q.length ≤ 900 ∧ ∀ y, mem y q → -9999 ≤ y ∧ y ≤ 9999 := by
          rcases hq q (by simp) with e | e
          · rw [e]; exact ⟨hi1, as3, by omega, fun y m => rng_ _ y ((m3 y).mp m)⟩
          · rw [e]; exact ⟨hi2, as4, by omega, fun y m => rng_ _ y ((m4 y).mp m)⟩
        obtain ⟨hi, asq, lq, bq⟩ := hq1
        obtain ⟨t1, a1, p1, k1⟩ := outsides_spec hp hc npc (by omega) (by omega) asq lq
        obtain ⟨t2, a2, p2, k2⟩ := moves_spec p1 asq lq bq
        obtain ⟨t3, a3, p3, k3⟩ := turns_spec p2 asq lq bq
        have kk := (k1.trans k2).trans k3
        simp [bl_law_1, a1, a2, a3]
        exact ⟨⟨qs, _, rfl, (fun z hz => hq z (by simp [hz])), rfl, p3, kk.get hc npc, kk.get hs np⟩, kk.get hs np⟩)
    (xs := [.tup (one.map pr), .tup (other.map pr)]) (env := [some c0, some (.loc p), some (.int shape), some (.int n), some (.loc lc), some (.loc lf), some (.tup (one.map pr)), some (.tup (other.map pr)), some (.tup (both.map pr)), some (.tup (either.map pr)), none, none]) (s := s8 ++ [.lst [.tup (one.map pr), .tup (other.map pr)]])
    ⟨⟨[one, other], none, rfl, (fun q hq => by simpa using hq), rfl, h8.app _, by rw [List.getElem?_append_left (lt_of_get gc8)]; exact gc8, get_new _ _⟩, get_new _ _⟩
  obtain ⟨s10, e10, x10⟩ := both_eq as3 as4 as5 (by omega) (by omega) hb s9
  obtain ⟨s11, e11, x11⟩ := either_eq as3 as4 as6 (by omega) (by omega) ho s10
  have w10 := same_tup both (by omega) s10
  have w11 := same_tup either (by omega) s11
  refine ⟨s11, ?_⟩
  generalize one.map pr = d1 at *
  generalize other.map pr = d2 at *
  generalize both.map pr = d3 at *
  generalize either.map pr = d4 at *
  generalize A.map D.bl = as at *
  generalize B.map D.bl = bs at *
  simp [b_tail, e1, e2, ixf20, e3, ixf31, e4, wr, c5, e5, c6, e6, e7, e8, e9, e10, w10, e11, w11]
theorem law_true (ns : List Int) (hn : ns.length ≤ 63) : ∃ s, m_law [.fl (ns.map D.int)] [] = .ok (.bl true) s := by
  obtain ⟨p, s1, e1, h1⟩ := pool_spec ns hn
  obtain ⟨k2, s2, e2, k20, k21, h2, kp2⟩ := draw_spec h1 (many := 6) (by omega) (by omega)
  obtain ⟨k3, s3, e3, k30, k31, h3, kp3⟩ := often_spec h2 (many := 24) (by omega) (by omega)
  by_cases c : k2 = 0
  · obtain ⟨k4, s4, e4, k40, k41, h4, kp4⟩ := often_spec h3 (many := 9) (by omega) (by omega)
    obtain ⟨s', e⟩ := tail_true h4 (.fl (ns.map D.int)) k2 (n := (4 * (4 + k4)).toNat) (by omega) (by omega)
    rw [show (((4 * (4 + k4)).toNat : Nat) : Int) = 4 * (4 + k4) by omega, c] at e
    subst c
    exact ⟨s', by simp [m_law, b_law_eq, e1, e2, e3, e4, dMul_l, e]⟩
  · obtain ⟨s', e⟩ := tail_true h3 (.fl (ns.map D.int)) k2 (n := (1 + k3).toNat) (by omega) (by omega)
    rw [show (((1 + k3).toNat : Nat) : Int) = 1 + k3 by omega] at e
    exact ⟨s', by simp [m_law, b_law_eq, e1, e2, e3, c, e]⟩
end Law
namespace Law
open PySem PySem.Spec PyProof.Rows L2 Mi
theorem all_mk {P : Program} {w : World} {K : PySem.W.Frag} {h : Heap} {mg : Str → Option Value} {fa : Addr} (X : K.In h) (G : h.Ns mainGlobals mg) (hfa : mg "law" = some (.ref fa))
  {f_make_dates : Addr} {od_make_dates an_make_dates : Option Addr} {sl_make_dates : Array (Option Value)} {oc_make_dates kV_make_dates dc_make_dates pm_make_dates cd_make_dates ct_make_dates : Value} (a_make_dates : PySem.W.nsIn K mainGlobals "make_dates" = some (some (.ref f_make_dates))) (l_make_dates : K.lookup f_make_dates = some ⟨oc_make_dates, od_make_dates, .func (PySem.W.fnOf "make_dates" "make_dates" (defArgs s_make_dates) (defBody s_make_dates) (defScope s_make_dates) .none kV_make_dates dc_make_dates pm_make_dates an_make_dates cd_make_dates ct_make_dates), sl_make_dates⟩) (c_make_dates : PySem.W.codeIn K cd_make_dates "make_dates" = true) (k_make_dates : PySem.W.keepIn K (.ref f_make_dates) = true)
  {f_both_dates : Addr} {od_both_dates an_both_dates : Option Addr} {sl_both_dates : Array (Option Value)} {oc_both_dates kV_both_dates dc_both_dates pm_both_dates cd_both_dates ct_both_dates : Value} (a_both_dates : PySem.W.nsIn K mainGlobals "both_dates" = some (some (.ref f_both_dates))) (l_both_dates : K.lookup f_both_dates = some ⟨oc_both_dates, od_both_dates, .func (PySem.W.fnOf "both_dates" "both_dates" (defArgs s_both_dates) (defBody s_both_dates) (defScope s_both_dates) .none kV_both_dates dc_both_dates pm_both_dates an_both_dates cd_both_dates ct_both_dates), sl_both_dates⟩) (c_both_dates : PySem.W.codeIn K cd_both_dates "both_dates" = true) (k_both_dates : PySem.W.keepIn K (.ref f_both_dates) = true)
  {f_either_dates : Addr} {od_either_dates an_either_dates : Option Addr} {sl_either_dates : Array (Option Value)} {oc_either_dates kV_either_dates dc_either_dates pm_either_dates cd_either_dates ct_either_dates : Value} (a_either_dates : PySem.W.nsIn K mainGlobals "either_dates" = some (some (.ref f_either_dates))) (l_either_dates : K.lookup f_either_dates = some ⟨oc_either_dates, od_either_dates, .func (PySem.W.fnOf "either_dates" "either_dates" (defArgs s_either_dates) (defBody s_either_dates) (defScope s_either_dates) .none kV_either_dates dc_either_dates pm_either_dates an_either_dates cd_either_dates ct_either_dates), sl_either_dates⟩) (c_either_dates : PySem.W.codeIn K cd_either_dates "either_dates" = true) (k_either_dates : PySem.W.keepIn K (.ref f_either_dates) = true)
  {f_outside_dates : Addr} {od_outside_dates an_outside_dates : Option Addr} {sl_outside_dates : Array (Option Value)} {oc_outside_dates kV_outside_dates dc_outside_dates pm_outside_dates cd_outside_dates ct_outside_dates : Value} (a_outside_dates : PySem.W.nsIn K mainGlobals "outside_dates" = some (some (.ref f_outside_dates))) (l_outside_dates : K.lookup f_outside_dates = some ⟨oc_outside_dates, od_outside_dates, .func (PySem.W.fnOf "outside_dates" "outside_dates" (defArgs s_outside_dates) (defBody s_outside_dates) (defScope s_outside_dates) .none kV_outside_dates dc_outside_dates pm_outside_dates an_outside_dates cd_outside_dates ct_outside_dates), sl_outside_dates⟩) (c_outside_dates : PySem.W.codeIn K cd_outside_dates "outside_dates" = true) (k_outside_dates : PySem.W.keepIn K (.ref f_outside_dates) = true)
  {f_moved_dates : Addr} {od_moved_dates an_moved_dates : Option Addr} {sl_moved_dates : Array (Option Value)} {oc_moved_dates kV_moved_dates dc_moved_dates pm_moved_dates cd_moved_dates ct_moved_dates : Value} (a_moved_dates : PySem.W.nsIn K mainGlobals "moved_dates" = some (some (.ref f_moved_dates))) (l_moved_dates : K.lookup f_moved_dates = some ⟨oc_moved_dates, od_moved_dates, .func (PySem.W.fnOf "moved_dates" "moved_dates" (defArgs s_moved_dates) (defBody s_moved_dates) (defScope s_moved_dates) .none kV_moved_dates dc_moved_dates pm_moved_dates an_moved_dates cd_moved_dates ct_moved_dates), sl_moved_dates⟩) (c_moved_dates : PySem.W.codeIn K cd_moved_dates "moved_dates" = true) (k_moved_dates : PySem.W.keepIn K (.ref f_moved_dates) = true)
  {f_turned_dates : Addr} {od_turned_dates an_turned_dates : Option Addr} {sl_turned_dates : Array (Option Value)} {oc_turned_dates kV_turned_dates dc_turned_dates pm_turned_dates cd_turned_dates ct_turned_dates : Value} (a_turned_dates : PySem.W.nsIn K mainGlobals "turned_dates" = some (some (.ref f_turned_dates))) (l_turned_dates : K.lookup f_turned_dates = some ⟨oc_turned_dates, od_turned_dates, .func (PySem.W.fnOf "turned_dates" "turned_dates" (defArgs s_turned_dates) (defBody s_turned_dates) (defScope s_turned_dates) .none kV_turned_dates dc_turned_dates pm_turned_dates an_turned_dates cd_turned_dates ct_turned_dates), sl_turned_dates⟩) (c_turned_dates : PySem.W.codeIn K cd_turned_dates "turned_dates" = true) (k_turned_dates : PySem.W.keepIn K (.ref f_turned_dates) = true)
  {f_d_law_pool : Addr} {od_d_law_pool an_d_law_pool : Option Addr} {sl_d_law_pool : Array (Option Value)} {oc_d_law_pool kV_d_law_pool dc_d_law_pool pm_d_law_pool cd_d_law_pool ct_d_law_pool : Value} (a_d_law_pool : PySem.W.nsIn K mainGlobals "_law_pool" = some (some (.ref f_d_law_pool))) (l_d_law_pool : K.lookup f_d_law_pool = some ⟨oc_d_law_pool, od_d_law_pool, .func (PySem.W.fnOf "_law_pool" "_law_pool" (defArgs s_d_law_pool) (defBody s_d_law_pool) (defScope s_d_law_pool) .none kV_d_law_pool dc_d_law_pool pm_d_law_pool an_d_law_pool cd_d_law_pool ct_d_law_pool), sl_d_law_pool⟩) (c_d_law_pool : PySem.W.codeIn K cd_d_law_pool "_law_pool" = true) (k_d_law_pool : PySem.W.keepIn K (.ref f_d_law_pool) = true)
  {f_d_law_draw : Addr} {od_d_law_draw an_d_law_draw : Option Addr} {sl_d_law_draw : Array (Option Value)} {oc_d_law_draw kV_d_law_draw dc_d_law_draw pm_d_law_draw cd_d_law_draw ct_d_law_draw : Value} (a_d_law_draw : PySem.W.nsIn K mainGlobals "_law_draw" = some (some (.ref f_d_law_draw))) (l_d_law_draw : K.lookup f_d_law_draw = some ⟨oc_d_law_draw, od_d_law_draw, .func (PySem.W.fnOf "_law_draw" "_law_draw" (defArgs s_d_law_draw) (defBody s_d_law_draw) (defScope s_d_law_draw) .none kV_d_law_draw dc_d_law_draw pm_d_law_draw an_d_law_draw cd_d_law_draw ct_d_law_draw), sl_d_law_draw⟩) (c_d_law_draw : PySem.W.codeIn K cd_d_law_draw "_law_draw" = true) (k_d_law_draw : PySem.W.keepIn K (.ref f_d_law_draw) = true)
  {f_d_law_often_end : Addr} {od_d_law_often_end an_d_law_often_end : Option Addr} {sl_d_law_often_end : Array (Option Value)} {oc_d_law_often_end kV_d_law_often_end dc_d_law_often_end pm_d_law_often_end cd_d_law_often_end ct_d_law_often_end : Value} (a_d_law_often_end : PySem.W.nsIn K mainGlobals "_law_often_end" = some (some (.ref f_d_law_often_end))) (l_d_law_often_end : K.lookup f_d_law_often_end = some ⟨oc_d_law_often_end, od_d_law_often_end, .func (PySem.W.fnOf "_law_often_end" "_law_often_end" (defArgs s_d_law_often_end) (defBody s_d_law_often_end) (defScope s_d_law_often_end) .none kV_d_law_often_end dc_d_law_often_end pm_d_law_often_end an_d_law_often_end cd_d_law_often_end ct_d_law_often_end), sl_d_law_often_end⟩) (c_d_law_often_end : PySem.W.codeIn K cd_d_law_often_end "_law_often_end" = true) (k_d_law_often_end : PySem.W.keepIn K (.ref f_d_law_often_end) = true)
  {f_d_law_is_integer : Addr} {od_d_law_is_integer an_d_law_is_integer : Option Addr} {sl_d_law_is_integer : Array (Option Value)} {oc_d_law_is_integer kV_d_law_is_integer dc_d_law_is_integer pm_d_law_is_integer cd_d_law_is_integer ct_d_law_is_integer : Value} (a_d_law_is_integer : PySem.W.nsIn K mainGlobals "_law_is_integer" = some (some (.ref f_d_law_is_integer))) (l_d_law_is_integer : K.lookup f_d_law_is_integer = some ⟨oc_d_law_is_integer, od_d_law_is_integer, .func (PySem.W.fnOf "_law_is_integer" "_law_is_integer" (defArgs s_d_law_is_integer) (defBody s_d_law_is_integer) (defScope s_d_law_is_integer) .none kV_d_law_is_integer dc_d_law_is_integer pm_d_law_is_integer an_d_law_is_integer cd_d_law_is_integer ct_d_law_is_integer), sl_d_law_is_integer⟩) (c_d_law_is_integer : PySem.W.codeIn K cd_d_law_is_integer "_law_is_integer" = true) (k_d_law_is_integer : PySem.W.keepIn K (.ref f_d_law_is_integer) = true)
  {f_d_law_same : Addr} {od_d_law_same an_d_law_same : Option Addr} {sl_d_law_same : Array (Option Value)} {oc_d_law_same kV_d_law_same dc_d_law_same pm_d_law_same cd_d_law_same ct_d_law_same : Value} (a_d_law_same : PySem.W.nsIn K mainGlobals "_law_same" = some (some (.ref f_d_law_same))) (l_d_law_same : K.lookup f_d_law_same = some ⟨oc_d_law_same, od_d_law_same, .func (PySem.W.fnOf "_law_same" "_law_same" (defArgs s_d_law_same) (defBody s_d_law_same) (defScope s_d_law_same) .none kV_d_law_same dc_d_law_same pm_d_law_same an_d_law_same cd_d_law_same ct_d_law_same), sl_d_law_same⟩) (c_d_law_same : PySem.W.codeIn K cd_d_law_same "_law_same" = true) (k_d_law_same : PySem.W.keepIn K (.ref f_d_law_same) = true)
  {f_d_law_cuts : Addr} {od_d_law_cuts an_d_law_cuts : Option Addr} {sl_d_law_cuts : Array (Option Value)} {oc_d_law_cuts kV_d_law_cuts dc_d_law_cuts pm_d_law_cuts cd_d_law_cuts ct_d_law_cuts : Value} (a_d_law_cuts : PySem.W.nsIn K mainGlobals "_law_cuts" = some (some (.ref f_d_law_cuts))) (l_d_law_cuts : K.lookup f_d_law_cuts = some ⟨oc_d_law_cuts, od_d_law_cuts, .func (PySem.W.fnOf "_law_cuts" "_law_cuts" (defArgs s_d_law_cuts) (defBody s_d_law_cuts) (defScope s_d_law_cuts) .none kV_d_law_cuts dc_d_law_cuts pm_d_law_cuts an_d_law_cuts cd_d_law_cuts ct_d_law_cuts), sl_d_law_cuts⟩) (c_d_law_cuts : PySem.W.codeIn K cd_d_law_cuts "_law_cuts" = true) (k_d_law_cuts : PySem.W.keepIn K (.ref f_d_law_cuts) = true)
  {f_d_law_flags : Addr} {od_d_law_flags an_d_law_flags : Option Addr} {sl_d_law_flags : Array (Option Value)} {oc_d_law_flags kV_d_law_flags dc_d_law_flags pm_d_law_flags cd_d_law_flags ct_d_law_flags : Value} (a_d_law_flags : PySem.W.nsIn K mainGlobals "_law_flags" = some (some (.ref f_d_law_flags))) (l_d_law_flags : K.lookup f_d_law_flags = some ⟨oc_d_law_flags, od_d_law_flags, .func (PySem.W.fnOf "_law_flags" "_law_flags" (defArgs s_d_law_flags) (defBody s_d_law_flags) (defScope s_d_law_flags) .none kV_d_law_flags dc_d_law_flags pm_d_law_flags an_d_law_flags cd_d_law_flags ct_d_law_flags), sl_d_law_flags⟩) (c_d_law_flags : PySem.W.codeIn K cd_d_law_flags "_law_flags" = true) (k_d_law_flags : PySem.W.keepIn K (.ref f_d_law_flags) = true)
  {f_d_law_dates : Addr} {od_d_law_dates an_d_law_dates : Option Addr} {sl_d_law_dates : Array (Option Value)} {oc_d_law_dates kV_d_law_dates dc_d_law_dates pm_d_law_dates cd_d_law_dates ct_d_law_dates : Value} (a_d_law_dates : PySem.W.nsIn K mainGlobals "_law_dates" = some (some (.ref f_d_law_dates))) (l_d_law_dates : K.lookup f_d_law_dates = some ⟨oc_d_law_dates, od_d_law_dates, .func (PySem.W.fnOf "_law_dates" "_law_dates" (defArgs s_d_law_dates) (defBody s_d_law_dates) (defScope s_d_law_dates) .none kV_d_law_dates dc_d_law_dates pm_d_law_dates an_d_law_dates cd_d_law_dates ct_d_law_dates), sl_d_law_dates⟩) (c_d_law_dates : PySem.W.codeIn K cd_d_law_dates "_law_dates" = true) (k_d_law_dates : PySem.W.keepIn K (.ref f_d_law_dates) = true)
  {f_d_law_outside : Addr} {od_d_law_outside an_d_law_outside : Option Addr} {sl_d_law_outside : Array (Option Value)} {oc_d_law_outside kV_d_law_outside dc_d_law_outside pm_d_law_outside cd_d_law_outside ct_d_law_outside : Value} (a_d_law_outside : PySem.W.nsIn K mainGlobals "_law_outside" = some (some (.ref f_d_law_outside))) (l_d_law_outside : K.lookup f_d_law_outside = some ⟨oc_d_law_outside, od_d_law_outside, .func (PySem.W.fnOf "_law_outside" "_law_outside" (defArgs s_d_law_outside) (defBody s_d_law_outside) (defScope s_d_law_outside) .none kV_d_law_outside dc_d_law_outside pm_d_law_outside an_d_law_outside cd_d_law_outside ct_d_law_outside), sl_d_law_outside⟩) (c_d_law_outside : PySem.W.codeIn K cd_d_law_outside "_law_outside" = true) (k_d_law_outside : PySem.W.keepIn K (.ref f_d_law_outside) = true)
  {f_d_law_frame : Addr} {od_d_law_frame an_d_law_frame : Option Addr} {sl_d_law_frame : Array (Option Value)} {oc_d_law_frame kV_d_law_frame dc_d_law_frame pm_d_law_frame cd_d_law_frame ct_d_law_frame : Value} (a_d_law_frame : PySem.W.nsIn K mainGlobals "_law_frame" = some (some (.ref f_d_law_frame))) (l_d_law_frame : K.lookup f_d_law_frame = some ⟨oc_d_law_frame, od_d_law_frame, .func (PySem.W.fnOf "_law_frame" "_law_frame" (defArgs s_d_law_frame) (defBody s_d_law_frame) (defScope s_d_law_frame) .none kV_d_law_frame dc_d_law_frame pm_d_law_frame an_d_law_frame cd_d_law_frame ct_d_law_frame), sl_d_law_frame⟩) (c_d_law_frame : PySem.W.codeIn K cd_d_law_frame "_law_frame" = true) (k_d_law_frame : PySem.W.keepIn K (.ref f_d_law_frame) = true)
  {f_d_law_outsides : Addr} {od_d_law_outsides an_d_law_outsides : Option Addr} {sl_d_law_outsides : Array (Option Value)} {oc_d_law_outsides kV_d_law_outsides dc_d_law_outsides pm_d_law_outsides cd_d_law_outsides ct_d_law_outsides : Value} (a_d_law_outsides : PySem.W.nsIn K mainGlobals "_law_outsides" = some (some (.ref f_d_law_outsides))) (l_d_law_outsides : K.lookup f_d_law_outsides = some ⟨oc_d_law_outsides, od_d_law_outsides, .func (PySem.W.fnOf "_law_outsides" "_law_outsides" (defArgs s_d_law_outsides) (defBody s_d_law_outsides) (defScope s_d_law_outsides) .none kV_d_law_outsides dc_d_law_outsides pm_d_law_outsides an_d_law_outsides cd_d_law_outsides ct_d_law_outsides), sl_d_law_outsides⟩) (c_d_law_outsides : PySem.W.codeIn K cd_d_law_outsides "_law_outsides" = true) (k_d_law_outsides : PySem.W.keepIn K (.ref f_d_law_outsides) = true)
  {f_d_law_moves : Addr} {od_d_law_moves an_d_law_moves : Option Addr} {sl_d_law_moves : Array (Option Value)} {oc_d_law_moves kV_d_law_moves dc_d_law_moves pm_d_law_moves cd_d_law_moves ct_d_law_moves : Value} (a_d_law_moves : PySem.W.nsIn K mainGlobals "_law_moves" = some (some (.ref f_d_law_moves))) (l_d_law_moves : K.lookup f_d_law_moves = some ⟨oc_d_law_moves, od_d_law_moves, .func (PySem.W.fnOf "_law_moves" "_law_moves" (defArgs s_d_law_moves) (defBody s_d_law_moves) (defScope s_d_law_moves) .none kV_d_law_moves dc_d_law_moves pm_d_law_moves an_d_law_moves cd_d_law_moves ct_d_law_moves), sl_d_law_moves⟩) (c_d_law_moves : PySem.W.codeIn K cd_d_law_moves "_law_moves" = true) (k_d_law_moves : PySem.W.keepIn K (.ref f_d_law_moves) = true)
  {f_d_law_turns : Addr} {od_d_law_turns an_d_law_turns : Option Addr} {sl_d_law_turns : Array (Option Value)} {oc_d_law_turns kV_d_law_turns dc_d_law_turns pm_d_law_turns cd_d_law_turns ct_d_law_turns : Value} (a_d_law_turns : PySem.W.nsIn K mainGlobals "_law_turns" = some (some (.ref f_d_law_turns))) (l_d_law_turns : K.lookup f_d_law_turns = some ⟨oc_d_law_turns, od_d_law_turns, .func (PySem.W.fnOf "_law_turns" "_law_turns" (defArgs s_d_law_turns) (defBody s_d_law_turns) (defScope s_d_law_turns) .none kV_d_law_turns dc_d_law_turns pm_d_law_turns an_d_law_turns cd_d_law_turns ct_d_law_turns), sl_d_law_turns⟩) (c_d_law_turns : PySem.W.codeIn K cd_d_law_turns "_law_turns" = true) (k_d_law_turns : PySem.W.keepIn K (.ref f_d_law_turns) = true)
  {f_d_law_joins : Addr} {od_d_law_joins an_d_law_joins : Option Addr} {sl_d_law_joins : Array (Option Value)} {oc_d_law_joins kV_d_law_joins dc_d_law_joins pm_d_law_joins cd_d_law_joins ct_d_law_joins : Value} (a_d_law_joins : PySem.W.nsIn K mainGlobals "_law_joins" = some (some (.ref f_d_law_joins))) (l_d_law_joins : K.lookup f_d_law_joins = some ⟨oc_d_law_joins, od_d_law_joins, .func (PySem.W.fnOf "_law_joins" "_law_joins" (defArgs s_d_law_joins) (defBody s_d_law_joins) (defScope s_d_law_joins) .none kV_d_law_joins dc_d_law_joins pm_d_law_joins an_d_law_joins cd_d_law_joins ct_d_law_joins), sl_d_law_joins⟩) (c_d_law_joins : PySem.W.codeIn K cd_d_law_joins "_law_joins" = true) (k_d_law_joins : PySem.W.keepIn K (.ref f_d_law_joins) = true)
  {f_d_law_near : Addr} {od_d_law_near an_d_law_near : Option Addr} {sl_d_law_near : Array (Option Value)} {oc_d_law_near kV_d_law_near dc_d_law_near pm_d_law_near cd_d_law_near ct_d_law_near : Value} (a_d_law_near : PySem.W.nsIn K mainGlobals "_law_near" = some (some (.ref f_d_law_near))) (l_d_law_near : K.lookup f_d_law_near = some ⟨oc_d_law_near, od_d_law_near, .func (PySem.W.fnOf "_law_near" "_law_near" (defArgs s_d_law_near) (defBody s_d_law_near) (defScope s_d_law_near) .none kV_d_law_near dc_d_law_near pm_d_law_near an_d_law_near cd_d_law_near ct_d_law_near), sl_d_law_near⟩) (c_d_law_near : PySem.W.codeIn K cd_d_law_near "_law_near" = true) (k_d_law_near : PySem.W.keepIn K (.ref f_d_law_near) = true)
  {f_law : Addr} {od_law an_law : Option Addr} {sl_law : Array (Option Value)} {oc_law kV_law dc_law pm_law cd_law ct_law : Value} (a_law : PySem.W.nsIn K mainGlobals "law" = some (some (.ref f_law))) (l_law : K.lookup f_law = some ⟨oc_law, od_law, .func (PySem.W.fnOf "law" "law" (defArgs s_law) (defBody s_law) (defScope s_law) .none kV_law dc_law pm_law an_law cd_law ct_law), sl_law⟩) (c_law : PySem.W.codeIn K cd_law "law" = true) (k_law : PySem.W.keepIn K (.ref f_law) = true)
  (z_abs : PySem.W.nsIn K mainGlobals "abs" = some none)
  (z_bool : PySem.W.nsIn K mainGlobals "bool" = some none)
  (z_int : PySem.W.nsIn K mainGlobals "int" = some none)
  (z_isinstance : PySem.W.nsIn K mainGlobals "isinstance" = some none)
  (z_len : PySem.W.nsIn K mainGlobals "len" = some none)
  (z_list : PySem.W.nsIn K mainGlobals "list" = some none)
  (z_max : PySem.W.nsIn K mainGlobals "max" = some none)
  (z_min : PySem.W.nsIn K mainGlobals "min" = some none)
  (z_range : PySem.W.nsIn K mainGlobals "range" = some none)
  (z_sorted : PySem.W.nsIn K mainGlobals "sorted" = some none)
  (z_sum : PySem.W.nsIn K mainGlobals "sum" = some none)
  (z_tuple : PySem.W.nsIn K mainGlobals "tuple" = some none) :
  ∃ fd : FuncData, (∀ (s : Shared) (v : Value), BindsTo s fd ⟨[v], []⟩ [("script", v)]) ∧ ∀ base : Heap, K.In base → base.Ns mainGlobals mg → FnOk P w K mg base (L2.CX P w) 5 fa fd ["script"] (spLaw K) := by
  cases hfa.symm.trans (PySem.W.mg_of X G a_law)
  have Z : ∃ Z : Fx K mg, Z.a_law = fa ∧ Z.d_law = PySem.W.fnOf "law" "law" (defArgs s_law) (defBody s_law) (defScope s_law) .none kV_law dc_law pm_law an_law cd_law ct_law := ⟨{
    a_make_dates := f_make_dates, d_make_dates := _, F_make_dates := fun_mk (st := s_make_dates) l_make_dates c_make_dates k_make_dates, g_make_dates := PySem.W.mg_of X G a_make_dates,
    a_both_dates := f_both_dates, d_both_dates := _, F_both_dates := fun_mk (st := s_both_dates) l_both_dates c_both_dates k_both_dates, g_both_dates := PySem.W.mg_of X G a_both_dates,
    a_either_dates := f_either_dates, d_either_dates := _, F_either_dates := fun_mk (st := s_either_dates) l_either_dates c_either_dates k_either_dates, g_either_dates := PySem.W.mg_of X G a_either_dates,
    a_outside_dates := f_outside_dates, d_outside_dates := _, F_outside_dates := fun_mk (st := s_outside_dates) l_outside_dates c_outside_dates k_outside_dates, g_outside_dates := PySem.W.mg_of X G a_outside_dates,
    a_moved_dates := f_moved_dates, d_moved_dates := _, F_moved_dates := fun_mk (st := s_moved_dates) l_moved_dates c_moved_dates k_moved_dates, g_moved_dates := PySem.W.mg_of X G a_moved_dates,
    a_turned_dates := f_turned_dates, d_turned_dates := _, F_turned_dates := fun_mk (st := s_turned_dates) l_turned_dates c_turned_dates k_turned_dates, g_turned_dates := PySem.W.mg_of X G a_turned_dates,
    a_d_law_pool := f_d_law_pool, d_d_law_pool := _, F_d_law_pool := fun_mk (st := s_d_law_pool) l_d_law_pool c_d_law_pool k_d_law_pool, g_d_law_pool := PySem.W.mg_of X G a_d_law_pool,
    a_d_law_draw := f_d_law_draw, d_d_law_draw := _, F_d_law_draw := fun_mk (st := s_d_law_draw) l_d_law_draw c_d_law_draw k_d_law_draw, g_d_law_draw := PySem.W.mg_of X G a_d_law_draw,
    a_d_law_often_end := f_d_law_often_end, d_d_law_often_end := _, F_d_law_often_end := fun_mk (st := s_d_law_often_end) l_d_law_often_end c_d_law_often_end k_d_law_often_end, g_d_law_often_end := PySem.W.mg_of X G a_d_law_often_end,
    a_d_law_is_integer := f_d_law_is_integer, d_d_law_is_integer := _, F_d_law_is_integer := fun_mk (st := s_d_law_is_integer) l_d_law_is_integer c_d_law_is_integer k_d_law_is_integer, g_d_law_is_integer := PySem.W.mg_of X G a_d_law_is_integer,
    a_d_law_same := f_d_law_same, d_d_law_same := _, F_d_law_same := fun_mk (st := s_d_law_same) l_d_law_same c_d_law_same k_d_law_same, g_d_law_same := PySem.W.mg_of X G a_d_law_same,
    a_d_law_cuts := f_d_law_cuts, d_d_law_cuts := _, F_d_law_cuts := fun_mk (st := s_d_law_cuts) l_d_law_cuts c_d_law_cuts k_d_law_cuts, g_d_law_cuts := PySem.W.mg_of X G a_d_law_cuts,
    a_d_law_flags := f_d_law_flags, d_d_law_flags := _, F_d_law_flags := fun_mk (st := s_d_law_flags) l_d_law_flags c_d_law_flags k_d_law_flags, g_d_law_flags := PySem.W.mg_of X G a_d_law_flags,
    a_d_law_dates := f_d_law_dates, d_d_law_dates := _, F_d_law_dates := fun_mk (st := s_d_law_dates) l_d_law_dates c_d_law_dates k_d_law_dates, g_d_law_dates := PySem.W.mg_of X G a_d_law_dates,
    a_d_law_outside := f_d_law_outside, d_d_law_outside := _, F_d_law_outside := fun_mk (st := s_d_law_outside) l_d_law_outside c_d_law_outside k_d_law_outside, g_d_law_outside := PySem.W.mg_of X G a_d_law_outside,
    a_d_law_frame := f_d_law_frame, d_d_law_frame := _, F_d_law_frame := fun_mk (st := s_d_law_frame) l_d_law_frame c_d_law_frame k_d_law_frame, g_d_law_frame := PySem.W.mg_of X G a_d_law_frame,
    a_d_law_outsides := f_d_law_outsides, d_d_law_outsides := _, F_d_law_outsides := fun_mk (st := s_d_law_outsides) l_d_law_outsides c_d_law_outsides k_d_law_outsides, g_d_law_outsides := PySem.W.mg_of X G a_d_law_outsides,
    a_d_law_moves := f_d_law_moves, d_d_law_moves := _, F_d_law_moves := fun_mk (st := s_d_law_moves) l_d_law_moves c_d_law_moves k_d_law_moves, g_d_law_moves := PySem.W.mg_of X G a_d_law_moves,
    a_d_law_turns := f_d_law_turns, d_d_law_turns := _, F_d_law_turns := fun_mk (st := s_d_law_turns) l_d_law_turns c_d_law_turns k_d_law_turns, g_d_law_turns := PySem.W.mg_of X G a_d_law_turns,
    a_d_law_joins := f_d_law_joins, d_d_law_joins := _, F_d_law_joins := fun_mk (st := s_d_law_joins) l_d_law_joins c_d_law_joins k_d_law_joins, g_d_law_joins := PySem.W.mg_of X G a_d_law_joins,
    a_d_law_near := f_d_law_near, d_d_law_near := _, F_d_law_near := fun_mk (st := s_d_law_near) l_d_law_near c_d_law_near k_d_law_near, g_d_law_near := PySem.W.mg_of X G a_d_law_near,
    a_law := fa, d_law := _, F_law := fun_mk (st := s_law) l_law c_law k_law, g_law := PySem.W.mg_of X G a_law,
    b_abs := PySem.W.mg_none_of X G z_abs,
    b_bool := PySem.W.mg_none_of X G z_bool,
    b_int := PySem.W.mg_none_of X G z_int,
    b_isinstance := PySem.W.mg_none_of X G z_isinstance,
    b_len := PySem.W.mg_none_of X G z_len,
    b_list := PySem.W.mg_none_of X G z_list,
    b_max := PySem.W.mg_none_of X G z_max,
    b_min := PySem.W.mg_none_of X G z_min,
    b_range := PySem.W.mg_none_of X G z_range,
    b_sorted := PySem.W.mg_none_of X G z_sorted,
    b_sum := PySem.W.mg_none_of X G z_sum,
    b_tuple := PySem.W.mg_none_of X G z_tuple
  }, rfl, rfl⟩
  obtain ⟨Z, e1, e2⟩ := Z
  rw [← e1]
  exact ⟨Z.d_law, fun s v => e2 ▸ .of_eq rfl, fun base _ _ => FnOk.imp (ok_law Z) (law_imp law_true)⟩
end Law
open PySem PySem.W PyProof.Rows
set_option maxHeartbeats 0 in
theorem PySem.Challenge.cw_beforeinall_k02_joined_dates_holds : PySem.Challenge.rw_beforeinall_k02_joined_dates.Holds := by
  w_on; o_law; k_head; (case hw => w_witness2)
  k_fill
  refine L2.walk_of (l := PySem.Challenge.rw_beforeinall_k02_joined_dates) (n := 63) (k := 5) (x := "script") (CX := fun w => L2.CX PySem.Challenge.rw_beforeinall_k02_joined_dates.prog w) (sp := fun w => Mi.spLaw _) rfl (by decide) rfl ⟨rfl, by decide, by decide⟩ (fun w h Y => PySem.W.kIn_of Y) ?F (fun _ _ a ns hl hO hS => ⟨a, ns, rfl, hS, hl, hO, fun _ => rfl⟩) (fun _ _ _ _ _ h => Mi.cx_none h)
  case F =>
    intro w mg fa h KX G hmg
    refine' Law.all_mk KX G hmg ?a_make_dates ?l_make_dates ?c_make_dates ?k_make_dates ?a_both_dates ?l_both_dates ?c_both_dates ?k_both_dates ?a_either_dates ?l_either_dates ?c_either_dates ?k_either_dates ?a_outside_dates ?l_outside_dates ?c_outside_dates ?k_outside_dates ?a_moved_dates ?l_moved_dates ?c_moved_dates ?k_moved_dates ?a_turned_dates ?l_turned_dates ?c_turned_dates ?k_turned_dates ?a_d_law_pool ?l_d_law_pool ?c_d_law_pool ?k_d_law_pool ?a_d_law_draw ?l_d_law_draw ?c_d_law_draw ?k_d_law_draw ?a_d_law_often_end ?l_d_law_often_end ?c_d_law_often_end ?k_d_law_often_end ?a_d_law_is_integer ?l_d_law_is_integer ?c_d_law_is_integer ?k_d_law_is_integer ?a_d_law_same ?l_d_law_same ?c_d_law_same ?k_d_law_same ?a_d_law_cuts ?l_d_law_cuts ?c_d_law_cuts ?k_d_law_cuts ?a_d_law_flags ?l_d_law_flags ?c_d_law_flags ?k_d_law_flags ?a_d_law_dates ?l_d_law_dates ?c_d_law_dates ?k_d_law_dates ?a_d_law_outside ?l_d_law_outside ?c_d_law_outside ?k_d_law_outside ?a_d_law_frame ?l_d_law_frame ?c_d_law_frame ?k_d_law_frame ?a_d_law_outsides ?l_d_law_outsides ?c_d_law_outsides ?k_d_law_outsides ?a_d_law_moves ?l_d_law_moves ?c_d_law_moves ?k_d_law_moves ?a_d_law_turns ?l_d_law_turns ?c_d_law_turns ?k_d_law_turns ?a_d_law_joins ?l_d_law_joins ?c_d_law_joins ?k_d_law_joins ?a_d_law_near ?l_d_law_near ?c_d_law_near ?k_d_law_near ?a_law ?l_law ?c_law ?k_law ?z_abs ?z_bool ?z_int ?z_isinstance ?z_len ?z_list ?z_max ?z_min ?z_range ?z_sorted ?z_sum ?z_tuple
    (case a_make_dates => k_is); (case l_make_dates => k_is); (case c_make_dates => k_is); (case k_make_dates => k_is); (case a_both_dates => k_is); (case l_both_dates => k_is); (case c_both_dates => k_is); (case k_both_dates => k_is); (case a_either_dates => k_is); (case l_either_dates => k_is); (case c_either_dates => k_is); (case k_either_dates => k_is); (case a_outside_dates => k_is); (case l_outside_dates => k_is); (case c_outside_dates => k_is); (case k_outside_dates => k_is); (case a_moved_dates => k_is); (case l_moved_dates => k_is); (case c_moved_dates => k_is); (case k_moved_dates => k_is); (case a_turned_dates => k_is); (case l_turned_dates => k_is); (case c_turned_dates => k_is); (case k_turned_dates => k_is); (case a_d_law_pool => k_is); (case l_d_law_pool => k_is); (case c_d_law_pool => k_is); (case k_d_law_pool => k_is); (case a_d_law_draw => k_is); (case l_d_law_draw => k_is); (case c_d_law_draw => k_is); (case k_d_law_draw => k_is); (case a_d_law_often_end => k_is); (case l_d_law_often_end => k_is); (case c_d_law_often_end => k_is); (case k_d_law_often_end => k_is); (case a_d_law_is_integer => k_is); (case l_d_law_is_integer => k_is); (case c_d_law_is_integer => k_is); (case k_d_law_is_integer => k_is); (case a_d_law_same => k_is); (case l_d_law_same => k_is); (case c_d_law_same => k_is); (case k_d_law_same => k_is); (case a_d_law_cuts => k_is); (case l_d_law_cuts => k_is); (case c_d_law_cuts => k_is); (case k_d_law_cuts => k_is); (case a_d_law_flags => k_is); (case l_d_law_flags => k_is); (case c_d_law_flags => k_is); (case k_d_law_flags => k_is); (case a_d_law_dates => k_is); (case l_d_law_dates => k_is); (case c_d_law_dates => k_is); (case k_d_law_dates => k_is); (case a_d_law_outside => k_is); (case l_d_law_outside => k_is); (case c_d_law_outside => k_is); (case k_d_law_outside => k_is); (case a_d_law_frame => k_is); (case l_d_law_frame => k_is); (case c_d_law_frame => k_is); (case k_d_law_frame => k_is); (case a_d_law_outsides => k_is); (case l_d_law_outsides => k_is); (case c_d_law_outsides => k_is); (case k_d_law_outsides => k_is); (case a_d_law_moves => k_is); (case l_d_law_moves => k_is); (case c_d_law_moves => k_is); (case k_d_law_moves => k_is); (case a_d_law_turns => k_is); (case l_d_law_turns => k_is); (case c_d_law_turns => k_is); (case k_d_law_turns => k_is); (case a_d_law_joins => k_is); (case l_d_law_joins => k_is); (case c_d_law_joins => k_is); (case k_d_law_joins => k_is); (case a_d_law_near => k_is); (case l_d_law_near => k_is); (case c_d_law_near => k_is); (case k_d_law_near => k_is); (case a_law => k_is); (case l_law => k_is); (case c_law => k_is); (case k_law => k_is); (case z_abs => k_is); (case z_bool => k_is); (case z_int => k_is); (case z_isinstance => k_is); (case z_len => k_is); (case z_list => k_is); (case z_max => k_is); (case z_min => k_is); (case z_range => k_is); (case z_sorted => k_is); (case z_sum => k_is); (case z_tuple => k_is)
