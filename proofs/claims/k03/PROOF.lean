import PyProof.Rows.All
import HandS.ForMost
import HandS.ForExc
import HandS.IsInst
import HandS.TupAny
import HandS.Wide
import HandS.Walk
import PySem.Challenge.RW_beforeinall_k03_years_sought
set_option Elab.async false
set_option linter.all false
set_option maxRecDepth 100000
set_option maxHeartbeats 4000000
/-! Mi: mirrors of defs over pure values and a store; each combinator is held by the hand layer's judgements. -/
namespace Mi
open PySem PySem.Spec PyProof.Rows L2
/-! ### values, store, results -/
/-- a value: tuples are data; fl: a list that is never written; loc: a place of the store -/
inductive D where
  | non | bl (b : Bool) | int (i : Int) | str (x : Str)
  | tup (xs : List D) | fl (xs : List D) | loc (l : Nat) | exv (c : Str) (fs : List (Str × D))
inductive Cell where
  | lst (xs : List D) | dic (kvs : List (Key × D))
abbrev Store := List Cell
structure Ex where
  cls : Str
  fs : List (Str × D)
inductive R (α : Type) where
  | ok (a : α) (s : Store) | ex (e : Ex) (s : Store) | no
namespace R
def bind {α β : Type} (r : R α) (k : α → Store → R β) : R β := match r with
  | .ok a s => k a s
  | .ex e s => .ex e s
  | .no => .no
def of {α : Type} : Option (α × Store) → R α
  | some (a, s) => .ok a s
  | none => .no
@[simp] theorem bind_ok {α β : Type} (a : α) (s : Store) (k : α → Store → R β) : (R.ok a s).bind k = k a s := rfl
@[simp] theorem bind_ex {α β : Type} (e : Ex) (s : Store) (k : α → Store → R β) : (R.ex e s : R α).bind k = .ex e s := rfl
@[simp] theorem bind_no {α β : Type} (k : α → Store → R β) : (R.no : R α).bind k = .no := rfl
@[simp] theorem of_some {α : Type} (a : α) (s : Store) : R.of (some (a, s)) = .ok a s := rfl
@[simp] theorem of_none {α : Type} : (R.of none : R α) = .no := rfl
end R
/-- the slots of a def's names -/
abbrev Sl := List (Option D)
inductive RS where
  | nx (env : Sl) (s : Store) | rt (d : D) (s : Store) | bk (env : Sl) (s : Store) | ct (env : Sl) (s : Store) | ex (e : Ex) (env : Sl) (s : Store) | no
/-! ### the relation to the hand layer's heap -/
section
variable (K : PySem.W.Frag)
/-- a list that is never written: known to the object, or of the module -/
def FrL (H : Hp) (a : Addr) (vs : List V) : Prop :=
  (∃ o, H a = some (.frz o (.lst vs))) ∨
    ∃ (o : Obj) (its : Array Value) (n : Nat), K.lookup a = some o ∧ o.cls = .type "list" ∧ o.dict = none ∧ o.data = .seq its n ∧ its.size ≤ sizeLine ∧ Vals vs its.toList
theorem FrL.sq {K : PySem.W.Frag} {H : Hp} {a : Addr} {vs : List V} (h : FrL K H a vs) : SqL K H a vs := by
  rcases h with ⟨o, h⟩ | h
  · exact .inl (.inr ⟨o, h⟩)
  · exact .inr h
mutual
inductive Rep (m : List Addr) (H : Hp) : D → V → Prop where
  | non : Rep m H .non .non
  | bl (b : Bool) : Rep m H (.bl b) (.bl b)
  | int (i : Int) : Rep m H (.int i) (.int i)
  | str (x : Str) : Rep m H (.str x) (.str x)
  | tup {xs : List D} {a : Addr} {vs : List V} (h : SqT K H a vs) (r : Reps m H xs vs) : Rep m H (.tup xs) (.ref a)
  | fl {xs : List D} {a : Addr} {vs : List V} (h : FrL K H a vs) (r : Reps m H xs vs) : Rep m H (.fl xs) (.ref a)
  | loc {l : Nat} {a : Addr} (h : m[l]? = some a) : Rep m H (.loc l) (.ref a)
  | exv {c : Str} {fs : List (Str × D)} (a : Addr) : Rep m H (.exv c fs) (.ref a)
inductive Reps (m : List Addr) (H : Hp) : List D → List V → Prop where
  | nil : Reps m H [] []
  | cons {x : D} {v : V} {xs : List D} {vs : List V} (h : Rep m H x v) (r : Reps m H xs vs) : Reps m H (x :: xs) (v :: vs)
end
inductive RepK (m : List Addr) (H : Hp) : List (Key × D) → List (Key × V) → Prop where
  | nil : RepK m H [] []
  | cons {k : Key} {x : D} {v : V} {xs : List (Key × D)} {vs : List (Key × V)} (h : Rep K m H x v) (r : RepK m H xs vs) : RepK m H ((k, x) :: xs) ((k, v) :: vs)
def CellR (m : List Addr) (H : Hp) (a : Addr) : Cell → Prop
  | .lst xs => ∃ vs, H a = some (.lst vs) ∧ Reps K m H xs vs
  | .dic kvs => ∃ ws, H a = some (.dK ws) ∧ RepK K m H kvs ws
structure Rel (m : List Addr) (H : Hp) (s : Store) : Prop where
  len : m.length = s.length
  nd : m.Nodup
  at_ : ∀ (l : Nat) (a : Addr) (c : Cell), m[l]? = some a → s[l]? = some c → CellR K m H a c
/-- later: what was there is there; tuples and the lists that are never written stand; what is no cell of ours stands -/
structure Le (m : List Addr) (H : Hp) (m' : List Addr) (H' : Hp) : Prop where
  pre : ∃ r, m' = m ++ r
  tup : ∀ a xs, SqT K H a xs → SqT K H' a xs
  frl : ∀ a xs, FrL K H a xs → FrL K H' a xs
  fr : ∀ b o, H b = some o → b ∉ m → H' b = some o
  nw : ∀ b, b ∈ m' → b ∈ m ∨ H b = none
def RelE (m : List Addr) (H : Hp) (env : Sl) (σ : L2.St) : Prop :=
  env.length = σ.length ∧ ∀ (i : Nat) (d : D), env[i]? = some (some d) → ∃ v, σ[i]? = some (some v) ∧ Rep K m H d v
end
section
variable {K : PySem.W.Frag} {m m1 m2 : List Addr} {H H1 H2 : Hp} {s : Store} {a b p : Addr} {c : Cell}
theorem Le.refl : Le K m H m H := ⟨⟨[], by simp⟩, fun _ _ h => h, fun _ _ h => h, fun _ _ h _ => h, fun _ h => .inl h⟩
theorem Le.get (e : Le K m H m1 H1) {l : Nat} (h : m[l]? = some a) : m1[l]? = some a := by
  obtain ⟨r, rfl⟩ := e.pre
  rw [List.getElem?_append_left (by
    rcases Nat.lt_or_ge l m.length with q | q
    · exact q
    · rw [List.getElem?_eq_none q] at h; cases h)]
  exact h
theorem Le.trans (e : Le K m H m1 H1) (f : Le K m1 H1 m2 H2) : Le K m H m2 H2 := by
  refine ⟨?_, fun a xs h => f.tup a xs (e.tup a xs h), fun a xs h => f.frl a xs (e.frl a xs h), fun b o h n => ?_, fun b h => ?_⟩
  · obtain ⟨r, rfl⟩ := e.pre
    obtain ⟨r2, rfl⟩ := f.pre
    exact ⟨r ++ r2, by simp⟩
  · refine f.fr b o (e.fr b o h n) fun z => ?_
    rcases e.nw b z with q | q
    · exact n q
    · rw [h] at q; cases q
  · by_cases z : b ∈ m
    · exact .inl z
    · rcases f.nw b h with q | q
      · exact e.nw b q
      · refine .inr ?_
        cases w : H b with
        | none => rfl
        | some o =>
          rw [e.fr b o w z] at q; cases q
mutual
theorem Rep.mono (e : Le K m H m1 H1) : ∀ {d : D} {v : V}, Rep K m H d v → Rep K m1 H1 d v
  | _, _, .non => .non
  | _, _, .bl b => .bl b
  | _, _, .int i => .int i
  | _, _, .str x => .str x
  | _, _, .tup h r => .tup (e.tup _ _ h) (Reps.mono e r)
  | _, _, .fl h r => .fl (e.frl _ _ h) (Reps.mono e r)
  | _, _, .loc h => .loc (e.get h)
  | _, _, .exv a => .exv a
theorem Reps.mono (e : Le K m H m1 H1) : ∀ {ds : List D} {vs : List V}, Reps K m H ds vs → Reps K m1 H1 ds vs
  | _, _, .nil => .nil
  | _, _, .cons h r => .cons (Rep.mono e h) (Reps.mono e r)
end
theorem RepK.mono (e : Le K m H m1 H1) : ∀ {ds : List (Key × D)} {vs : List (Key × V)}, RepK K m H ds vs → RepK K m1 H1 ds vs
  | _, _, .nil => .nil
  | _, _, .cons h r => .cons (h.mono e) (RepK.mono e r)
theorem RelE.mono (e : Le K m H m1 H1) {env : Sl} {σ : L2.St} (h : RelE K m H env σ) : RelE K m1 H1 env σ :=
  ⟨h.1, fun i d q => let ⟨v, h1, h2⟩ := h.2 i d q; ⟨v, h1, h2.mono e⟩⟩
theorem Reps.length : ∀ {xs : List D} {vs : List V}, Reps K m H xs vs → xs.length = vs.length
  | _, _, .nil => rfl
  | _, _, .cons _ r => by simp [Reps.length r]
theorem Reps.get : ∀ {xs : List D} {vs : List V} {i : Nat} {x : D}, Reps K m H xs vs → xs[i]? = some x → ∃ v, vs[i]? = some v ∧ Rep K m H x v
  | _, _, _, _, .nil, e => by simp at e
  | _, _, 0, _, .cons h _, e => by simp at e; subst e; exact ⟨_, rfl, h⟩
  | _, _, i + 1, x, .cons _ r, e => by
    obtain ⟨v, h1, h2⟩ := Reps.get (i := i) (x := x) r (by simpa using e)
    exact ⟨v, by simpa using h1, h2⟩
theorem Reps.append : ∀ {xs ys : List D} {vs ws : List V}, Reps K m H xs vs → Reps K m H ys ws → Reps K m H (xs ++ ys) (vs ++ ws)
  | _, _, _, _, .nil, q => q
  | _, _, _, _, .cons h r, q => .cons h (Reps.append r q)
theorem Reps.take : ∀ {xs : List D} {vs : List V} (n : Nat), Reps K m H xs vs → Reps K m H (xs.take n) (vs.take n)
  | _, _, 0, _ => .nil
  | _, _, _ + 1, .nil => .nil
  | _, _, n + 1, .cons h r => .cons h (Reps.take n r)
theorem Reps.drop : ∀ {xs : List D} {vs : List V} (n : Nat), Reps K m H xs vs → Reps K m H (xs.drop n) (vs.drop n)
  | _, _, 0, r => r
  | _, _, _ + 1, .nil => .nil
  | _, _, n + 1, .cons _ r => Reps.drop n r
theorem Reps.set {x : D} {v : V} (h : Rep K m H x v) : ∀ {xs : List D} {vs : List V} (i : Nat), Reps K m H xs vs → Reps K m H (xs.set i x) (vs.set i v)
  | _, _, _, .nil => .nil
  | _, _, 0, .cons _ r => .cons h r
  | _, _, i + 1, .cons q r => .cons q (Reps.set h i r)
theorem Reps.dropLast : ∀ {xs : List D} {vs : List V}, Reps K m H xs vs → Reps K m H xs.dropLast vs.dropLast
  | _, _, .nil => .nil
  | _, _, .cons _ .nil => .nil
  | _, _, .cons h (.cons h2 r) => by
    rw [List.dropLast_cons₂, List.dropLast_cons₂]
    exact .cons h (Reps.dropLast (.cons h2 r))
theorem Reps.erase : ∀ {xs : List D} {vs : List V} (i : Nat), Reps K m H xs vs → Reps K m H (xs.eraseIdx i) (vs.eraseIdx i)
  | _, _, _, .nil => .nil
  | _, _, 0, .cons _ r => r
  | _, _, i + 1, .cons q r => .cons q (Reps.erase i r)
theorem Reps.reverse {xs : List D} {vs : List V} (h : Reps K m H xs vs) : Reps K m H xs.reverse vs.reverse := by
  induction xs generalizing vs with
  | nil => cases h; exact .nil
  | cons x xs ih =>
    cases h with
    | cons h r =>
      rw [List.reverse_cons, List.reverse_cons]
      exact (ih r).append (.cons h .nil)
theorem Reps.ints : ∀ {ns : List Int} {vs : List V}, Reps K m H (ns.map D.int) vs → vs = ns.map V.int
  | [], _, .nil => rfl
  | n :: ns, _, .cons h r => by
    cases h
    rw [List.map_cons, Reps.ints r]
theorem reps_ints (ns : List Int) : Reps K m H (ns.map D.int) (ns.map V.int) := by
  induction ns with
  | nil => exact .nil
  | cons n ns ih => exact .cons (.int n) ih
/-! ### changes of the heap -/
theorem Rel.lt (r : Rel K m H s) {l : Nat} (h : m[l]? = some a) : l < s.length := by
  rw [← r.len]
  rcases Nat.lt_or_ge l m.length with q | q
  · exact q
  · rw [List.getElem?_eq_none q] at h; cases h
theorem Rel.there (r : Rel K m H s) (h : b ∈ m) : ∃ o, H b = some o ∧ (∃ vs, o = .lst vs) ∨ ∃ ws, H b = some (.dK ws) := by
  obtain ⟨l, hl⟩ := List.getElem?_of_mem h
  have q := r.lt hl
  obtain ⟨c, hc⟩ : ∃ c, s[l]? = some c := ⟨s[l], by simp [q]⟩
  have x := r.at_ l b c hl hc
  cases c with
  | lst xs => obtain ⟨vs, e, _⟩ := x; exact ⟨_, .inl ⟨e, vs, rfl⟩⟩
  | dic kvs => obtain ⟨ws, e, _⟩ := x; exact ⟨.lst [], .inr ⟨ws, e⟩⟩
theorem Rel.has (r : Rel K m H s) (h : b ∈ m) : ∃ o, H b = some o ∧ (∀ xs, o ≠ .tup xs) ∧ ∀ u x, o ≠ .frz u x := by
  obtain ⟨o, ⟨e, vs, rfl⟩ | ⟨ws, e⟩⟩ := r.there h
  · exact ⟨_, e, fun _ z => (by cases z), fun _ _ z => (by cases z)⟩
  · exact ⟨_, e, fun _ z => (by cases z), fun _ _ z => (by cases z)⟩
theorem Rel.new_notin (r : Rel K m H s) (h : H p = none) : p ∉ m := fun z => by
  obtain ⟨o, e, _⟩ := r.has z
  rw [h] at e; cases e
/-- any object laid at a free place, or written at a place that is neither tuple nor frozen -/
theorem le_upd {o : HO} (hp : ∀ u, H p = Option.some u → p ∈ m) (hm : ∀ u, H p = Option.some u → (∀ xs, u ≠ .tup xs) ∧ ∀ ob x, u ≠ .frz ob x) : Le K m H m (upd H p o) := by
  refine ⟨⟨[], by simp⟩, fun b xs h => ?_, fun b xs h => ?_, fun b u h n => ?_, fun b h => .inl h⟩
  · rcases h with (h | ⟨ob, h⟩) | h
    · exact .inl (.inl (by rw [upd_ne (fun z => by subst z; exact (hm _ h).1 xs rfl)]; exact h))
    · exact .inl (.inr ⟨ob, by rw [upd_ne (fun z => by subst z; exact (hm _ h).2 _ _ rfl)]; exact h⟩)
    · exact .inr h
  · rcases h with ⟨ob, h⟩ | h
    · exact .inl ⟨ob, by rw [upd_ne (fun z => by subst z; exact (hm _ h).2 _ _ rfl)]; exact h⟩
    · exact .inr h
  · rw [upd_ne (fun z => by subst z; exact n (hp _ h))]; exact h
theorem le_new {o : HO} (hp : H p = none) : Le K m H m (upd H p o) :=
  le_upd (fun u h => by rw [hp] at h; cases h) (fun u h => by rw [hp] at h; cases h)
theorem le_put (r : Rel K m H s) (h : p ∈ m) {o : HO} : Le K m H m (upd H p o) :=
  le_upd (fun _ _ => h) (fun u e => by
    obtain ⟨o', e', q⟩ := r.has h
    rw [e] at e'; cases e'
    exact q)
theorem le_more (r : Rel K m H s) (hp : H p = none) {o : HO} : Le K m H (m ++ [p]) (upd H p o) := by
  have e : Le K m H m (upd H p o) := le_new hp
  refine ⟨⟨[p], rfl⟩, e.tup, e.frl, e.fr, fun b h => ?_⟩
  rcases List.mem_append.mp h with q | q
  · exact .inl q
  · rw [List.mem_singleton.mp q]; exact .inr hp
theorem CellR.mono {m' : List Addr} {H' : Hp} (e : Le K m H m' H') (hs : H' a = H a) (h : CellR K m H a c) : CellR K m' H' a c := by
  cases c with
  | lst xs => obtain ⟨vs, h1, h2⟩ := h; exact ⟨vs, hs.trans h1, h2.mono e⟩
  | dic kvs => obtain ⟨ws, h1, h2⟩ := h; exact ⟨ws, hs.trans h1, h2.mono e⟩
/-- an object that is no cell is laid -/
theorem Rel.tmp (r : Rel K m H s) (hp : H p = none) {o : HO} : Rel K m (upd H p o) s :=
  ⟨r.len, r.nd, fun l a c h1 h2 => (r.at_ l a c h1 h2).mono (le_new hp) (upd_ne fun z => by subst z; exact r.new_notin hp (List.mem_of_getElem? h1))⟩
theorem Rel.put (r : Rel K m H s) {l : Nat} (h : m[l]? = Option.some p) {o : HO} {c : Cell} (hc : CellR K m (upd H p o) p c) : Rel K m (upd H p o) (s.set l c) := by
  refine ⟨by rw [List.length_set]; exact r.len, r.nd, fun j b d h1 h2 => ?_⟩
  by_cases hj : j = l
  · subst hj
    rw [h] at h1; cases h1
    rw [List.getElem?_set_self (r.lt h)] at h2; cases h2
    exact hc
  · rw [List.getElem?_set_ne (Ne.symm hj)] at h2
    refine (r.at_ j b d h1 h2).mono (le_put r (List.mem_of_getElem? h)) (upd_ne fun z => hj ?_)
    subst z
    exact nd_ix r.nd h1 h
theorem Rel.new (r : Rel K m H s) (hp : H p = none) {o : HO} {c : Cell} (hc : CellR K (m ++ [p]) (upd H p o) p c) : Rel K (m ++ [p]) (upd H p o) (s ++ [c]) := by
  have hn := r.new_notin hp
  refine ⟨by simp [r.len], ?_, fun j b d h1 h2 => ?_⟩
  · rw [List.nodup_append]
    exact ⟨r.nd, by simp, fun x hx y hy => by rw [List.mem_singleton.mp hy]; exact fun z => hn (z ▸ hx)⟩
  · rcases Nat.lt_or_ge j m.length with q | q
    · rw [List.getElem?_append_left q] at h1
      rw [List.getElem?_append_left (by rw [← r.len]; exact q)] at h2
      exact (r.at_ j b d h1 h2).mono (le_more r hp) (upd_ne fun z => by subst z; exact hn (List.mem_of_getElem? h1))
    · rw [List.getElem?_append_right q] at h1
      rw [List.getElem?_append_right (by rw [← r.len]; exact q), ← r.len] at h2
      cases hk : j - m.length with
      | zero =>
        rw [hk] at h1 h2
        simp at h1 h2
        subst h1; subst h2
        exact hc
      | succ n => rw [hk] at h1; simp at h1
theorem len_get (r : Rel K m H s) : (m ++ [p])[s.length]? = some p := by
  rw [← r.len, List.getElem?_append_right (Nat.le_refl _)]; simp
/-- a new tuple -/
theorem rep_newtup {xs : List D} {vs : List V} (hp : H p = none) (h : Reps K m H xs vs) : Rep K m (upd H p (.tup vs)) (.tup xs) (.ref p) :=
  .tup (.inl (.inl upd_same)) (h.mono (le_new hp))
/-- a new list -/
theorem rel_newlist {xs : List D} {vs : List V} (r : Rel K m H s) (hp : H p = none) (h : Reps K m H xs vs) : Rel K (m ++ [p]) (upd H p (.lst vs)) (s ++ [.lst xs]) :=
  r.new hp ⟨vs, upd_same, h.mono (le_more r hp)⟩
theorem Rel.list (r : Rel K m H s) {l : Nat} {xs : List D} (h : m[l]? = Option.some a) (hs : s[l]? = Option.some (.lst xs)) : ∃ vs, H a = Option.some (.lst vs) ∧ Reps K m H xs vs := r.at_ l a _ h hs
end
end Mi
namespace Mi
open PySem PySem.Spec PyProof.Rows L2
/-! ### readings of mirrors -/
section
variable (K : PySem.W.Frag) (mg : Str → Option Value)
inductive FldR (m : List Addr) (H : Hp) : List (Str × D) → List (Str × V) → Prop where
  | nil : FldR m H [] []
  | cons {f : Str} {x : D} {v : V} {xs : List (Str × D)} {vs : List (Str × V)} (h : Rep K m H x v) (r : FldR m H xs vs) : FldR m H ((f, x) :: xs) ((f, v) :: vs)
/-- an exception: its class, its own dict -/
def ExR (m : List Addr) (H : Hp) (e : Ex) (c : Value) (dd : Option Addr) : Prop :=
  mg e.cls = some c ∧ ((e.fs = [] ∧ dd = none) ∨ ∃ d vfs, dd = some d ∧ H d = some (.xd vfs) ∧ d ∉ m ∧ FldR K m H e.fs vfs)
/-- what a result is to bring about -/
def G {α β : Type} (ρ : List Addr → Hp → α → β → Prop) (W : WX) (σ : L2.St) (m : List Addr) (H : Hp) (Q : β → Hp → Prop) : R α → Prop
  | .ok a s => ∀ m' H' b, Le K m H m' H' → Rel K m' H' s → ρ m' H' a b → Q b H'
  | .ex e s => ∀ m' H' c dd, Le K m H m' H' → Rel K m' H' s → ExR K mg m' H' e c dd → W c dd σ H'
  | .no => False
def Tm {α β : Type} (ρ : List Addr → Hp → α → β → Prop) (W : WX) (f : Sl → Store → R α) : L2.St → Hp → (β → Hp → Prop) → Prop := fun σ H Q =>
  ∃ m env s, Rel K m H s ∧ RelE K m H env σ ∧ G K mg ρ W σ m H Q (f env s)
abbrev ME (α : Type) := Sl → Store → R α
/-- a test's -/
def ρB : List Addr → Hp → Bool → Bool → Prop := fun _ _ a b => a = b
abbrev Te (W : WX) (f : ME D) : TE := Tm K mg (Rep K) W f
abbrev Tt (W : WX) (f : ME Bool) : TT := Tm K mg ρB W f
abbrev Ta (W : WX) (f : ME (List D)) : TA := Tm K mg (Reps K) W f
end
section
variable {K : PySem.W.Frag} {mg : Str → Option Value} {m m1 : List Addr} {H H1 : Hp} {s : Store} {W : WX} {σ : L2.St}
theorem FldR.mono (e : Le K m H m1 H1) : ∀ {ds : List (Str × D)} {vs : List (Str × V)}, FldR K m H ds vs → FldR K m1 H1 ds vs
  | _, _, .nil => .nil
  | _, _, .cons h r => .cons (h.mono e) (FldR.mono e r)
section
variable {α α' β β' : Type} {ρ : List Addr → Hp → α → β → Prop} {ρ' : List Addr → Hp → α' → β' → Prop} {Q : β → Hp → Prop} {Q' : β' → Hp → Prop}
theorem G.mono (e : Le K m H m1 H1) {r : R α} (h : G K mg ρ W σ m H Q r) : G K mg ρ W σ m1 H1 Q r := by
  cases r with
  | ok a s => exact fun m' H' b l r q => h m' H' b (e.trans l) r q
  | ex x s => exact fun m' H' c d l r q => h m' H' c d (e.trans l) r q
  | no => exact h
theorem G.bind {r : R α} {k : α → Store → R α'} (h : G K mg ρ' W σ m H Q' (r.bind k))
    (q : ∀ m1 H1 a b s1, Le K m H m1 H1 → Rel K m1 H1 s1 → ρ m1 H1 a b → G K mg ρ' W σ m1 H1 Q' (k a s1) → Q b H1) : G K mg ρ W σ m H Q r := by
  cases r with
  | ok a s => exact fun m' H' b l r p => q m' H' a b s l r p (G.mono l h)
  | ex x s => exact h
  | no => exact h
theorem G.imp {r : R α} (h : G K mg ρ W σ m H Q r) {Q1 : β → Hp → Prop} (q : ∀ m' H' a b s, r = .ok a s → Le K m H m' H' → Rel K m' H' s → ρ m' H' a b → Q b H' → Q1 b H') : G K mg ρ W σ m H Q1 r := by
  cases r with
  | ok a s => exact fun m' H' b l r p => q m' H' a b s rfl l r p (h m' H' b l r p)
  | ex x s => exact h
  | no => exact h
/-- run the first part -/
theorem Tm.bind {f : Sl → Store → R α} {k : Sl → α → Store → R α'} (h : Tm K mg ρ' W (fun env s => (f env s).bind (k env)) σ H Q')
    (q : ∀ m1 H1 env a b s1, Rel K m1 H1 s1 → RelE K m1 H1 env σ → ρ m1 H1 a b → G K mg ρ' W σ m1 H1 Q' (k env a s1) → Q b H1) : Tm K mg ρ W f σ H Q := by
  obtain ⟨m, env, s, r, e, g⟩ := h
  exact ⟨m, env, s, r, e, G.bind g fun m1 H1 a b s1 l r1 p g1 => q m1 H1 env a b s1 r1 (e.mono l) p g1⟩
/-- a further part runs -/
theorem Tm.of {f : Sl → Store → R α} {env : Sl} (r : Rel K m H s) (e : RelE K m H env σ) (g : G K mg ρ W σ m H Q (f env s)) : Tm K mg ρ W f σ H Q := ⟨m, env, s, r, e, g⟩
end
/-- the end: a value that is there -/
theorem G.now {d : D} {v : V} {Q : VK} (h : G K mg (Rep K) W σ m H Q (.ok d s)) (r : Rel K m H s) (p : Rep K m H d v) : Q v H := h m H v .refl r p
theorem G.nowB {d : Bool} {Q : Bool → Hp → Prop} (h : G K mg ρB W σ m H Q (.ok d s)) (r : Rel K m H s) : Q d H := h m H d .refl r rfl
end
theorem PE.imp {X : Cx} {e : Expr} {t t' : TE} (h : PE X e t) (i : ∀ σ H Q, t' σ H Q → t σ H Q) : PE X e t' := ⟨fun pins s σ H Q I q => h.run pins s σ H Q I (i σ H Q q)⟩
theorem PT.imp {X : Cx} {e : Expr} {t t' : TT} (h : PT X e t) (i : ∀ σ H Q, t' σ H Q → t σ H Q) : PT X e t' := ⟨fun pins s σ H Q I q => h.run pins s σ H Q I (i σ H Q q)⟩
theorem PW.imp {X : Cx} {e : Expr} {t t' : TT} (h : PW X e t) (i : ∀ σ H Q, t' σ H Q → t σ H Q) : PW X e t' := ⟨fun wh pins s σ H Q I q => h.run wh pins s σ H Q I (i σ H Q q)⟩
theorem PA.imp {X : Cx} {e : List Expr} {t t' : TA} (h : PA X e t) (i : ∀ σ H Q, t' σ H Q → t σ H Q) : PA X e t' := ⟨fun pos pins s σ H Q I q => h.run pos pins s σ H Q I (i σ H Q q)⟩
theorem PS.imp {X : Cx} {e : Stmt} {t t' : TS} (h : PS X e t) (i : ∀ D σ H, t' D σ H → t D σ H) : PS X e t' := ⟨fun pins s σ H D I q => h.run pins s σ H D I (i D σ H q)⟩
theorem PSs.imp {X : Cx} {e : List Stmt} {t t' : TS} (h : PSs X e t) (i : ∀ D σ H, t' D σ H → t D σ H) : PSs X e t' := ⟨fun pins s σ H D I q => h.run pins s σ H D I (i D σ H q)⟩
/-! ### combinators: expressions -/
def eC (d : D) : ME D := fun _ s => .ok d s
def eV (i : Nat) : ME D := fun env s => match env[i]? with
  | some (some d) => .ok d s
  | _ => .no
/-- two values -/
def e2 (g : D → D → Store → Option (D × Store)) (a b : ME D) : ME D := fun env s => (a env s).bind fun x s => (b env s).bind fun y s => R.of (g x y s)
def e1 (g : D → Store → Option (D × Store)) (a : ME D) : ME D := fun env s => (a env s).bind fun x s => R.of (g x s)
def aNil : ME (List D) := fun _ s => .ok [] s
def aCons (a : ME D) (r : ME (List D)) : ME (List D) := fun env s => (a env s).bind fun x s => (r env s).bind fun xs s => .ok (x :: xs) s
def eFn (g : List D → Store → Option (D × Store)) (a : ME (List D)) : ME D := fun env s => (a env s).bind fun xs s => R.of (g xs s)
def eTup (a : ME (List D)) : ME D := fun env s => (a env s).bind fun xs s => if xs.length ≤ sizeLine then .ok (.tup xs) s else .no
def eLst (a : ME (List D)) : ME D := fun env s => (a env s).bind fun xs s => if xs.length ≤ sizeLine then .ok (.loc s.length) (s ++ [.lst xs]) else .no
def eCall (g : List D → Store → R D) (a : ME (List D)) : ME D := fun env s => (a env s).bind g
/-- a value as a test: a bool -/
def tV (a : ME D) : ME Bool := fun env s => (a env s).bind fun x s => match x with
  | .bl b => .ok b s
  | _ => .no
def tAnd (a b : ME Bool) : ME Bool := fun env s => (a env s).bind fun x s => if x then b env s else .ok false s
def tOr (a b : ME Bool) : ME Bool := fun env s => (a env s).bind fun x s => if x then .ok true s else b env s
def tNot (a : ME Bool) : ME Bool := fun env s => (a env s).bind fun x s => .ok (!x) s
def eIf (c : ME Bool) (a b : ME D) : ME D := fun env s => (c env s).bind fun x s => if x then a env s else b env s
/-- and, or, not as values (bools) -/
def eAnd (a b : ME D) : ME D := fun env s => (a env s).bind fun x s => match x with
  | .bl true => b env s
  | .bl false => .ok (.bl false) s
  | _ => .no
def eOr (a b : ME D) : ME D := fun env s => (a env s).bind fun x s => match x with
  | .bl true => .ok (.bl true) s
  | .bl false => b env s
  | _ => .no
def eNot (a : ME D) : ME D := fun env s => (a env s).bind fun x s => match x with
  | .bl c => .ok (.bl !c) s
  | _ => .no
def eChain (g g' : D → D → Store → Option (D × Store)) (a b c : ME D) : ME D := fun env s => (a env s).bind fun x s => (b env s).bind fun y s => (R.of (g x y s)).bind fun z s => match z with
  | .bl true => (c env s).bind fun w s => R.of (g' y w s)
  | .bl false => .ok (.bl false) s
  | _ => .no
section
variable {X : Cx} {W : WX} {pos : Pos} {a b c e : Expr} {es : List Expr} {fa fb fc : ME D} {ga gb : ME Bool} {fs : ME (List D)}
theorem ce_v (i : Nat) {x : Str} (hN : X.N[i]? = some x := by rfl) (hv : Vis X.env.scope x := by first | exact Or.inl rfl | exact Or.inr (Or.inl rfl) | exact Or.inr (Or.inr rfl)) (hd : (x == ("__debug__" : Str)) = false := by decide)
    (hcd : (x == ("__classdict__" : Str)) = false := by decide) : PE X (.Name x pos) (Te X.K X.mg W (eV i)) := by
  refine PE.imp (pe_var (i := i) hN hv hd hcd) fun σ H Q h => ?_
  obtain ⟨m, env, s, r, E, g⟩ := h
  unfold eV at g
  cases q : env[i]? with
  | none => rw [q] at g; exact g.elim
  | some o =>
    cases o with
    | none => rw [q] at g; exact g.elim
    | some d =>
      rw [q] at g
      obtain ⟨v, h1, h2⟩ := E.2 i d q
      exact ⟨v, h1, g.now r h2⟩
theorem ce_c {d : D} {v : V} (h : PE X e (tC v)) (r : ∀ m H, Rep X.K m H d v) : PE X e (Te X.K X.mg W (eC d)) :=
  PE.imp h fun σ H Q ⟨m, env, s, rl, E, g⟩ => g.now rl (r m H)
theorem ce_int {i j} : PE X (.Constant (.int i) j pos) (Te X.K X.mg W (eC (.int i))) := ce_c pe_int fun _ _ => .int _
theorem ce_bl {i j} : PE X (.Constant (.bool i) j pos) (Te X.K X.mg W (eC (.bl i))) := ce_c pe_bl fun _ _ => .bl _
theorem ce_non {j} : PE X (.Constant .none j pos) (Te X.K X.mg W (eC .non)) := ce_c pe_non fun _ _ => .non
theorem ce_str {x j} : PE X (.Constant (.str x) j pos) (Te X.K X.mg W (eC (.str x))) := ce_c pe_str fun _ _ => .str _
theorem ce_glob {x : Str} {d : D} {v : V} {u : Value} (hg : Gl X x) (hm : X.mg x = some u) (r : RelV v u) (q : ∀ m H, Rep X.K m H d v) (hd : (x == ("__debug__" : Str)) = false := by decide) : PE X (.Name x pos) (Te X.K X.mg W (eC d)) := ce_c (pe_glob hg hm r hd) q
/-- an operation on values, with its mirror -/
def OpS (K : PySem.W.Frag) (r : R2) (g : D → D → Store → Option (D × Store)) : Prop :=
  ∀ {mg : Str → Option Value} {W : WX} {σ : L2.St} {m : List Addr} {H : Hp} {s : Store} {x y : V} {dx dy : D} {Q : VK}, Rel K m H s → Rep K m H dx x → Rep K m H dy y → G K mg (Rep K) W σ m H Q (R.of (g dx dy s)) → r x y H Q
theorem e2_run {r : R2} {g : D → D → Store → Option (D × Store)} (hs : OpS X.K r g) : ∀ σ H Q, Te X.K X.mg W (e2 g fa fb) σ H Q → tOp r (Te X.K X.mg W fa) (Te X.K X.mg W fb) σ H Q := fun σ H Q h =>
  Tm.bind (k := fun env x s => (fb env s).bind fun y s => R.of (g x y s)) h fun m1 H1 env x v s1 r1 E1 p1 g1 =>
    ⟨m1, env, s1, r1, E1, G.bind g1 fun m2 H2 y u s2 l2 r2 p2 g2 => hs r2 (p1.mono l2) p2 g2⟩
theorem ce_op {op : Operator} {r : R2} {g : D → D → Store → Option (D × Store)} (ho : OpR X (binaryOp op) r) (hs : OpS X.K r g) (ha : PE X a (Te X.K X.mg W fa)) (hb : PE X b (Te X.K X.mg W fb)) :
    PE X (.BinOp a op b pos) (Te X.K X.mg W (e2 g fa fb)) := PE.imp (pe_op ho ha hb) (e2_run hs)
theorem ce_cmp {op : CmpOp} {r : R2} {g : D → D → Store → Option (D × Store)} (ho : OpR X (compareOp op) r) (hs : OpS X.K r g) (ha : PE X a (Te X.K X.mg W fa)) (hb : PE X b (Te X.K X.mg W fb)) (hm : behindInMarks op b = false) :
    PE X (.Compare a [op] [b] pos) (Te X.K X.mg W (e2 g fa fb)) := PE.imp (pe_cmpR ho ha hb hm) (e2_run hs)
theorem ce_ix {r : R2} {g : D → D → Store → Option (D × Store)} (ho : IxR X r) (hs : OpS X.K r g) (ha : PE X a (Te X.K X.mg W fa)) (hb : PE X b (Te X.K X.mg W fb)) (hp : PlainIx b) :
    PE X (.Subscript a b pos) (Te X.K X.mg W (e2 g fa fb)) := PE.imp (pe_ix ho ha hb hp) (e2_run hs)
/-- a test of a value that is a bool -/
theorem tv_run {t : TE} (hp : ∀ σ H Q, Te X.K X.mg W fa σ H Q → t σ H Q) : ∀ σ H Q, Tt X.K X.mg W (tV fa) σ H Q → t σ H fun x H' => ∃ k, x = .bl k ∧ Q k H' := fun σ H Q h =>
  hp σ H _ (Tm.bind (k := fun _ x s => match x with | .bl b => R.ok b s | _ => R.no) h fun m1 H1 env x v s1 r1 E1 p1 g1 => by
    cases x with
    | bl k => cases p1; exact ⟨k, rfl, g1.nowB r1⟩
    | _ => exact g1.elim)
theorem ct_v (ha : PE X a (Te X.K X.mg W fa)) (he : ∀ whole, isTrue a X.env whole = (do let v ← whole; standAt a.pos; holding [v] (truthy v)) := by intro _; rfl) : PT X a (Tt X.K X.mg W (tV fa)) :=
  PT.imp (pt_val ha he) (tv_run fun _ _ _ h => h)
theorem ct_cmp {op : CmpOp} {r : R2} {g : D → D → Store → Option (D × Store)} (ho : OpR X (compareOp op) r) (hs : OpS X.K r g) (ha : PE X a (Te X.K X.mg W fa)) (hb : PE X b (Te X.K X.mg W fb)) (hm : behindInMarks op b = false) :
    PT X (.Compare a [op] [b] pos) (Tt X.K X.mg W (tV (e2 g fa fb))) := PT.imp (pt_cmpR ho ha hb hm) (tv_run (e2_run hs))
theorem chain_run {r r' : R2} {g g' : D → D → Store → Option (D × Store)} (hs : OpS X.K r g) (hs' : OpS X.K r' g') : ∀ σ H Q, Te X.K X.mg W (eChain g g' fa fb fc) σ H Q → tChain r r' (Te X.K X.mg W fa) (Te X.K X.mg W fb) (Te X.K X.mg W fc) σ H Q := fun σ H Q h =>
  Tm.bind (k := fun env x s => (fb env s).bind fun y s => (R.of (g x y s)).bind fun z s => match z with | .bl true => (fc env s).bind fun w s => R.of (g' y w s) | .bl false => R.ok (D.bl false) s | _ => R.no) h fun m1 H1 env x v s1 r1 E1 p1 g1 =>
    ⟨m1, env, s1, r1, E1, G.bind g1 fun m2 H2 y u s2 l2 r2 p2 g2 => hs r2 (p1.mono l2) p2 (G.bind g2 fun m3 H3 z w s3 l3 r3 p3 g3 => by
      cases z with
      | bl k =>
        cases p3
        refine ⟨k, rfl, ?_⟩
        cases k with
        | true => exact iteT ⟨m3, env, s3, r3, (E1.mono l2).mono l3, G.bind g3 fun m4 H4 z w s4 l4 r4 p4 g4 => hs' r4 ((p2.mono l3).mono l4) p4 g4⟩
        | false => exact iteF (g3.now r3 (.bl false))
      | _ => exact g3.elim)⟩
theorem ce_chain {op op' : CmpOp} {r r' : R2} {g g' : D → D → Store → Option (D × Store)} (ho : OpR X (compareOp op) r) (hs : OpS X.K r g) (ho' : OpR X (compareOp op') r') (hs' : OpS X.K r' g') (ha : PE X a (Te X.K X.mg W fa)) (hb : PE X b (Te X.K X.mg W fb)) (hc : PE X c (Te X.K X.mg W fc))
    (hm : lastMarks [op, op'] [b, c] = false := by with_unfolding_all rfl) : PE X (.Compare a [op, op'] [b, c] pos) (Te X.K X.mg W (eChain g g' fa fb fc)) := PE.imp (pe_chain ho ho' ha hb hc hm) (chain_run hs hs')
theorem ct_chain {op op' : CmpOp} {r r' : R2} {g g' : D → D → Store → Option (D × Store)} (ho : OpR X (compareOp op) r) (hs : OpS X.K r g) (ho' : OpR X (compareOp op') r') (hs' : OpS X.K r' g') (ha : PE X a (Te X.K X.mg W fa)) (hb : PE X b (Te X.K X.mg W fb)) (hc : PE X c (Te X.K X.mg W fc))
    (hm : lastMarks [op, op'] [b, c] = false := by with_unfolding_all rfl) : PT X (.Compare a [op, op'] [b, c] pos) (Tt X.K X.mg W (tV (eChain g g' fa fb fc))) := PT.imp (pt_chain ho ho' ha hb hc hm) (tv_run (chain_run hs hs'))
/-! #### tests -/
theorem cw_and1 (ha : PT X a (Tt X.K X.mg W ga)) : PW X (.BoolOp .And [a] pos) (Tt X.K X.mg W ga) := pw_and1 ha
theorem cw_or1 (ha : PT X a (Tt X.K X.mg W ga)) : PW X (.BoolOp .Or [a] pos) (Tt X.K X.mg W ga) := pw_or1 ha
theorem cw_and {rest : List Expr} (ha : PT X a (Tt X.K X.mg W ga)) (hb : PW X (.BoolOp .And (b :: rest) pos) (Tt X.K X.mg W gb)) : PW X (.BoolOp .And (a :: b :: rest) pos) (Tt X.K X.mg W (tAnd ga gb)) :=
  PW.imp (pw_and ha hb) fun σ H Q h => Tm.bind (k := fun env x s => if x then gb env s else R.ok false s) h fun m1 H1 env x v s1 r1 E1 p1 g1 => by
    cases (show x = v from p1)
    cases x with
    | true => exact iteT ⟨m1, env, s1, r1, E1, g1⟩
    | false => exact iteF (G.nowB g1 r1)
theorem cw_or {rest : List Expr} (ha : PT X a (Tt X.K X.mg W ga)) (hb : PW X (.BoolOp .Or (b :: rest) pos) (Tt X.K X.mg W gb)) : PW X (.BoolOp .Or (a :: b :: rest) pos) (Tt X.K X.mg W (tOr ga gb)) :=
  PW.imp (pw_or ha hb) fun σ H Q h => Tm.bind (k := fun env x s => if x then R.ok true s else gb env s) h fun m1 H1 env x v s1 r1 E1 p1 g1 => by
    cases (show x = v from p1)
    cases x with
    | true => exact iteT (G.nowB g1 r1)
    | false => exact iteF ⟨m1, env, s1, r1, E1, g1⟩
theorem ct_not (ha : PT X a (Tt X.K X.mg W ga)) : PT X (.UnaryOp .Not a pos) (Tt X.K X.mg W (tNot ga)) :=
  PT.imp (pt_not ha) fun σ H Q h => Tm.bind (k := fun env x s => R.ok (!x) s) h fun m1 H1 env x v s1 r1 E1 p1 g1 => by
    cases (show x = v from p1)
    exact G.nowB g1 r1
theorem ce_ifExp (hc : PT X c (Tt X.K X.mg W ga)) (ha : PE X a (Te X.K X.mg W fa)) (hb : PE X b (Te X.K X.mg W fb)) : PE X (.IfExp c a b pos) (Te X.K X.mg W (eIf ga fa fb)) :=
  PE.imp (pe_ifExp hc ha hb) fun σ H Q h => Tm.bind (k := fun env x s => if x then fa env s else fb env s) h fun m1 H1 env x v s1 r1 E1 p1 g1 => by
    cases (show x = v from p1)
    cases x with
    | true => exact iteT ⟨m1, env, s1, r1, E1, g1⟩
    | false => exact iteF ⟨m1, env, s1, r1, E1, g1⟩
theorem ce_one {op} {t : TE} (h : PE X a t) : PE X (.BoolOp op [a] pos) t := pe_one h
theorem ce_and {rest : List Expr} (ha : PE X a (Te X.K X.mg W fa)) (hb : PE X (.BoolOp .And (b :: rest) pos) (Te X.K X.mg W fb)) : PE X (.BoolOp .And (a :: b :: rest) pos) (Te X.K X.mg W (eAnd fa fb)) :=
  PE.imp (pe_and ha hb) fun σ H Q h => Tm.bind (k := fun env x s => match x with | .bl true => fb env s | .bl false => R.ok (D.bl false) s | _ => R.no) h fun m1 H1 env x v s1 r1 E1 p1 g1 => by
    cases x with
    | bl k =>
      cases p1
      refine ⟨k, rfl, ?_⟩
      cases k with
      | true => exact iteT ⟨m1, env, s1, r1, E1, g1⟩
      | false => exact iteF (g1.now r1 (.bl false))
    | _ => exact g1.elim
theorem ce_or {rest : List Expr} (ha : PE X a (Te X.K X.mg W fa)) (hb : PE X (.BoolOp .Or (b :: rest) pos) (Te X.K X.mg W fb)) : PE X (.BoolOp .Or (a :: b :: rest) pos) (Te X.K X.mg W (eOr fa fb)) :=
  PE.imp (pe_or ha hb) fun σ H Q h => Tm.bind (k := fun env x s => match x with | .bl true => R.ok (D.bl true) s | .bl false => fb env s | _ => R.no) h fun m1 H1 env x v s1 r1 E1 p1 g1 => by
    cases x with
    | bl k =>
      cases p1
      refine ⟨k, rfl, ?_⟩
      cases k with
      | true => exact iteT (g1.now r1 (.bl true))
      | false => exact iteF ⟨m1, env, s1, r1, E1, g1⟩
    | _ => exact g1.elim
theorem ce_not (ha : PE X a (Te X.K X.mg W fa)) : PE X (.UnaryOp .Not a pos) (Te X.K X.mg W (eNot fa)) :=
  PE.imp (pe_not ha) fun σ H Q h => Tm.bind (k := fun env x s => match x with | .bl c => R.ok (D.bl !c) s | _ => R.no) h fun m1 H1 env x v s1 r1 E1 p1 g1 => by
    cases x with
    | bl k => cases p1; exact ⟨k, rfl, g1.now r1 (.bl _)⟩
    | _ => exact g1.elim
/-! #### argument lists, displays -/
theorem ca_nil : PA X [] (Ta X.K X.mg W aNil) := PA.imp pa_nil fun σ H Q ⟨m, env, s, r, E, g⟩ => g m H [] .refl r .nil
theorem ca_cons (ha : PE X e (Te X.K X.mg W fa)) (hr : PA X es (Ta X.K X.mg W fs)) (hs : starEach (e :: es) X.env = (false, eval e X.env) :: starEach es X.env := by rfl) : PA X (e :: es) (Ta X.K X.mg W (aCons fa fs)) :=
  PA.imp (pa_cons ha hr hs) fun σ H Q h => Tm.bind (k := fun env x s => (fs env s).bind fun xs s => R.ok (x :: xs) s) h fun m1 H1 env x v s1 r1 E1 p1 g1 =>
    ⟨m1, env, s1, r1, E1, G.bind g1 fun m2 H2 xs vs s2 l2 r2 p2 g2 => g2 m2 H2 _ .refl r2 (.cons (p1.mono l2) p2)⟩
theorem ce_tup {k : Nat} (h : PA X es (Ta X.K X.mg W fs)) : PE X (.Tuple es k pos) (Te X.K X.mg W (eTup fs)) :=
  PE.imp (pe_tup h) fun σ H Q h => Tm.bind (k := fun env xs s => if xs.length ≤ sizeLine then R.ok (D.tup xs) s else R.no) h fun m1 H1 env xs vs s1 r1 E1 p1 g1 => by
    by_cases hz : xs.length ≤ sizeLine
    · simp only [hz, if_true] at g1
      exact ⟨by rw [← p1.length]; exact hz, fun p hp => g1 m1 _ _ (le_new hp) (r1.tmp hp) (rep_newtup hp p1)⟩
    · simp only [hz, if_false] at g1
      exact g1.elim
theorem newlist {xs : List D} {vs : List V} {m : List Addr} {H : Hp} {s : Store} {σ : L2.St} {Q : VK} {mg : Str → Option Value} (r : Rel X.K m H s) (p : Reps X.K m H xs vs) (g : G X.K mg (Rep X.K) W σ m H Q (.ok (.loc s.length) (s ++ [.lst xs]))) :
    ∀ q, H q = none → Q (.ref q) (upd H q (.lst vs)) := fun q hq => g (m ++ [q]) _ _ (le_more r hq) (rel_newlist r hq p) (.loc (len_get r))
theorem ce_lst (h : PA X es (Ta X.K X.mg W fs)) : PE X (.List es pos) (Te X.K X.mg W (eLst fs)) :=
  PE.imp (pe_lst h) fun σ H Q h => Tm.bind (k := fun env xs s => if xs.length ≤ sizeLine then R.ok (D.loc s.length) (s ++ [.lst xs]) else R.no) h fun m1 H1 env xs vs s1 r1 E1 p1 g1 => by
    by_cases hz : xs.length ≤ sizeLine
    · simp only [hz, if_true] at g1
      exact ⟨by rw [← p1.length]; exact hz, newlist r1 p1 g1⟩
    · simp only [hz, if_false] at g1
      exact g1.elim
/-! #### calls of builtins, by values -/
def FnS (K : PySem.W.Frag) (r : List V → Hp → VK → Prop) (g : List D → Store → Option (D × Store)) : Prop :=
  ∀ {mg : Str → Option Value} {W : WX} {σ : L2.St} {m : List Addr} {H : Hp} {s : Store} {xs : List V} {ds : List D} {Q : VK}, Rel K m H s → Reps K m H ds xs → G K mg (Rep K) W σ m H Q (R.of (g ds s)) → r xs H Q
theorem eFn_run {r : List V → Hp → VK → Prop} {g : List D → Store → Option (D × Store)} (hs : FnS X.K r g) : ∀ σ H Q, Te X.K X.mg W (eFn g fs) σ H Q → tCB r (Ta X.K X.mg W fs) σ H Q := fun σ H Q h =>
  Tm.bind (k := fun env xs s => R.of (g xs s)) h fun m1 H1 env x v s1 r1 E1 p1 g1 => hs r1 p1 g1
theorem ce_callB {x id : String} {p : Pos} {r : List V → Hp → VK → Prop} {g : List D → Store → Option (D × Store)} (hc : CallR X (.builtin id) r) (hs : FnS X.K r g) (hg : Gl X x) (hm : X.mg x = none) (hv : bootBuiltins x = some (.builtin id)) (ha : PA X (e :: es) (Ta X.K X.mg W fs))
    (hn : (x : Str) ≠ "__name__" := by decide) (hdb : ((x : Str) == ("__debug__" : Str)) = false := by decide)
    (he : starEach (e :: es) X.env = (false, eval e X.env) :: starEach es X.env := by rfl) (hpl : (backTo pos (starEach es X.env)).any (·.1) = false := by rfl) : PE X (.Call (.Name x p) (e :: es) [] pos) (Te X.K X.mg W (eFn g fs)) :=
  PE.imp (pe_callB hc hg hm hv ha hn hdb he hpl) (eFn_run hs)
theorem ce_callTy {x id : String} {p : Pos} {r : List V → Hp → VK → Prop} {g : List D → Store → Option (D × Store)} (hc : CallR X (.type id) r) (hs : FnS X.K r g) (hg : Gl X x) (hm : X.mg x = none) (hv : bootBuiltins x = some (.type id)) (ha : PA X (e :: es) (Ta X.K X.mg W fs))
    (hn : (x : Str) ≠ "__name__" := by decide) (hdb : ((x : Str) == ("__debug__" : Str)) = false := by decide)
    (he : starEach (e :: es) X.env = (false, eval e X.env) :: starEach es X.env := by rfl) (hpl : (backTo pos (starEach es X.env)).any (·.1) = false := by rfl) : PE X (.Call (.Name x p) (e :: es) [] pos) (Te X.K X.mg W (eFn g fs)) :=
  PE.imp (pe_callTy hc hg hm hv ha hn hdb he hpl) (eFn_run hs)
/-! #### one-place -/
def UnS (K : PySem.W.Frag) (r : V → Hp → VK → Prop) (g : D → Store → Option (D × Store)) : Prop :=
  ∀ {mg : Str → Option Value} {W : WX} {σ : L2.St} {m : List Addr} {H : Hp} {s : Store} {x : V} {d : D} {Q : VK}, Rel K m H s → Rep K m H d x → G K mg (Rep K) W σ m H Q (R.of (g d s)) → r x H Q
theorem ce_un {op : UnaryOp} {r : V → Hp → VK → Prop} {g : D → Store → Option (D × Store)} (ho : UnR X (unaryOp op) r) (hs : UnS X.K r g) (ha : PE X a (Te X.K X.mg W fa)) : PE X (.UnaryOp op a pos) (Te X.K X.mg W (e1 g fa)) :=
  PE.imp (pe_un ho ha) fun σ H Q h => Tm.bind (k := fun env x s => R.of (g x s)) h fun m1 H1 env x v s1 r1 E1 p1 g1 => hs r1 p1 g1
/-! #### a def's promise: its mirror's value -/
def spM (K : PySem.W.Frag) (mg : Str → Option Value) (n : Nat) (g : List D → Store → R D) : Sp := fun vs H Q E => vs.length = n ∧
  ∃ m s ds, Rel K m H s ∧ Reps K m H ds vs ∧ G K mg (Rep K) (fun c d _ H => E c d H) [] m H Q (g ds s)
theorem ce_call {k n : Nat} {f : Addr} {fd : FuncData} {ps : List Str} {x : Str} {p : Pos} {g : List D → Store → R D} (F : FnOk X.prog X.w X.K X.mg X.base (L2.CX X.prog X.w) k f fd ps (spM X.K X.mg n g)) (hr : Room k X.A) (tk : Takes X W) (hg : Gl X x) (hm : X.mg x = some (.ref f)) (hk : PySem.W.keepIn X.K (.ref f) = true) (hb : Binds X.K fd ps [])
    (hn : ∀ xs s env, ∀ s', fs env s = .ok xs s' → xs.length = n) (ha : PA X (e :: es) (Ta X.K X.mg W fs)) (hdb : (x == ("__debug__" : Str)) = false := by decide) (he : starEach (e :: es) X.env = (false, eval e X.env) :: starEach es X.env := by rfl) (hpl : (backTo pos (starEach es X.env)).any (·.1) = false := by rfl) :
    PE X (.Call (.Name x p) (e :: es) [] pos) (Te X.K X.mg W (eCall g fs)) :=
  PE.imp (pe_callS (E := WE W) F hr hg hm hk hb (fun σ => passAt tk σ) ha hdb he hpl) fun σ H Q h => by
    obtain ⟨m, env, s, r, E, g0⟩ := h
    refine ⟨m, env, s, r, E, ?_⟩
    unfold eCall at g0
    cases hf : fs env s with
    | ok xs s1 =>
      rw [hf] at g0
      intro m1 H1 vs l1 r1 p1
      refine ⟨by rw [← p1.length]; exact hn xs s env s1 hf, m1, s1, xs, r1, p1, ?_⟩
      have g1 : G X.K X.mg (Rep X.K) W σ m H Q (g xs s1) := g0
      have g2 := g1.mono l1
      cases hgx : g xs s1 with
      | ok a s2 => rw [hgx] at g2; exact g2
      | ex x2 s2 => rw [hgx] at g2; exact g2
      | no => rw [hgx] at g2; exact g2
    | ex x s1 => rw [hf] at g0; exact g0
    | no => rw [hf] at g0; exact g0.elim
end
end Mi
namespace Mi
open PySem PySem.Spec PyProof.Rows L2
/-! ### operations on values: mirrors and their rules -/
section
variable {K : PySem.W.Frag}
theorem OpS.or {r r' : R2} {g : D → D → Store → Option (D × Store)} (h : ∀ {mg : Str → Option Value} {W : WX} {σ : L2.St} {m : List Addr} {H : Hp} {s : Store} {x y : V} {dx dy : D} {Q : VK}, Rel K m H s → Rep K m H dx x → Rep K m H dy y → G K mg (Rep K) W σ m H Q (R.of (g dx dy s)) → r x y H Q ∨ r' x y H Q) : OpS K (fun x y H Q => r x y H Q ∨ r' x y H Q) g := h
/-- two ints -/
def dI (f : Int → Int → Option D) : D → D → Store → Option (D × Store)
  | .int i, .int j, s => (f i j).map fun d => (d, s)
  | _, _, _ => none
theorem ops_dI {C : Int → Int → Prop} {gv : Int → Int → V} {f : Int → Int → Option D} (h : ∀ i j d, f i j = some d → C i j ∧ ∀ m H, Rep K m H d (gv i j)) : OpS K (rI C gv) (dI f) := by
  intro mg W σ m H s x y dx dy Q r px py g
  cases dx with
  | int i =>
    cases dy with
    | int j =>
      cases px; cases py
      cases e : f i j with
      | none => rw [show R.of (dI f (.int i) (.int j) s) = R.no by simp [dI, e]] at g; exact g.elim
      | some d =>
        rw [show R.of (dI f (.int i) (.int j) s) = .ok d s by simp [dI, e]] at g
        obtain ⟨h1, h2⟩ := h i j d e
        exact ⟨i, j, rfl, rfl, h1, g.now r (h2 m H)⟩
    | _ => exact g.elim
  | _ => exact g.elim
theorem ops_dI0 {gv : Int → Int → V} {f : Int → Int → D} (h : ∀ i j m H, Rep K m H (f i j) (gv i j)) : OpS K (rI0 gv) (dI fun i j => some (f i j)) := by
  intro mg W σ m H s x y dx dy Q r px py g
  obtain ⟨i, j, e1, e2, _, q⟩ := ops_dI (K := K) (C := fun _ _ => True) (gv := gv) (fun i j d e => ⟨trivial, by cases e; exact h i j⟩) r px py g
  exact ⟨i, j, e1, e2, q⟩
def dAdd : D → D → Store → Option (D × Store)
  | .int i, .int j, s => some (.int (i + j), s)
  | .str x, .str y, s => if x.length + y.length ≤ sizeLine then some (.str (x ++ y), s) else none
  | .tup xs, .tup ys, s => if xs.length + ys.length ≤ sizeLine then some (.tup (xs ++ ys), s) else none
  | .loc l, .loc k, s => match s[l]?, s[k]? with
    | some (.lst xs), some (.lst ys) => if xs.length + ys.length ≤ sizeLine then some (.loc s.length, s ++ [.lst (xs ++ ys)]) else none
    | _, _ => none
  | _, _, _ => none
def rAddA (K : PySem.W.Frag) : R2 := fun x y H Q => rI0 (fun i j => .int (i + j)) x y H Q ∨ (∃ i j, x = .str i ∧ y = .str j ∧ i.length + j.length ≤ sizeLine ∧ Q (.str (i ++ j)) H) ∨ rCatA K x y H Q ∨ rCat x y H Q
theorem op_addA {X : Cx} : OpR X (binaryOp .Add) (rAddA X.K) := op_add.or (op_add_str.or (op_catA.or op_cat))
theorem ops_add : OpS K (rAddA K) dAdd := by
  intro mg W σ m H s x y dx dy Q r px py g
  cases dx with
  | int i =>
    cases dy with
    | int j => cases px; cases py; exact .inl ⟨i, j, rfl, rfl, g.now r (.int _)⟩
    | _ => exact g.elim
  | str i =>
    cases dy with
    | str j =>
      cases px; cases py
      by_cases hz : i.length + j.length ≤ sizeLine
      · rw [show dAdd (.str i) (.str j) s = some (.str (i ++ j), s) by simp [dAdd, hz]] at g
        exact .inr (.inl ⟨i, j, rfl, rfl, hz, g.now r (.str _)⟩)
      · rw [show dAdd (.str i) (.str j) s = none by simp [dAdd, hz]] at g; exact g.elim
    | _ => exact g.elim
  | tup xs =>
    cases dy with
    | tup ys =>
      cases px with
      | tup h1 r1 =>
        cases py with
        | tup h2 r2 =>
          by_cases hz : xs.length + ys.length ≤ sizeLine
          · rw [show dAdd (.tup xs) (.tup ys) s = some (.tup (xs ++ ys), s) by simp [dAdd, hz]] at g
            refine .inr (.inr (.inl ⟨_, _, _, _, rfl, rfl, h1, h2, by rw [← r1.length, ← r2.length]; exact hz, fun e => ?_, fun _ e => ?_, fun _ _ p hp => ?_⟩))
            · subst e; cases r1; exact g.now r (.tup h2 r2)
            · subst e; cases r2; rw [List.append_nil] at g; exact g.now r (.tup h1 r1)
            · exact g m _ _ (le_new hp) (r.tmp hp) (rep_newtup hp (r1.append r2))
          · rw [show dAdd (.tup xs) (.tup ys) s = none by simp [dAdd, hz]] at g; exact g.elim
    | _ => exact g.elim
  | loc l =>
    cases dy with
    | loc k =>
      cases px with
      | loc h1 =>
        cases py with
        | loc h2 =>
          cases e1 : s[l]? with
          | none => rw [show dAdd (.loc l) (.loc k) s = none by simp [dAdd, e1]] at g; exact g.elim
          | some c1 =>
            cases c1 with
            | dic _ => rw [show dAdd (.loc l) (.loc k) s = none by simp [dAdd, e1]] at g; exact g.elim
            | lst xs =>
              cases e2 : s[k]? with
              | none => rw [show dAdd (.loc l) (.loc k) s = none by simp [dAdd, e1, e2]] at g; exact g.elim
              | some c2 =>
                cases c2 with
                | dic _ => rw [show dAdd (.loc l) (.loc k) s = none by simp [dAdd, e1, e2]] at g; exact g.elim
                | lst ys =>
                  by_cases hz : xs.length + ys.length ≤ sizeLine
                  · rw [show dAdd (.loc l) (.loc k) s = some (.loc s.length, s ++ [.lst (xs ++ ys)]) by simp [dAdd, e1, e2, hz]] at g
                    obtain ⟨vs, q1, p1⟩ := r.list h1 e1
                    obtain ⟨ws, q2, p2⟩ := r.list h2 e2
                    refine .inr (.inr (.inr ⟨_, _, vs, ws, rfl, rfl, q1, q2, by rw [← p1.length, ← p2.length]; exact hz, fun p hp => ?_⟩))
                    exact g (m ++ [p]) _ _ (le_more r hp) (rel_newlist r hp (p1.append p2)) (.loc (len_get r))
                  · rw [show dAdd (.loc l) (.loc k) s = none by simp [dAdd, e1, e2, hz]] at g; exact g.elim
    | _ => exact g.elim
  | _ => exact g.elim
def dSub := dI fun i j => some (.int (i - j))
theorem ops_sub : OpS K (rI0 fun i j => .int (i - j)) dSub := ops_dI0 fun _ _ _ _ => .int _
noncomputable instance (i j : Int) : Decidable (CMul i j) := Classical.propDecidable _
noncomputable instance (i j : Int) : Decidable (CDiv i j) := Classical.propDecidable _
noncomputable instance (i j : Int) : Decidable (CDivN i j) := Classical.propDecidable _
noncomputable instance (i j : Int) : Decidable (CPow i j) := Classical.propDecidable _
noncomputable def dMul := dI fun i j => if CMul i j then some (.int (i * j)) else none
theorem ops_mul : OpS K (rI CMul fun i j => .int (i * j)) dMul := ops_dI fun i j d h => by
  split at h
  · cases h; exact ⟨by assumption, fun _ _ => .int _⟩
  · cases h
noncomputable def dDiv := dI fun i j => if CDiv i j then some (.int (i / j)) else none
theorem ops_div : OpS K (rI CDiv fun i j => .int (i / j)) dDiv := ops_dI fun i j d h => by
  split at h
  · cases h; exact ⟨by assumption, fun _ _ => .int _⟩
  · cases h
noncomputable def dMod := dI fun i j => if 0 < j then some (.int (i % j)) else none
theorem ops_mod : OpS K (rI (fun _ j => 0 < j) fun i j => .int (i % j)) dMod := ops_dI fun i j d h => by
  split at h
  · cases h; exact ⟨by assumption, fun _ _ => .int _⟩
  · cases h
noncomputable def dPow := dI fun i j => if CPow i j then some (.int (i ^ j.toNat)) else none
theorem ops_pow : OpS K (rI CPow fun i j => .int (i ^ j.toNat)) dPow := ops_dI fun i j d h => by
  split at h
  · cases h; exact ⟨by assumption, fun _ _ => .int _⟩
  · cases h
def dNeg : D → Store → Option (D × Store)
  | .int i, s => some (.int (-i), s)
  | _, _ => none
theorem uns_neg : UnS K (rU fun i => .int (-i)) dNeg := by
  intro mg W σ m H s x d Q r p g
  cases d with
  | int i => cases p; exact ⟨i, rfl, g.now r (.int _)⟩
  | _ => exact g.elim
/-! #### comparisons -/
def dLt : D → D → Store → Option (D × Store)
  | .int i, .int j, s => some (.bl (decide (i < j)), s)
  | .str x, .str y, s => some (.bl (decide (x.cps.toList < y.cps.toList)), s)
  | _, _, _ => none
def dLe : D → D → Store → Option (D × Store)
  | .int i, .int j, s => some (.bl (decide (i ≤ j)), s)
  | .str x, .str y, s => some (.bl (!decide (y.cps.toList < x.cps.toList)), s)
  | _, _, _ => none
def dGt : D → D → Store → Option (D × Store)
  | .int i, .int j, s => some (.bl (decide (j < i)), s)
  | .str x, .str y, s => some (.bl (decide (y.cps.toList < x.cps.toList)), s)
  | _, _, _ => none
def dGe : D → D → Store → Option (D × Store)
  | .int i, .int j, s => some (.bl (decide (j ≤ i)), s)
  | .str x, .str y, s => some (.bl (!decide (x.cps.toList < y.cps.toList)), s)
  | _, _, _ => none
def rCmpA (f : Int → Int → Bool) (k : Str → Str → Bool) : R2 := fun x y H Q => rI0 (fun i j => .bl (f i j)) x y H Q ∨ ∃ i j, x = .str i ∧ y = .str j ∧ Q (.bl (k i j)) H
theorem ops_cmp {f : Int → Int → Bool} {k : Str → Str → Bool} {g : D → D → Store → Option (D × Store)} (h1 : ∀ i j s, g (.int i) (.int j) s = some (.bl (f i j), s)) (h2 : ∀ i j s, g (.str i) (.str j) s = some (.bl (k i j), s))
    (h3 : ∀ x y s, (∀ i j, x = .int i → y = .int j → False) → (∀ i j, x = .str i → y = .str j → False) → g x y s = none) : OpS K (rCmpA f k) g := by
  intro mg W σ m H s x y dx dy Q r px py q
  by_cases ha : ∃ i j, dx = .int i ∧ dy = .int j
  · obtain ⟨i, j, rfl, rfl⟩ := ha
    cases px; cases py
    rw [h1] at q
    exact .inl ⟨i, j, rfl, rfl, q.now r (.bl _)⟩
  · by_cases hb : ∃ i j, dx = .str i ∧ dy = .str j
    · obtain ⟨i, j, rfl, rfl⟩ := hb
      cases px; cases py
      rw [h2] at q
      exact .inr ⟨i, j, rfl, rfl, q.now r (.bl _)⟩
    · rw [h3 dx dy s (fun i j e1 e2 => ha ⟨i, j, e1, e2⟩) (fun i j e1 e2 => hb ⟨i, j, e1, e2⟩)] at q
      exact q.elim
theorem ops_lt : OpS K (rCmpA (fun i j => decide (i < j)) fun x y => decide (x.cps.toList < y.cps.toList)) dLt :=
  ops_cmp (fun _ _ _ => rfl) (fun _ _ _ => rfl) fun x y s h1 h2 => by cases x <;> cases y <;> first | rfl | exact (h1 _ _ rfl rfl).elim | exact (h2 _ _ rfl rfl).elim
theorem ops_le : OpS K (rCmpA (fun i j => decide (i ≤ j)) fun x y => !decide (y.cps.toList < x.cps.toList)) dLe :=
  ops_cmp (fun _ _ _ => rfl) (fun _ _ _ => rfl) fun x y s h1 h2 => by cases x <;> cases y <;> first | rfl | exact (h1 _ _ rfl rfl).elim | exact (h2 _ _ rfl rfl).elim
theorem ops_gt : OpS K (rCmpA (fun i j => decide (j < i)) fun x y => decide (y.cps.toList < x.cps.toList)) dGt :=
  ops_cmp (fun _ _ _ => rfl) (fun _ _ _ => rfl) fun x y s h1 h2 => by cases x <;> cases y <;> first | rfl | exact (h1 _ _ rfl rfl).elim | exact (h2 _ _ rfl rfl).elim
theorem ops_ge : OpS K (rCmpA (fun i j => decide (j ≤ i)) fun x y => !decide (x.cps.toList < y.cps.toList)) dGe :=
  ops_cmp (fun _ _ _ => rfl) (fun _ _ _ => rfl) fun x y s h1 h2 => by cases x <;> cases y <;> first | rfl | exact (h1 _ _ rfl rfl).elim | exact (h2 _ _ rfl rfl).elim
theorem opA_lt {X : Cx} : OpR X (compareOp .Lt) (rCmpA (fun i j => decide (i < j)) fun x y => decide (x.cps.toList < y.cps.toList)) := op_lt.or op_lt_str
theorem opA_le {X : Cx} : OpR X (compareOp .LtE) (rCmpA (fun i j => decide (i ≤ j)) fun x y => !decide (y.cps.toList < x.cps.toList)) := op_le.or op_le_str
theorem opA_gt {X : Cx} : OpR X (compareOp .Gt) (rCmpA (fun i j => decide (j < i)) fun x y => decide (y.cps.toList < x.cps.toList)) := op_gt.or op_gt_str
theorem opA_ge {X : Cx} : OpR X (compareOp .GtE) (rCmpA (fun i j => decide (j ≤ i)) fun x y => !decide (x.cps.toList < y.cps.toList)) := op_ge.or op_ge_str
/-! #### == and != -/
mutual
/-- data without places -/
def py0 : D → Option PyData
  | .non => some .none
  | .bl b => some (.bool b)
  | .int i => some (.int i)
  | .str x => some (.str x)
  | .tup xs => (pys0 xs).map .tuple
  | .fl xs => (pys0 xs).map .list
  | .loc _ => none
  | .exv _ _ => none
def pys0 : List D → Option (List PyData)
  | [] => some []
  | x :: xs => (py0 x).bind fun a => (pys0 xs).map fun r => a :: r
end
/-- data, a list of the store at its head -/
def py1 (s : Store) : D → Option PyData
  | .loc l => match s[l]? with
    | some (.lst xs) => (pys0 xs).map .list
    | _ => none
  | d => py0 d
mutual
theorem py0_dp {m : List Addr} {H : Hp} : ∀ {d : D} {v : V} {p : PyData}, Rep K m H d v → py0 d = some p → Dp K H v p
  | .non, _, _, .non, e => by cases e; exact .non
  | .bl b, _, _, .bl _, e => by cases e; exact .bl b
  | .int b, _, _, .int _, e => by cases e; exact .int b
  | .str b, _, _, .str _, e => by cases e; exact .str b
  | .tup xs, _, _, .tup h r, e => by
    unfold py0 at e
    cases q : pys0 xs with
    | none => rw [q] at e; cases e
    | some ps => rw [q] at e; cases e; exact .tup h (pys0_dp r q)
  | .fl xs, _, _, .fl h r, e => by
    unfold py0 at e
    cases q : pys0 xs with
    | none => rw [q] at e; cases e
    | some ps => rw [q] at e; cases e; exact .lst h.sq (pys0_dp r q)
  | .loc _, _, _, _, e => by cases e
  | .exv _ _, _, _, _, e => by cases e
theorem pys0_dp {m : List Addr} {H : Hp} : ∀ {ds : List D} {vs : List V} {ps : List PyData}, Reps K m H ds vs → pys0 ds = some ps → DpAll K H vs ps
  | [], _, _, .nil, e => by cases e; exact .nil
  | x :: xs, _, _, .cons h r, e => by
    unfold pys0 at e
    cases q : py0 x with
    | none => rw [q] at e; cases e
    | some a =>
      cases q2 : pys0 xs with
      | none => rw [q, q2] at e; cases e
      | some b => rw [q, q2] at e; cases e; exact .cons (py0_dp h q) (pys0_dp r q2)
end
theorem py1_dp {m : List Addr} {H : Hp} {s : Store} (r : Rel K m H s) {d : D} {v : V} {p : PyData} (h : Rep K m H d v) (e : py1 s d = some p) : Dp K H v p := by
  cases d with
  | loc l =>
    cases h with
    | loc h =>
      unfold py1 at e
      cases q : s[l]? with
      | none => simp [q] at e
      | some c =>
        cases c with
        | dic _ => simp [q] at e
        | lst xs =>
          simp only [q] at e
          obtain ⟨vs, q1, p1⟩ := r.list h q
          cases q2 : pys0 xs with
          | none => rw [q2] at e; cases e
          | some ps => rw [q2] at e; cases e; exact .lst (.inl (.inl q1)) (pys0_dp p1 q2)
  | _ => exact py0_dp h e
/-- scalars that == tells apart without more -/
def dScal : D → D → Option Bool
  | .non, .non => some true
  | .non, .int _ => some false | .int _, .non => some false | .non, .bl _ => some false | .bl _, .non => some false | .non, .str _ => some false | .str _, .non => some false
  | .int i, .int j => some (decide (i = j)) | .bl i, .bl j => some (decide (i = j)) | .str i, .str j => some (decide (i = j))
  | .int _, .str _ => some false | .str _, .int _ => some false | .bl _, .str _ => some false | .str _, .bl _ => some false
  | _, _ => none
def dEqB (x y : D) (s : Store) : Option Bool := match dScal x y with
  | some b => some b
  | none => (py1 s x).bind fun a => (py1 s y).bind fun b => if SeqAt.shaped a && SeqAt.shaped b then some (PyData.eqv a b) else none
def dEq (x y : D) (s : Store) : Option (D × Store) := (dEqB x y s).map fun b => (.bl b, s)
def dNe (x y : D) (s : Store) : Option (D × Store) := (dEqB x y s).map fun b => (.bl !b, s)
def rEqA (K : PySem.W.Frag) : R2 := fun x y H Q => rEq x y H Q ∨ rEqD K x y H Q
def rNeA (K : PySem.W.Frag) : R2 := fun x y H Q => rNe x y H Q ∨ rNeD K x y H Q
theorem opA_eq {X : Cx} (hu : X.A.units + 64 < cLine) : OpR X (compareOp .Eq) (rEqA X.K) := op_eq.or (op_eqD hu)
theorem opA_ne {X : Cx} (hu : X.A.units + 64 < cLine) : OpR X (compareOp .NotEq) (rNeA X.K) := op_ne.or (op_neD hu)
theorem scal_of {m : List Addr} {H : Hp} {dx dy : D} {x y : V} {b : Bool} (px : Rep K m H dx x) (py : Rep K m H dy y) (e : dScal dx dy = some b) : scal x y = true ∧ decide (x = y) = b := by
  cases px <;> cases py <;> first | (cases e; done) | (cases e; exact ⟨rfl, by simp⟩)
theorem eqB_cases {m : List Addr} {H : Hp} {s : Store} (r : Rel K m H s) {dx dy : D} {x y : V} {b : Bool} (px : Rep K m H dx x) (py : Rep K m H dy y) (e : dEqB dx dy s = some b) :
    (scal x y = true ∧ decide (x = y) = b) ∨ ∃ d e', Dp K H x d ∧ Dp K H y e' ∧ SeqAt.shaped d = true ∧ SeqAt.shaped e' = true ∧ PyData.eqv d e' = b := by
  unfold dEqB at e
  cases q : dScal dx dy with
  | some c => rw [q] at e; cases e; exact .inl (scal_of px py q)
  | none =>
    rw [q] at e
    cases q1 : py1 s dx with
    | none => rw [q1] at e; cases e
    | some a =>
      cases q2 : py1 s dy with
      | none => rw [q1, q2] at e; cases e
      | some c =>
        rw [q1, q2] at e
        simp only [Option.bind_some] at e
        split at e
        · rename_i hs
          rw [Bool.and_eq_true] at hs
          cases e
          exact .inr ⟨a, c, py1_dp r px q1, py1_dp r py q2, hs.1, hs.2, rfl⟩
        · cases e
theorem ops_eq : OpS K (rEqA K) dEq := by
  intro mg W σ m H s x y dx dy Q r px py g
  unfold dEq at g
  cases e : dEqB dx dy s with
  | none => rw [e] at g; exact g.elim
  | some b =>
    rw [e] at g
    have q := g.now r (.bl b)
    rcases eqB_cases r px py e with ⟨h1, h2⟩ | ⟨d, e', h1, h2, h3, h4, h5⟩
    · exact .inl ⟨h1, by rw [h2]; exact q⟩
    · exact .inr ⟨d, e', h1, h2, h3, h4, by rw [h5]; exact q⟩
theorem ops_ne : OpS K (rNeA K) dNe := by
  intro mg W σ m H s x y dx dy Q r px py g
  unfold dNe at g
  cases e : dEqB dx dy s with
  | none => rw [e] at g; exact g.elim
  | some b =>
    rw [e] at g
    have q := g.now r (.bl (!b))
    rcases eqB_cases r px py e with ⟨h1, h2⟩ | ⟨d, e', h1, h2, h3, h4, h5⟩
    · exact .inl ⟨h1, by rw [h2]; exact q⟩
    · exact .inr ⟨d, e', h1, h2, h3, h4, by rw [h5]; exact q⟩
/-! #### is, is not: None, True, False -/
theorem is_bool_gen {M : Model} {A : Around} {E : Value → Shared → Prop} {s : Shared} {Q : Value → Shared → Prop} {v : Value} {b : Bool} (hn : ∀ i, v ≠ .builtin i) (h : Q (.bool (v == .bool b)) s) : wpAny M A (compareOp .Is v (.bool b)) Q E s := by
  cases v <;> first | exact wpAny_pure h | exact (hn _ rfl).elim
theorem isnot_bool_gen {M : Model} {A : Around} {E : Value → Shared → Prop} {s : Shared} {Q : Value → Shared → Prop} {v : Value} {b : Bool} (hn : ∀ i, v ≠ .builtin i) (h : Q (.bool (!(v == .bool b))) s) : wpAny M A (compareOp .IsNot v (.bool b)) Q E s := by
  cases v <;> first | exact wpAny_pure h | exact (hn _ rfl).elim
theorem relv_nb {x : V} {v : Value} (r : RelV x v) : ∀ i, v ≠ .builtin i := fun i e => by
  subst e
  cases x with
  | non => cases r
  | bl c => cases r
  | int i => obtain ⟨t, e⟩ := r; cases e
  | str i => obtain ⟨t, e⟩ := r; cases e
  | byt i => obtain ⟨t, e⟩ := r; cases e
  | flt i => obtain ⟨t, e⟩ := r; cases e
  | ref i => cases r
  | ty i => cases r
theorem relv_bool {x : V} {v : Value} {b : Bool} (r : RelV x v) : (v == .bool b) = decide (x = .bl b) := by
  cases x with
  | non => cases r; simp
  | bl c => cases r; cases c <;> cases b <;> rfl
  | int i => obtain ⟨t, rfl⟩ := r; simp
  | str i => obtain ⟨t, rfl⟩ := r; simp
  | byt i => obtain ⟨t, rfl⟩ := r; simp
  | flt i => obtain ⟨t, rfl⟩ := r; simp
  | ref i => cases r; simp
  | ty i => cases r; simp
theorem op_isB {X : Cx} : OpR X (compareOp .Is) (fun x y H Q => ∃ b, y = .bl b ∧ Q (.bl (decide (x = .bl b))) H) := by
  intro pins s σ H x y v u Q I rx ry h
  obtain ⟨b, rfl, q⟩ := h
  cases ry
  exact is_bool_gen (relv_nb rx) (fin_bl I q (relv_bool rx).symm)
theorem op_notB {X : Cx} : OpR X (compareOp .IsNot) (fun x y H Q => ∃ b, y = .bl b ∧ Q (.bl (!decide (x = .bl b))) H) := by
  intro pins s σ H x y v u Q I rx ry h
  obtain ⟨b, rfl, q⟩ := h
  cases ry
  exact isnot_bool_gen (relv_nb rx) (fin_bl I q (by rw [relv_bool rx]))
def dIsB : D → D → Option Bool
  | .non, .non => some true
  | _, .non => some false
  | .bl c, .bl b => some (decide (c = b))
  | _, .bl _ => some false
  | _, _ => none
def dIs (x y : D) (s : Store) : Option (D × Store) := (dIsB x y).map fun b => (.bl b, s)
def dIsNot (x y : D) (s : Store) : Option (D × Store) := (dIsB x y).map fun b => (.bl !b, s)
def rIsA : R2 := fun x y H Q => (y = .non ∧ Q (.bl (decide (x = .non))) H) ∨ ∃ b, y = .bl b ∧ Q (.bl (decide (x = .bl b))) H
def rNotA : R2 := fun x y H Q => (y = .non ∧ Q (.bl (!decide (x = .non))) H) ∨ ∃ b, y = .bl b ∧ Q (.bl (!decide (x = .bl b))) H
theorem opA_is {X : Cx} : OpR X (compareOp .Is) rIsA := op_isN.or op_isB
theorem opA_isnot {X : Cx} : OpR X (compareOp .IsNot) rNotA := op_notN.or op_notB
theorem isB_cases {m : List Addr} {H : Hp} {dx dy : D} {x y : V} {b : Bool} (px : Rep K m H dx x) (py : Rep K m H dy y) (e : dIsB dx dy = some b) : (y = .non ∧ decide (x = .non) = b) ∨ ∃ c, y = .bl c ∧ decide (x = .bl c) = b := by
  cases py with
  | non => refine .inl ⟨rfl, ?_⟩; cases px <;> (cases e; simp)
  | bl c => refine .inr ⟨c, rfl, ?_⟩; cases px <;> (cases e; simp)
  | _ => cases px <;> cases e
theorem ops_is : OpS K rIsA dIs := by
  intro mg W σ m H s x y dx dy Q r px py g
  unfold dIs at g
  cases e : dIsB dx dy with
  | none => rw [e] at g; exact g.elim
  | some b =>
    rw [e] at g
    have q := g.now r (.bl b)
    rcases isB_cases px py e with ⟨rfl, h⟩ | ⟨c, rfl, h⟩
    · exact .inl ⟨rfl, by rw [h]; exact q⟩
    · exact .inr ⟨c, rfl, by rw [h]; exact q⟩
theorem ops_isnot : OpS K rNotA dIsNot := by
  intro mg W σ m H s x y dx dy Q r px py g
  unfold dIsNot at g
  cases e : dIsB dx dy with
  | none => rw [e] at g; exact g.elim
  | some b =>
    rw [e] at g
    have q := g.now r (.bl (!b))
    rcases isB_cases px py e with ⟨rfl, h⟩ | ⟨c, rfl, h⟩
    · exact .inl ⟨rfl, by rw [h]; exact q⟩
    · exact .inr ⟨c, rfl, by rw [h]; exact q⟩
end
end Mi
namespace Mi
open PySem PySem.Spec PyProof.Rows L2
section
variable {K : PySem.W.Frag} {m : List Addr} {H : Hp} {s : Store}
theorem Rep.sqT {xs : List D} {v : V} (h : Rep K m H (.tup xs) v) : ∃ a vs, v = .ref a ∧ SqT K H a vs ∧ Reps K m H xs vs := by
  cases h with
  | tup h r => exact ⟨_, _, rfl, h, r⟩
/-- the items of a list: of the store, or never written -/
def lstOf (s : Store) : D → Option (List D)
  | .loc l => match s[l]? with
    | some (.lst xs) => some xs
    | _ => none
  | .fl xs => some xs
  | _ => none
theorem lstOf_sq (r : Rel K m H s) {d : D} {v : V} {xs : List D} (p : Rep K m H d v) (e : lstOf s d = some xs) : ∃ a vs, v = .ref a ∧ SqL K H a vs ∧ Reps K m H xs vs := by
  cases d with
  | loc l =>
    cases p with
    | loc h =>
      unfold lstOf at e
      cases q : s[l]? with
      | none => simp [q] at e
      | some c =>
        cases c with
        | dic _ => simp [q] at e
        | lst ys =>
          simp only [q] at e
          cases e
          obtain ⟨vs, h1, h2⟩ := r.list h q
          exact ⟨_, vs, rfl, .inl (.inl h1), h2⟩
  | fl ys =>
    cases e
    cases p with
    | fl h q => exact ⟨_, _, rfl, h.sq, q⟩
  | _ => cases e
/-- list or tuple -/
def seqOf (s : Store) : D → Option (List D)
  | .tup xs => some xs
  | d => lstOf s d
theorem seqOf_sq (r : Rel K m H s) {d : D} {v : V} {xs : List D} (p : Rep K m H d v) (e : seqOf s d = some xs) : ∃ a vs, v = .ref a ∧ (SqL K H a vs ∨ SqT K H a vs) ∧ Reps K m H xs vs := by
  cases d with
  | tup ys =>
    cases e
    obtain ⟨a, vs, h1, h2, h3⟩ := p.sqT
    exact ⟨a, vs, h1, .inr h2, h3⟩
  | loc l => obtain ⟨a, vs, h1, h2, h3⟩ := lstOf_sq (d := .loc l) r p e; exact ⟨a, vs, h1, .inl h2, h3⟩
  | fl l => obtain ⟨a, vs, h1, h2, h3⟩ := lstOf_sq (d := .fl l) r p e; exact ⟨a, vs, h1, .inl h2, h3⟩
  | _ => cases e
/-! #### a[i] -/
def dIx (x i : D) (s : Store) : Option (D × Store) := match i with
  | .int i => match x with
    | .str z => if z.length ≤ sizeLine then (atI z.cps.toList i).map fun c => (.str ⟨#[c]⟩, s) else none
    | x => (seqOf s x).bind fun xs => (atI xs i).map fun d => (d, s)
  | _ => none
theorem Reps.atI {xs : List D} {vs : List V} {i : Int} {d : D} (r : Reps K m H xs vs) (e : L2.atI xs i = some d) : ∃ v, L2.atI vs i = some v ∧ Rep K m H d v := by
  unfold L2.atI at e ⊢
  rw [← r.length]
  cases q : ixN xs.length i with
  | none => rw [q] at e; cases e
  | some j =>
    rw [q] at e
    exact r.get e
theorem ops_ix : OpS K (rIx K) dIx := by
  intro mg W σ m H s x y dx dy Q r px py g
  cases dy with
  | int i =>
    cases py
    have seq : ∀ xs, seqOf s dx = some xs → (∀ d, L2.atI xs i = some d → G K mg (Rep K) W σ m H Q (.ok d s)) → (L2.atI xs i).isSome → rIx K x (.int i) H Q := by
      intro xs e q hs
      obtain ⟨d, hd⟩ := Option.isSome_iff_exists.mp hs
      obtain ⟨a, vs, rfl, hq, rr⟩ := seqOf_sq r px e
      obtain ⟨v, hv, rv⟩ := rr.atI hd
      have q2 := (q d hd).now r rv
      rcases hq with hq | hq
      · exact .inl ⟨a, vs, i, v, rfl, rfl, hq, hv, q2⟩
      · exact .inr (.inl ⟨a, vs, i, v, rfl, rfl, hq, hv, q2⟩)
    have gen : (∀ z, dx ≠ .str z) → rIx K x (.int i) H Q := by
      intro hn
      have e : dIx dx (.int i) s = (seqOf s dx).bind fun xs => (L2.atI xs i).map fun d => (d, s) := by
        cases dx <;> first | rfl | exact (hn _ rfl).elim
      rw [e] at g
      cases q : seqOf s dx with
      | none => rw [q] at g; exact g.elim
      | some xs =>
        rw [q] at g
        cases q2 : L2.atI xs i with
        | none => simp [q2] at g; exact g.elim
        | some d =>
          simp [q2] at g
          exact seq xs q (fun d' h => by rw [q2] at h; cases h; exact g) (by simp [q2])
    cases dx with
    | str z =>
      cases px
      by_cases hz : z.length ≤ sizeLine
      · cases q2 : L2.atI z.cps.toList i with
        | none => simp [dIx, hz, q2] at g; exact g.elim
        | some c =>
          simp [dIx, hz, q2] at g
          exact .inr (.inr ⟨z, i, c, rfl, rfl, hz, q2, g.now r (.str _)⟩)
      · simp [dIx, hz] at g; exact g.elim
    | _ => exact gen (fun z e => by cases e)
  | _ => exact g.elim
/-! #### slices -/
def cutD (xs : List D) (lo hi : Option Int) : List D := (xs.drop (HT.sIx xs.length 0 lo)).take (HT.sIx xs.length xs.length hi - HT.sIx xs.length 0 lo)
theorem Reps.cut {xs : List D} {vs : List V} (r : Reps K m H xs vs) (lo hi : Option Int) : Reps K m H (cutD xs lo hi) (cutV vs lo hi) := by
  unfold cutD cutV
  rw [← r.length]
  exact (r.drop _).take _
def dSl (x : D) (lo hi : Option Int) (s : Store) : Option (D × Store) := match x with
  | .tup xs => some (.tup (cutD xs lo hi), s)
  | x => (lstOf s x).map fun xs => (.loc s.length, s ++ [.lst (cutD xs lo hi)])
def SlS (K : PySem.W.Frag) (r : V → Option Int → Option Int → Hp → VK → Prop) (g : D → Option Int → Option Int → Store → Option (D × Store)) : Prop :=
  ∀ {mg : Str → Option Value} {W : WX} {σ : L2.St} {m : List Addr} {H : Hp} {s : Store} {x : V} {d : D} {lo hi : Option Int} {Q : VK}, Rel K m H s → Rep K m H d x → G K mg (Rep K) W σ m H Q (R.of (g d lo hi s)) → r x lo hi H Q
def rSlS : V → Option Int → Option Int → Hp → VK → Prop := fun x lo hi H Q => ∃ z : Str, x = .str z ∧ z.length ≤ sizeLine ∧ Q (.str (cutS z lo hi)) H
def rSlLT (K : PySem.W.Frag) : V → Option Int → Option Int → Hp → VK → Prop := fun x lo hi H Q => rSlL K x lo hi H Q ∨ rSlA K x lo hi H Q
theorem sl_LT {X : Cx} : SlR X (rSlLT X.K) := sl_list.or sl_tupA
theorem sls_LT : SlS K (rSlLT K) dSl := by
  intro mg W σ m H s x d lo hi Q r p g
  have lst : ∀ xs, lstOf s d = some xs → G K mg (Rep K) W σ m H Q (.ok (.loc s.length) (s ++ [.lst (cutD xs lo hi)])) → rSlLT K x lo hi H Q := by
    intro xs e q
    obtain ⟨a, vs, rfl, hq, rr⟩ := lstOf_sq r p e
    exact .inl ⟨a, vs, rfl, hq, fun q' hq' => q (m ++ [q']) _ _ (le_more r hq') (rel_newlist r hq' (rr.cut lo hi)) (.loc (len_get r))⟩
  have gen : (∀ ys, d ≠ .tup ys) → rSlLT K x lo hi H Q := by
    intro hn
    have e : dSl d lo hi s = (lstOf s d).map fun xs => (.loc s.length, s ++ [.lst (cutD xs lo hi)]) := by
      cases d <;> first | rfl | exact (hn _ rfl).elim
    rw [e] at g
    cases q : lstOf s d with
    | none => rw [q] at g; exact g.elim
    | some xs => rw [q] at g; exact lst xs q g
  cases d with
  | tup xs =>
    obtain ⟨a, vs, rfl, hq, rr⟩ := p.sqT
    have g' : G K mg (Rep K) W σ m H Q (.ok (.tup (cutD xs lo hi)) s) := g
    refine .inr ⟨a, vs, rfl, hq, fun w => ?_, fun _ q hn => g' m _ _ (le_new hn) (r.tmp hn) (rep_newtup hn (rr.cut lo hi))⟩
    have e : cutD xs lo hi = xs := by
      unfold cutD
      rw [rr.length, w.1, w.2, ← rr.length]
      simp
    rw [e] at g'
    exact g'.now r (.tup hq rr)
  | _ => exact gen (fun z e => by cases e)
def oNone : ME (Option Int) := fun _ s => .ok none s
def oSome (a : ME D) : ME (Option Int) := fun env s => (a env s).bind fun x s => match x with
  | .int i => .ok (some i) s
  | _ => .no
def ρO : List Addr → Hp → Option Int → Option Int → Prop := fun _ _ a b => a = b
abbrev To (K : PySem.W.Frag) (mg : Str → Option Value) (W : WX) (f : ME (Option Int)) : TO := Tm K mg ρO W f
def eSl (g : D → Option Int → Option Int → Store → Option (D × Store)) (a : ME D) (lo hi : ME (Option Int)) : ME D := fun env s => (a env s).bind fun x s => (lo env s).bind fun l s => (hi env s).bind fun u s => R.of (g x l u s)
end
section
variable {X : Cx} {W : WX} {pos p2 : Pos} {a b c e : Expr} {es : List Expr} {fa fb fc : ME D} {ga gb : ME Bool} {fs : ME (List D)} {ol oh : ME (Option Int)} {lo hi : Option Expr}
theorem co_none : PO X none (To X.K X.mg W oNone) := ⟨fun pins s σ H Q I ⟨m, env, st, r, E, g⟩ => po_none.run pins s σ H Q I (g m H none .refl r rfl)⟩
theorem co_some (h : PE X e (Te X.K X.mg W fa)) : PO X (some e) (To X.K X.mg W (oSome fa)) := ⟨fun pins s σ H Q I q =>
  (po_some h).run pins s σ H Q I (Tm.bind (k := fun _ x s => match x with | .int i => R.ok (some i) s | _ => R.no) q fun m1 H1 env x v s1 r1 E1 p1 g1 => by
    cases x with
    | int i => cases p1; exact ⟨i, rfl, g1 m1 H1 (some i) .refl r1 rfl⟩
    | _ => exact g1.elim)⟩
theorem ce_sl {r : V → Option Int → Option Int → Hp → VK → Prop} {g : D → Option Int → Option Int → Store → Option (D × Store)} (hr : SlR X r) (hs : SlS X.K r g) (ha : PE X a (Te X.K X.mg W fa)) (hl : PO X lo (To X.K X.mg W ol)) (hu : PO X hi (To X.K X.mg W oh)) :
    PE X (.Subscript a (.Slice lo hi none p2) pos) (Te X.K X.mg W (eSl g fa ol oh)) :=
  PE.imp (pe_slice hr ha hl hu) fun σ H Q h => Tm.bind (k := fun env x s => (ol env s).bind fun l s => (oh env s).bind fun u s => R.of (g x l u s)) h fun m1 H1 env x v s1 r1 E1 p1 g1 =>
    ⟨m1, env, s1, r1, E1, G.bind g1 fun m2 H2 l l' s2 l2 r2 p2 g2 => ⟨m2, env, s2, r2, E1.mono l2, G.bind g2 fun m3 H3 u u' s3 l3 r3 p3 g3 => by
      cases (show l = l' from p2); cases (show u = u' from p3)
      exact hs r3 ((p1.mono l2).mono l3) g3⟩⟩
end
/-! #### calls of builtins -/
section
variable {K : PySem.W.Frag}
def dLen : List D → Store → Option (D × Store)
  | [.str z], s => if z.length ≤ sizeLine then some (.int z.length, s) else none
  | [x], s => (seqOf s x).map fun xs => (.int xs.length, s)
  | _, _ => none
theorem fns_len : FnS K (fun xs H Q => ∃ x n, xs = [x] ∧ LenV K x H n ∧ Q (.int n) H) dLen := by
  intro mg W σ m H s xs ds Q r p g
  cases p with
  | nil => exact g.elim
  | @cons d v ds2 vs2 h p =>
    cases p with
    | cons h2 p2 => cases d <;> exact g.elim
    | nil =>
      have seq : ∀ xs, seqOf s d = some xs → G K mg (Rep K) W σ m H Q (.ok (.int xs.length) s) → ∃ x n, [v] = [x] ∧ LenV K x H n ∧ Q (.int n) H := by
        intro xs e q
        obtain ⟨a, vs, rfl, hq, rr⟩ := seqOf_sq r h e
        refine ⟨.ref a, xs.length, rfl, ?_, q.now r (.int _)⟩
        rcases hq with hq | hq
        · exact .inl ⟨vs, hq, rr.length⟩
        · exact .inr ⟨vs, hq, rr.length⟩
      have gen : (∀ z, d ≠ .str z) → ∃ x n, [v] = [x] ∧ LenV K x H n ∧ Q (.int n) H := by
        intro hn
        have e : dLen [d] s = (seqOf s d).map fun xs => (.int xs.length, s) := by cases d <;> first | rfl | exact (hn _ rfl).elim
        rw [e] at g
        cases q : seqOf s d with
        | none => rw [q] at g; exact g.elim
        | some xs => rw [q] at g; exact seq xs q g
      cases d with
      | str z =>
        cases h
        by_cases hz : z.length ≤ sizeLine
        · simp [dLen, hz] at g
          exact ⟨.str z, z.length, rfl, ⟨hz, rfl⟩, g.now r (.int _)⟩
        · simp [dLen, hz] at g; exact g.elim
      | _ => exact gen (fun z e => by cases e)
def dInt : List D → Store → Option (D × Store)
  | [.int i], s => some (.int i, s)
  | [.bl k], s => some (.int (if k then 1 else 0), s)
  | _, _ => none
theorem reps1 {m : List Addr} {H : Hp} {d : D} {xs : List V} (p : Reps K m H [d] xs) : ∃ v, xs = [v] ∧ Rep K m H d v := by
  cases p with
  | cons h p => cases p; exact ⟨_, rfl, h⟩
theorem reps2 {m : List Addr} {H : Hp} {d e : D} {xs : List V} (p : Reps K m H [d, e] xs) : ∃ v w, xs = [v, w] ∧ Rep K m H d v ∧ Rep K m H e w := by
  cases p with
  | cons h p =>
    obtain ⟨w, rfl, q⟩ := reps1 p
    exact ⟨_, w, rfl, h, q⟩
theorem fns_int : FnS K (fun xs H Q => (∃ i, xs = [.int i] ∧ Q (.int i) H) ∨ ∃ k, xs = [.bl k] ∧ Q (.int (if k then 1 else 0)) H) dInt := by
  intro mg W σ m H s xs ds Q r p g
  unfold dInt at g
  split at g
  · obtain ⟨v, rfl, h⟩ := reps1 p
    cases h
    exact .inl ⟨_, rfl, g.now r (.int _)⟩
  · obtain ⟨v, rfl, h⟩ := reps1 p
    cases h
    exact .inr ⟨_, rfl, g.now r (.int _)⟩
  · exact g.elim
def dAbs : List D → Store → Option (D × Store)
  | [.int i], s => some (.int (if i < 0 then -i else i), s)
  | _, _ => none
theorem fns_abs : FnS K (fun xs H Q => ∃ i, xs = [.int i] ∧ Q (.int (if i < 0 then -i else i)) H) dAbs := by
  intro mg W σ m H s xs ds Q r p g
  unfold dAbs at g
  split at g
  · obtain ⟨v, rfl, h⟩ := reps1 p
    cases h
    exact ⟨_, rfl, g.now r (.int _)⟩
  · exact g.elim
def dMax2 : List D → Store → Option (D × Store)
  | [.int i, .int j], s => some (.int (if j > i then j else i), s)
  | _, _ => none
theorem fns_max2 : FnS K (fun xs H Q => ∃ i j, xs = [.int i, .int j] ∧ Q (.int (if j > i then j else i)) H) dMax2 := by
  intro mg W σ m H s xs ds Q r p g
  unfold dMax2 at g
  split at g
  · obtain ⟨v, w, rfl, h, h2⟩ := reps2 p
    cases h; cases h2
    exact ⟨_, _, rfl, g.now r (.int _)⟩
  · exact g.elim
def dMin2 : List D → Store → Option (D × Store)
  | [.int i, .int j], s => some (.int (if j < i then j else i), s)
  | _, _ => none
theorem fns_min2 : FnS K (fun xs H Q => ∃ i j, xs = [.int i, .int j] ∧ Q (.int (if j < i then j else i)) H) dMin2 := by
  intro mg W σ m H s xs ds Q r p g
  unfold dMin2 at g
  split at g
  · obtain ⟨v, w, rfl, h, h2⟩ := reps2 p
    cases h; cases h2
    exact ⟨_, _, rfl, g.now r (.int _)⟩
  · exact g.elim
/-- all ints -/
def intsOf : List D → Option (List Int)
  | [] => some []
  | .int i :: r => (intsOf r).map fun x => i :: x
  | _ :: _ => none
theorem intsOf_map (ns : List Int) : intsOf (ns.map D.int) = some ns := by
  induction ns with
  | nil => rfl
  | cons n ns ih => simp [intsOf, ih]
theorem of_intsOf : ∀ {ds : List D} {ns : List Int}, intsOf ds = some ns → ds = ns.map D.int
  | [], _, e => by cases e; rfl
  | d :: ds, ns, e => by
    cases d with
    | int i =>
      unfold intsOf at e
      cases q : intsOf ds with
      | none => rw [q] at e; cases e
      | some x => rw [q] at e; cases e; rw [List.map_cons, of_intsOf q]
    | _ => cases e
def dSum : List D → Store → Option (D × Store)
  | [x], s => (lstOf s x).bind fun xs => (intsOf xs).map fun ns => (.int ns.sum, s)
  | _, _ => none
theorem fns_sum : FnS K (rSum K) dSum := by
  intro mg W σ m H s xs ds Q r p g
  unfold dSum at g
  split at g
  · obtain ⟨v, rfl, h⟩ := reps1 p
    rename_i x
    cases q : lstOf s x with
    | none => rw [q] at g; exact g.elim
    | some ys =>
      rw [q] at g
      cases q2 : intsOf ys with
      | none => simp [q2] at g; exact g.elim
      | some ns =>
        simp [q2] at g
        obtain ⟨a, vs, rfl, hq, rr⟩ := lstOf_sq r h q
        rw [of_intsOf q2] at rr
        have e := rr.ints
        subst e
        exact ⟨a, ns, rfl, hq, g.now r (.int _)⟩
  · exact g.elim
def dTuple : List D → Store → Option (D × Store)
  | [x], s => (seqOf s x).map fun xs => (.tup xs, s)
  | _, _ => none
theorem fns_tuple : FnS K (fun xs H Q => ∃ p ys, xs = [.ref p] ∧ ((SqL K H p ys ∧ ∀ l, H l = none → Q (.ref l) (upd H l (.tup ys))) ∨ (SqT K H p ys ∧ Q (.ref p) H))) dTuple := by
  intro mg W σ m H s xs ds Q r p g
  unfold dTuple at g
  split at g
  · obtain ⟨v, rfl, h⟩ := reps1 p
    rename_i x
    cases q : seqOf s x with
    | none => rw [q] at g; exact g.elim
    | some ys =>
      rw [q] at g
      have g' : G K mg (Rep K) W σ m H Q (.ok (.tup ys) s) := g
      obtain ⟨a, vs, rfl, hq, rr⟩ := seqOf_sq r h q
      refine ⟨a, vs, rfl, ?_⟩
      rcases hq with hq | hq
      · exact .inl ⟨hq, fun l hl => g' m _ _ (le_new hl) (r.tmp hl) (rep_newtup hl rr)⟩
      · exact .inr ⟨hq, g'.now r (.tup hq rr)⟩
  · exact g.elim
def dList : List D → Store → Option (D × Store)
  | [x], s => (seqOf s x).map fun xs => (.loc s.length, s ++ [.lst xs])
  | _, _ => none
theorem fns_list : FnS K (fun xs H Q => ∃ p ys, xs = [.ref p] ∧ (SqL K H p ys ∨ SqT K H p ys) ∧ ∀ l, H l = none → Q (.ref l) (upd H l (.lst ys))) dList := by
  intro mg W σ m H s xs ds Q r p g
  unfold dList at g
  split at g
  · obtain ⟨v, rfl, h⟩ := reps1 p
    rename_i x
    cases q : seqOf s x with
    | none => rw [q] at g; exact g.elim
    | some ys =>
      rw [q] at g
      have g' : G K mg (Rep K) W σ m H Q (.ok (.loc s.length) (s ++ [.lst ys])) := g
      obtain ⟨a, vs, rfl, hq, rr⟩ := seqOf_sq r h q
      exact ⟨a, vs, rfl, hq, fun l hl => g' (m ++ [l]) _ _ (le_more r hl) (rel_newlist r hl rr) (.loc (len_get r))⟩
  · exact g.elim
/-! #### isinstance(x, T), T a built-in type -/
def tyN (s : Store) : D → Option String
  | .non => some "NoneType"
  | .bl _ => some "bool"
  | .int _ => some "int"
  | .str _ => some "str"
  | .tup _ => some "tuple"
  | .fl _ => some "list"
  | .loc l => match s[l]? with
    | some (.lst _) => some "list"
    | some (.dic _) => some "dict"
    | none => none
  | .exv _ _ => none
theorem tyN_tyx {m : List Addr} {H : Hp} {s : Store} (r : Rel K m H s) {d : D} {v : V} {t : String} (p : Rep K m H d v) (e : tyN s d = some t) : TyX K H v (.type t) := by
  cases p with
  | non => cases e; exact .base .non
  | bl b => cases e; exact .base (.bl b)
  | int b => cases e; exact .base (.int b)
  | str b => cases e; exact .base (.str b)
  | tup h q =>
    cases e
    rcases h with (h | ⟨o, h⟩) | ⟨o, _, _, h1, h2, _⟩
    · exact .base (.tup h)
    · exact .fTuple h
    · exact .kTuple h1 h2
  | fl h q =>
    cases e
    rcases h with ⟨o, h⟩ | ⟨o, _, _, h1, h2, _⟩
    · exact .base (.frz h)
    · exact .kList h1 h2
  | @loc l a h =>
    unfold tyN at e
    cases q : s[l]? with
    | none => simp [q] at e
    | some c =>
      cases c with
      | lst xs => simp [q] at e; subst e; obtain ⟨vs, h1, _⟩ := r.list h q; exact .base (.lst h1)
      | dic xs => simp [q] at e; subst e; obtain ⟨vs, h1, _⟩ := r.at_ l a _ h q; exact .base (.dK h1)
  | exv a => cases e
def dIsi (T : String) (x : D) (s : Store) : Option (D × Store) := (tyN s x).bind fun t => (kitB t T).map fun b => (.bl b, s)
end
section
variable {X : Cx} {W : WX} {pos p p2 : Pos} {a b c e : Expr} {es : List Expr} {fa fb fc : ME D} {ga gb : ME Bool} {fs : ME (List D)}
theorem ce_isi {T : String} (hg : Gl X "isinstance") (hm : X.mg "isinstance" = none) (hgT : Gl X (T : Str)) (hmT : X.mg (T : Str) = none) (hvT : bootBuiltins (T : Str) = some (.type T)) (ha : PE X a (Te X.K X.mg W fa))
    (hnT : (T : Str) ≠ "__name__" := by decide) (hdT : ((T : Str) == ("__debug__" : Str)) = false := by decide)
    (hv : bootBuiltins "isinstance" = some (.builtin "isinstance") := by decide +kernel) (he : starEach [a, .Name T p2] X.env = (false, eval a X.env) :: starEach [.Name T p2] X.env := by rfl)
    (he2 : starEach [.Name T p2] X.env = (false, eval (.Name T p2) X.env) :: starEach [] X.env := by rfl)
    (hpl : (backTo pos (starEach [.Name T p2] X.env)).any (·.1) = false := by rfl) : PE X (.Call (.Name "isinstance" p) [a, .Name T p2] [] pos) (Te X.K X.mg W (e1 (dIsi T) fa)) :=
  PE.imp (pe_callB call_isi hg hm hv (pa_cons ha (pa_cons (pe_bltn (v := .ty T) hgT hmT hvT rfl hnT hdT) pa_nil he2) he) (by decide) (by decide) he hpl) fun σ H Q h =>
    Tm.bind (k := fun _ x s => R.of (dIsi T x s)) h fun m1 H1 env x v s1 r1 E1 p1 g1 => by
      unfold dIsi at g1
      cases q : tyN s1 x with
      | none => rw [q] at g1; exact g1.elim
      | some t =>
        rw [q] at g1
        cases q2 : kitB t T with
        | none => simp [q2] at g1; exact g1.elim
        | some k =>
          simp [q2] at g1
          exact ⟨v, .ty T, .type t, .type T, k, rfl, .ty T, tyN_tyx r1 p1 q, kit_ty q2, g1.now r1 (.bl _)⟩
/-! #### methods of builtin types -/
def tyOk (T : String) (s : Store) : D → Bool
  | .str _ => T == "str"
  | .int _ => T == "int"
  | .loc l => match s[l]? with
    | some (.lst _) => T == "list"
    | some (.dic _) => T == "dict"
    | none => false
  | .fl _ => T == "list"
  | _ => false
theorem tyOk_tyV {T : String} {m : List Addr} {H : Hp} {s : Store} {K : PySem.W.Frag} (r : Rel K m H s) {d : D} {v : V} (p : Rep K m H d v) (e : tyOk T s d = true) : tyV K T v H := by
  cases p with
  | str b => exact beq_iff_eq.mp e
  | int b => exact beq_iff_eq.mp e
  | fl h q => exact .inl ⟨beq_iff_eq.mp e, _, h.sq⟩
  | @loc l a h =>
    unfold tyOk at e
    cases q : s[l]? with
    | none => simp [q] at e
    | some c =>
      cases c with
      | lst xs => simp [q] at e; obtain ⟨vs, h1, _⟩ := r.list h q; exact .inl ⟨e, vs, .inl (.inl h1)⟩
      | dic xs => simp [q] at e; obtain ⟨vs, h1, _⟩ := r.at_ l a _ h q; exact .inr (.inr (.inl ⟨e, .inl ⟨vs, h1⟩⟩))
  | _ => cases e
def eMt (T : String) (g : D → List D → Store → Option (D × Store)) (a : ME D) (fs : ME (List D)) : ME D := fun env s => (a env s).bind fun x s => if tyOk T s x = true then (fs env s).bind fun xs s => R.of (g x xs s) else .no
def eMt0 (T : String) (g : D → List D → Store → Option (D × Store)) (a : ME D) : ME D := fun env s => (a env s).bind fun x s => if tyOk T s x = true then R.of (g x [] s) else .no
def MtS (K : PySem.W.Frag) (r : V → List V → Hp → VK → Prop) (g : D → List D → Store → Option (D × Store)) : Prop :=
  ∀ {mg : Str → Option Value} {W : WX} {σ : L2.St} {m : List Addr} {H : Hp} {s : Store} {x : V} {d : D} {xs : List V} {ds : List D} {Q : VK}, Rel K m H s → Rep K m H d x → Reps K m H ds xs → G K mg (Rep K) W σ m H Q (R.of (g d ds s)) → r x xs H Q
variable {o : Expr} {T id : String} {name : Str} {apos cpos : Pos} {r : V → List V → Hp → VK → Prop} {g : D → List D → Store → Option (D × Store)} {fo : ME D}
theorem ce_bm0 (pa : PlainAttrs T) (slot : Slot T name id) (hty : typeOf (.builtin id) = pure (.type "method_descriptor")) (hm : MtR X id r) (hs : MtS X.K r g) (ho : PE X o (Te X.K X.mg W fo))
    (hbase : attributeBase o name X.env (eval o X.env) = eval o X.env := by rfl) (hline : (apos.endLine == cpos.line) = true := by rfl) : PE X (.Call (.Attribute o name apos) [] [] cpos) (Te X.K X.mg W (eMt0 T g fo)) :=
  PE.imp (pe_bm0 pa slot hty hm ho hbase hline) fun σ H Q h => Tm.bind (k := fun env x s => if tyOk T s x = true then R.of (g x [] s) else R.no) h fun m1 H1 env x v s1 r1 E1 p1 g1 => by
    by_cases q : tyOk T s1 x = true
    · simp only [q, if_true] at g1
      exact ⟨tyOk_tyV r1 p1 q, hs r1 p1 .nil g1⟩
    · simp only [q, if_false] at g1
      exact g1.elim
theorem ce_bm (pa : PlainAttrs T) (slot : Slot T name id) (hty : typeOf (.builtin id) = pure (.type "method_descriptor")) (hm : MtR X id r) (hs : MtS X.K r g) (ho : PE X o (Te X.K X.mg W fo)) (ha : PA X (e :: es) (Ta X.K X.mg W fs))
    (hbase : attributeBase o name X.env (eval o X.env) = eval o X.env := by rfl)
    (hfew : ((backTo cpos (starEach (e :: es) X.env)).all (fun x => !x.1) && (backToKw cpos (keywordEach [] X.env)).all (fun x => x.1.isSome)
      && decide ((e :: es).length + ([] : List Keyword).length + (if ([] : List Keyword).isEmpty then 0 else 1) < 30)) = true := by rfl)
    (hline : (apos.endLine == cpos.line) = true := by rfl) (hst : starEach (e :: es) X.env = (false, eval e X.env) :: starEach es X.env := by rfl) (hplain : (backTo cpos (starEach es X.env)).any (·.1) = false := by rfl) :
    PE X (.Call (.Attribute o name apos) (e :: es) [] cpos) (Te X.K X.mg W (eMt T g fo fs)) :=
  PE.imp (pe_bm pa slot hty hm ho ha hbase hfew hline hst hplain) fun σ H Q h => Tm.bind (k := fun env x s => if tyOk T s x = true then (fs env s).bind fun xs s => R.of (g x xs s) else R.no) h fun m1 H1 env x v s1 r1 E1 p1 g1 => by
    by_cases q : tyOk T s1 x = true
    · simp only [q, if_true] at g1
      exact ⟨tyOk_tyV r1 p1 q, ⟨m1, env, s1, r1, E1, G.bind g1 fun m2 H2 xs vs s2 l2 r2 p2 g2 => hs r2 (p1.mono l2) p2 g2⟩⟩
    · simp only [q, if_false] at g1
      exact g1.elim
end
section
variable {K : PySem.W.Frag}
theorem le_setlist {m : List Addr} {H : Hp} {s : Store} (r : Rel K m H s) {l : Nat} {a : Addr} (h : m[l]? = some a) {vs : List V} {xs : List D} (p : Reps K m H xs vs) : Le K m H m (upd H a (.lst vs)) ∧ Rel K m (upd H a (.lst vs)) (s.set l (.lst xs)) :=
  have le := le_put (o := .lst vs) r (List.mem_of_getElem? h)
  ⟨le, r.put h ⟨vs, upd_same, p.mono le⟩⟩
def dAppend (x : D) (ys : List D) (s : Store) : Option (D × Store) := match x, ys with
  | .loc l, [y] => match s[l]? with
    | some (.lst xs) => if xs.length < sizeLine then some (.non, s.set l (.lst (xs ++ [y]))) else none
    | _ => none
  | _, _ => none
theorem mts_append : MtS K rAppend dAppend := by
  intro mg W σ m H s x d xs ds Q r p ps g
  unfold dAppend at g
  split at g
  · rename_i l y
    obtain ⟨w, rfl, h⟩ := reps1 ps
    cases p with
    | loc hl =>
      split at g
      · rename_i ys q
        split at g
        · rename_i hz
          obtain ⟨vs, h1, h2⟩ := r.list hl q
          obtain ⟨le, r2⟩ := le_setlist r hl (h2.append (.cons h .nil))
          exact ⟨_, vs, w, rfl, rfl, h1, by rw [← h2.length]; exact hz, g m _ _ le r2 .non⟩
        · exact g.elim
      · exact g.elim
  · exact g.elim
def dPop (x : D) (ys : List D) (s : Store) : Option (D × Store) := match x, ys with
  | .loc l, [] => match s[l]? with
    | some (.lst xs) => (xs[xs.length - 1]?).map fun y => (y, s.set l (.lst xs.dropLast))
    | _ => none
  | _, _ => none
theorem mts_pop : MtS K rPop dPop := by
  intro mg W σ m H s x d xs ds Q r p ps g
  unfold dPop at g
  split at g
  · rename_i l
    cases ps
    cases p with
    | loc hl =>
      split at g
      · rename_i ys q
        cases q2 : ys[ys.length - 1]? with
        | none => rw [q2] at g; exact g.elim
        | some y =>
          rw [q2] at g
          obtain ⟨vs, h1, h2⟩ := r.list hl q
          obtain ⟨v, hv, rv⟩ := h2.get q2
          obtain ⟨le, r2⟩ := le_setlist r hl h2.dropLast
          exact ⟨_, vs, v, rfl, rfl, h1, by rw [← h2.length]; exact hv, g m _ _ le r2 (rv.mono le)⟩
      · exact g.elim
  · exact g.elim
end
end Mi
namespace Mi
open PySem PySem.Spec PyProof.Rows L2
/-! ### targets -/
def gN (i : Nat) : D → Sl → Option Sl := fun d env => some (env.set i (some d))
def gsN : List D → Sl → Option Sl := fun xs env => match xs with
  | [] => some env
  | _ => none
def gsC (g : D → Sl → Option Sl) (r : List D → Sl → Option Sl) : List D → Sl → Option Sl := fun xs env => match xs with
  | x :: xs => (g x env).bind (r xs)
  | [] => none
def gT (n : Nat) (r : List D → Sl → Option Sl) : D → Sl → Option Sl := fun d env => match d with
  | .tup xs => if xs.length = n then r xs env else none
  | _ => none
def GTm (K : PySem.W.Frag) (vs : List Nat) (g : D → Sl → Option Sl) : TG := fun v σ H Q =>
  ∃ m env s d env', Rel K m H s ∧ RelE K m H env σ ∧ Rep K m H d v ∧ g d env = some env' ∧ ∀ σ', RelE K m H env' σ' → (∀ i, i ∉ vs → σ'[i]? = σ[i]?) → σ'.length = σ.length → Q σ' H
def GTs (K : PySem.W.Frag) (vs : List Nat) (g : List D → Sl → Option Sl) : TGs := fun xs σ H Q =>
  ∃ m env s ds env', Rel K m H s ∧ RelE K m H env σ ∧ Reps K m H ds xs ∧ g ds env = some env' ∧ ∀ σ', RelE K m H env' σ' → (∀ i, i ∉ vs → σ'[i]? = σ[i]?) → σ'.length = σ.length → Q σ' H
theorem relE_set {K : PySem.W.Frag} {m : List Addr} {H : Hp} {env : Sl} {σ : L2.St} (E : RelE K m H env σ) {d : D} {v : V} (p : Rep K m H d v) (i : Nat) : RelE K m H (env.set i (some d)) (σ.set i (some v)) := by
  refine ⟨by simp [E.1], fun j d' h => ?_⟩
  by_cases hj : i = j
  · subst hj
    by_cases hi : i < env.length
    · rw [List.getElem?_set_self hi] at h
      cases h
      exact ⟨v, by rw [List.getElem?_set_self (by rw [← E.1]; exact hi)], p⟩
    · rw [List.getElem?_eq_none (by simpa using hi)] at h; cases h
  · rw [List.getElem?_set_ne hj] at h
    rw [List.getElem?_set_ne hj]
    exact E.2 j d' h
section
variable {X : Cx} {pos : Pos}
theorem PG.imp {e : Expr} {t t' : TG} (h : PG X e t) (i : ∀ v σ H Q, t' v σ H Q → t v σ H Q) : PG X e t' := ⟨fun pins s σ H v u Q I r q => h.run pins s σ H v u Q I r (i v σ H Q q)⟩
theorem PGs.imp {e : List Expr} {t t' : TGs} (h : PGs X e t) (i : ∀ v σ H Q, t' v σ H Q → t v σ H Q) : PGs X e t' := ⟨fun pins s σ H v u Q I r q => h.run pins s σ H v u Q I r (i v σ H Q q)⟩
theorem cg_name {i : Nat} {x : Str} (hN : X.N.Nodup) (hi : X.N[i]? = some x) (hx : Loc X.env.scope x) (hf : X.fn x = true ∨ X.env.scope.names.lookup x = some .local := by first | exact .inl rfl | exact .inr rfl | assumption) : PG X (.Name x pos) (GTm X.K [i] (gN i)) :=
  PG.imp (pg_name hN hi hx hf) fun v σ H Q ⟨m, env, s, d, env', r, E, p, e, q⟩ => by
    cases e
    exact q _ (relE_set E p i) (fun j hj => List.getElem?_set_ne (by simpa [eq_comm] using hj)) (by simp)
theorem cgs_nil {vs : List Nat} : PGs X [] (GTs X.K vs gsN) := PGs.imp pgs_nil fun v σ H Q ⟨m, env, s, ds, env', r, E, p, e, q⟩ => by
  cases ds with
  | nil => cases e; cases p; exact ⟨rfl, q σ E (fun _ _ => rfl) rfl⟩
  | cons _ _ => cases e
theorem cgs_cons {e : Expr} {es : List Expr} {g : D → Sl → Option Sl} {r : List D → Sl → Option Sl} {vs ws us : List Nat} (h1 : PG X e (GTm X.K vs g)) (h2 : PGs X es (GTs X.K ws r)) (hv : ∀ i, i ∈ vs ∨ i ∈ ws → i ∈ us := by simp)
    (hs : (assignEach (e :: es) X.env).map (·.2) = assign e X.env :: (assignEach es X.env).map (·.2) := by rfl) : PGs X (e :: es) (GTs X.K us (gsC g r)) :=
  PGs.imp (pgs_cons h1 h2 hs) fun v σ H Q ⟨m, env, s, ds, env', rl, E, p, e, q⟩ => by
    cases ds with
    | nil => cases e
    | cons d ds =>
      cases p with
      | cons pd p =>
        have e : (g d env).bind (r ds) = some env' := e
        cases q1 : g d env with
        | none => rw [q1] at e; cases e
        | some env1 =>
          rw [q1] at e
          refine ⟨_, _, rfl, m, env, s, d, env1, rl, E, pd, q1, fun σ1 E1 k1 n1 => ⟨m, env1, s, ds, env', rl, E1, p, e, fun σ2 E2 k2 n2 => q σ2 E2 (fun i hi => ?_) (n2.trans n1)⟩⟩
          rw [k2 i (fun z => hi (hv i (.inr z))), k1 i (fun z => hi (hv i (.inl z)))]
theorem cg_tup {es : List Expr} {k n : Nat} {r : List D → Sl → Option Sl} {vs : List Nat} (hc : X.calm = true) (h : PGs X es (GTs X.K vs r)) (hn : (assignEach es X.env).length = n := by rfl) (hst : (assignEach es X.env).findIdx? (·.1) = none := by rfl) :
    PG X (.Tuple es k pos) (GTm X.K vs (gT n r)) := PG.imp (pg_tup (n := n) hc h hn hst) fun v σ H Q ⟨m, env, s, d, env', rl, E, p, e, q⟩ => by
  cases d with
  | tup xs =>
    obtain ⟨a, ws, rfl, hq, rr⟩ := p.sqT
    have e : (if xs.length = n then r xs env else none) = some env' := e
    split at e
    · rename_i hl
      exact ⟨a, ws, rfl, hq, by rw [← rr.length]; exact hl, m, env, s, xs, env', rl, E, rr, e, q⟩
    · cases e
  | _ => cases e
end
/-! ### statements -/
abbrev MS := Sl → Store → RS
section
variable (K : PySem.W.Frag) (mg : Str → Option Value)
def GS (W : WX) (Dn : Ends) (m : List Addr) (H : Hp) : RS → Prop
  | .nx env s => ∀ m' σ' H', Le K m H m' H' → Rel K m' H' s → RelE K m' H' env σ' → Dn.nx σ' H'
  | .rt d s => ∀ m' H' v, Le K m H m' H' → Rel K m' H' s → Rep K m' H' d v → Dn.rt v H'
  | .bk env s => ∀ m' σ' H', Le K m H m' H' → Rel K m' H' s → RelE K m' H' env σ' → Dn.bk σ' H'
  | .ct env s => ∀ m' σ' H', Le K m H m' H' → Rel K m' H' s → RelE K m' H' env σ' → Dn.ct σ' H'
  | .ex e env s => ∀ m' σ' H' c dd, Le K m H m' H' → Rel K m' H' s → RelE K m' H' env σ' → ExR K mg m' H' e c dd → W c dd σ' H'
  | .no => False
def Ts (W : WX) (f : MS) : TS := fun Dn σ H => ∃ m env s, Rel K m H s ∧ RelE K m H env σ ∧ GS K mg W Dn m H (f env s)
end
def RS.bind (r : RS) (k : Sl → Store → RS) : RS := match r with
  | .nx env s => k env s
  | r => r
/-- behind an expression -/
def R.then {α : Type} (r : R α) (env : Sl) (k : α → Store → RS) : RS := match r with
  | .ok a s => k a s
  | .ex e s => .ex e env s
  | .no => .no
@[simp] theorem RS.bind_nx (env : Sl) (s : Store) (k : Sl → Store → RS) : (RS.nx env s).bind k = k env s := rfl
@[simp] theorem RS.bind_rt (d : D) (s : Store) (k : Sl → Store → RS) : (RS.rt d s).bind k = .rt d s := rfl
@[simp] theorem RS.bind_bk (env : Sl) (s : Store) (k : Sl → Store → RS) : (RS.bk env s).bind k = .bk env s := rfl
@[simp] theorem RS.bind_ct (env : Sl) (s : Store) (k : Sl → Store → RS) : (RS.ct env s).bind k = .ct env s := rfl
@[simp] theorem RS.bind_ex (e : Ex) (env : Sl) (s : Store) (k : Sl → Store → RS) : (RS.ex e env s).bind k = .ex e env s := rfl
@[simp] theorem RS.bind_no (k : Sl → Store → RS) : (RS.no).bind k = .no := rfl
@[simp] theorem R.then_ok {α : Type} (a : α) (s : Store) (env : Sl) (k : α → Store → RS) : (R.ok a s).then env k = k a s := rfl
@[simp] theorem R.then_ex {α : Type} (e : Ex) (s : Store) (env : Sl) (k : α → Store → RS) : (R.ex e s : R α).then env k = .ex e env s := rfl
@[simp] theorem R.then_no {α : Type} (env : Sl) (k : α → Store → RS) : (R.no : R α).then env k = .no := rfl
def sNil : MS := fun env s => .nx env s
def sSeq (f g : MS) : MS := fun env s => (f env s).bind g
def sSet (i : Nat) (e : ME D) : MS := fun env s => (e env s).then env fun d s => .nx (env.set i (some d)) s
def sAsg (g : D → Sl → Option Sl) (e : ME D) : MS := fun env s => (e env s).then env fun d s => match g d env with
  | some env' => .nx env' s
  | none => .no
def sIf (c : ME Bool) (f g : MS) : MS := fun env s => (c env s).then env fun b s => if b then f env s else g env s
def sRet (e : ME D) : MS := fun env s => (e env s).then env fun d s => .rt d s
def sRetN : MS := fun _ s => .rt .non s
def sExpr (e : ME D) : MS := fun env s => (e env s).then env fun _ s => .nx env s
def sBrk : MS := fun env s => .bk env s
def sCnt : MS := fun env s => .ct env s
/-- o[i] = e: e, o, i in this sequence -/
def sPut (g : D → D → D → Store → Option Store) (o i e : ME D) : MS := fun env s => (e env s).then env fun d s => (o env s).then env fun x s => (i env s).then env fun y s => match g x y d s with
  | some s' => .nx env s'
  | none => .no
/-- name op= e -/
def sAug (i : Nat) (g : D → D → Store → Option (D × Store)) (e : ME D) : MS := fun env s => match env[i]? with
  | some (some x) => (e env s).then env fun y s => match g x y s with
    | some (z, s') => .nx (env.set i (some z)) s'
    | none => .no
  | _ => .no
structure Itm where
  xs : List D
  guard : Store → Prop
open Classical in
noncomputable def forL (guard : Store → Prop) (g : D → Sl → Option Sl) (b : MS) : List D → Sl → Store → RS
  | [], env, s => if guard s then .nx env s else .no
  | x :: xs, env, s => if guard s then (match g x env with
    | none => .no
    | some env1 => match b env1 s with
      | .nx env2 s2 => forL guard g b xs env2 s2
      | .ct env2 s2 => forL guard g b xs env2 s2
      | .bk env2 s2 => .nx env2 s2
      | .rt d s2 => .rt d s2
      | .ex e env2 s2 => .ex e env2 s2
      | .no => .no) else .no
noncomputable def sFor (it : ME Itm) (g : D → Sl → Option Sl) (b : MS) : MS := fun env s => (it env s).then env fun i s => forL i.guard g b i.xs env s
def whileN (c : ME Bool) (b : MS) : Nat → Sl → Store → RS
  | 0, _, _ => .no
  | n + 1, env, s => (c env s).then env fun k s => if k then (match b env s with
      | .nx env2 s2 => whileN c b n env2 s2
      | .ct env2 s2 => whileN c b n env2 s2
      | .bk env2 s2 => .nx env2 s2
      | .rt d s2 => .rt d s2
      | .ex e env2 s2 => .ex e env2 s2
      | .no => .no) else .nx env s
open Classical in
/-- a while: some number of turns is enough -/
noncomputable def sWhile (c : ME Bool) (b : MS) : MS := fun env s => if h : ∃ n, whileN c b n env s ≠ .no then whileN c b (Classical.choose h) env s else .no
section
variable {K : PySem.W.Frag} {mg : Str → Option Value} {m m1 : List Addr} {H H1 : Hp} {s : Store} {W : WX} {σ : L2.St} {Dn : Ends}
theorem GS.mono (e : Le K m H m1 H1) {r : RS} (h : GS K mg W Dn m H r) : GS K mg W Dn m1 H1 r := by
  cases r with
  | nx env s => exact fun m' σ' H' l => h m' σ' H' (e.trans l)
  | rt d s => exact fun m' σ' H' l => h m' σ' H' (e.trans l)
  | bk env s => exact fun m' σ' H' l => h m' σ' H' (e.trans l)
  | ct env s => exact fun m' σ' H' l => h m' σ' H' (e.trans l)
  | ex x env s => exact fun m' σ' H' c d l => h m' σ' H' c d (e.trans l)
  | no => exact h
/-- an expression first -/
theorem GS.ofE {α β : Type} {ρ : List Addr → Hp → α → β → Prop} {r : R α} {env : Sl} {k : α → Store → RS} {Q : β → Hp → Prop} (E : RelE K m H env σ) (h : GS K mg W Dn m H (r.then env k))
    (q : ∀ m1 H1 a b s1, Le K m H m1 H1 → Rel K m1 H1 s1 → ρ m1 H1 a b → GS K mg W Dn m1 H1 (k a s1) → Q b H1) : G K mg ρ W σ m H Q r := by
  cases r with
  | ok a s => exact fun m' H' b l r p => q m' H' a b s l r p (GS.mono l h)
  | ex x s => exact fun m' H' c d l r p => h m' σ H' c d l r (E.mono l) p
  | no => exact h
theorem Ts.ofE {α β : Type} {ρ : List Addr → Hp → α → β → Prop} {f : Sl → Store → R α} {k : Sl → α → Store → RS} {Q : β → Hp → Prop} (h : Ts K mg W (fun env s => (f env s).then env (k env)) Dn σ H)
    (q : ∀ m1 H1 env a b s1, Rel K m1 H1 s1 → RelE K m1 H1 env σ → ρ m1 H1 a b → GS K mg W Dn m1 H1 (k env a s1) → Q b H1) : Tm K mg ρ W f σ H Q := by
  obtain ⟨m, env, s, r, E, g⟩ := h
  exact ⟨m, env, s, r, E, GS.ofE E g fun m1 H1 a b s1 l r1 p g1 => q m1 H1 env a b s1 r1 (E.mono l) p g1⟩
end
section
variable {X : Cx} {W : WX} {pos : Pos} {e o i c tg iter : Expr} {st : Stmt} {rest body els : List Stmt} {fe fo fi : ME D} {gc : ME Bool} {f g : MS}
theorem css_nil : PSs X [] (Ts X.K X.mg W sNil) := PSs.imp pss_nil fun Dn σ H ⟨m, env, s, r, E, q⟩ => q m σ H .refl r E
theorem css_cons (h1 : PS X st (Ts X.K X.mg W f)) (h2 : PSs X rest (Ts X.K X.mg W g)) : PSs X (st :: rest) (Ts X.K X.mg W (sSeq f g)) :=
  PSs.imp (pss_cons h1 h2) fun Dn σ H ⟨m, env, s, r, E, q⟩ => by
    refine ⟨m, env, s, r, E, ?_⟩
    unfold sSeq at q
    cases hf : f env s with
    | nx env1 s1 => rw [hf] at q; exact fun m' σ' H' l r' E' => ⟨m', env1, s1, r', E', GS.mono l q⟩
    | rt d s1 => rw [hf] at q; exact q
    | bk env1 s1 => rw [hf] at q; exact q
    | ct env1 s1 => rw [hf] at q; exact q
    | ex x env1 s1 => rw [hf] at q; exact q
    | no => rw [hf] at q; exact q
theorem css_one (h1 : PS X st (Ts X.K X.mg W f)) : PSs X [st] (Ts X.K X.mg W f) := pss_one h1
theorem cs_pass : PS X (.Pass pos) (Ts X.K X.mg W sNil) := PS.imp ps_pass fun Dn σ H ⟨m, env, s, r, E, q⟩ => q m σ H .refl r E
theorem cs_doc {x j pos'} : PS X (.Expr (.Constant (.str x) j pos) pos') (Ts X.K X.mg W sNil) := PS.imp ps_doc fun Dn σ H ⟨m, env, s, r, E, q⟩ => q m σ H .refl r E
theorem cs_break : PS X (.Break pos) (Ts X.K X.mg W sBrk) := PS.imp ps_break fun Dn σ H ⟨m, env, s, r, E, q⟩ => q m σ H .refl r E
theorem cs_cont : PS X (.Continue pos) (Ts X.K X.mg W sCnt) := PS.imp ps_continue fun Dn σ H ⟨m, env, s, r, E, q⟩ => q m σ H .refl r E
theorem cs_set {j : Nat} {x : Str} {pos' : Pos} (hN : X.N.Nodup) (hi : X.N[j]? = some x) (hx : Loc X.env.scope x) (he : PE X e (Te X.K X.mg W fe)) (hs : swapsWith e (some (.Name x pos')) pos.line X.env = pure false := by rfl) (hf : X.fn x = true ∨ X.env.scope.names.lookup x = some .local := by first | exact .inl rfl | exact .inr rfl | assumption) :
    PS X (.Assign [.Name x pos'] e pos) (Ts X.K X.mg W (sSet j fe)) := PS.imp (ps_set (i := j) hN hi hx he hs hf) fun Dn σ H h =>
  Ts.ofE (k := fun env d s => .nx (env.set j (some d)) s) h fun m1 H1 env d v s1 r1 E1 p1 g1 => g1 m1 _ H1 .refl r1 (relE_set E1 p1 j)
theorem cs_asg {vs : List Nat} {g : D → Sl → Option Sl} (he : PE X e (Te X.K X.mg W fe)) (hg : PG X tg (GTm X.K vs g)) (hs : swapsWithSole [tg] e pos.line X.env = pure false := by rfl) (hw : swappedStores [tg] e X.env = pure none := by rfl)
    (h1 : (assignEach [tg] X.env).map (·.2) = [assign tg X.env] := by rfl) : PS X (.Assign [tg] e pos) (Ts X.K X.mg W (sAsg g fe)) := PS.imp (ps_asg he hg hs hw h1) fun Dn σ H h =>
  Ts.ofE (k := fun env d s => match g d env with | some env' => RS.nx env' s | none => RS.no) h fun m1 H1 env d v s1 r1 E1 p1 g1 => by
    cases q : g d env with
    | none => simp only [q] at g1; exact g1.elim
    | some env' =>
      simp only [q] at g1
      exact ⟨m1, env, s1, d, env', r1, E1, p1, q, fun σ' E' _ _ => g1 m1 σ' H1 .refl r1 E'⟩
theorem cs_expr (he : PE X e (Te X.K X.mg W fe)) (hs : swapsWith e none pos.line X.env = pure false := by rfl) : PS X (.Expr e pos) (Ts X.K X.mg W (sExpr fe)) := PS.imp (ps_expr he hs) fun Dn σ H h =>
  Ts.ofE (k := fun env _ s => RS.nx env s) h fun m1 H1 env d v s1 r1 E1 p1 g1 => g1 m1 σ H1 .refl r1 E1
theorem cs_ret (he : PE X e (Te X.K X.mg W fe)) : PS X (.Return (some e) pos) (Ts X.K X.mg W (sRet fe)) := PS.imp (ps_ret he) fun Dn σ H h =>
  Ts.ofE (k := fun _ d s => RS.rt d s) h fun m1 H1 env d v s1 r1 E1 p1 g1 => g1 m1 H1 v .refl r1 p1
theorem cs_retN : PS X (.Return none pos) (Ts X.K X.mg W sRetN) := PS.imp ps_retN fun Dn σ H ⟨m, env, s, r, E, q⟩ => q m H _ .refl r .non
theorem cs_if (hc : PT X c (Tt X.K X.mg W gc)) (ha : PSs X body (Ts X.K X.mg W f)) (hb : PSs X els (Ts X.K X.mg W g)) : PS X (.If c body els pos) (Ts X.K X.mg W (sIf gc f g)) := PS.imp (ps_if hc ha hb) fun Dn σ H h =>
  Ts.ofE (k := fun env (b : Bool) s => if b then f env s else g env s) h fun m1 H1 env d v s1 r1 E1 p1 g1 => by
    cases (show d = v from p1)
    cases d with
    | true => exact iteT ⟨m1, env, s1, r1, E1, g1⟩
    | false => exact iteF ⟨m1, env, s1, r1, E1, g1⟩
def PutS (K : PySem.W.Frag) (t : TSet) (g : D → D → D → Store → Option Store) : Prop :=
  ∀ {m : List Addr} {H : Hp} {s s' : Store} {x y z : V} {dx dy dz : D} {Q : Hp → Prop}, Rel K m H s → Rep K m H dx x → Rep K m H dy y → Rep K m H dz z → g dx dy dz s = some s' → (∀ H', Le K m H m H' → Rel K m H' s' → Q H') → t x y z H Q
theorem cs_put {t : TSet} {g : D → D → D → Store → Option Store} (he : PE X e (Te X.K X.mg W fe)) (ho : PE X o (Te X.K X.mg W fo)) (hi : PE X i (Te X.K X.mg W fi)) (hs : PSet X t) (hp : PutS X.K t g)
    (ha : ∀ v, assign (.Subscript o i pos) X.env v = (do
      let ov ← holding [v] (eval o X.env)
      let iv ← holding [v, ov] (eval i X.env)
      standAt pos
      holding [v, ov, iv] (setItem ov iv v)
      release [v, ov, iv] []) := by intro _; rfl) {pos' : Pos} (hs1 : swapsWithSole [.Subscript o i pos] e pos'.line X.env = pure false := by rfl) (hw : swappedStores [.Subscript o i pos] e X.env = pure none := by rfl)
    (h1 : (assignEach [.Subscript o i pos] X.env).map (·.2) = [assign (.Subscript o i pos) X.env] := by rfl) : PS X (.Assign [.Subscript o i pos] e pos') (Ts X.K X.mg W (sPut g fo fi fe)) :=
  PS.imp (ps_asg he (pg_sub ho hi hs ha) hs1 hw h1) fun Dn σ H h =>
    Ts.ofE (k := fun env d s => (fo env s).then env fun x s => (fi env s).then env fun y s => match g x y d s with | some s' => RS.nx env s' | none => RS.no) h fun m1 H1 env d v s1 r1 E1 p1 g1 =>
      ⟨m1, env, s1, r1, E1, GS.ofE E1 g1 fun m2 H2 x vx s2 l2 r2 p2 g2 => ⟨m2, env, s2, r2, E1.mono l2, GS.ofE (E1.mono l2) g2 fun m3 H3 y vy s3 l3 r3 p3 g3 => by
        cases q : g x y d s3 with
        | none => simp only [q] at g3; exact g3.elim
        | some s' =>
          simp only [q] at g3
          exact hp r3 (p2.mono l3) p3 ((p1.mono l2).mono l3) q fun H' l' r' => g3 m3 σ H' l' r' (((E1.mono l2).mono l3).mono l')⟩⟩
def IpS (K : PySem.W.Frag) (t : TIp) (g : D → D → Store → Option (D × Store)) : Prop := OpS K t g
theorem cs_aug {j : Nat} {x : Str} {op : Operator} {ti : TIp} {g : D → D → Store → Option (D × Store)} {pos' : Pos} (hN : X.N.Nodup) (hi : X.N[j]? = some x) (hx : Loc X.env.scope x) (he : PE X e (Te X.K X.mg W fe)) (ho : PIp X op ti) (hp : OpS X.K ti g) (hf : X.fn x = true ∨ X.env.scope.names.lookup x = some .local := by first | exact .inl rfl | exact .inr rfl | assumption) :
    PS X (.AugAssign (.Name x pos') op e pos) (Ts X.K X.mg W (sAug j g fe)) := PS.imp (ps_aug (i := j) hN hi hx he ho hf) fun Dn σ H ⟨m, env, s, r, E, q⟩ => by
  unfold sAug at q
  cases q1 : env[j]? with
  | none => simp only [q1] at q; exact q.elim
  | some o1 =>
    cases o1 with
    | none => simp only [q1] at q; exact q.elim
    | some d =>
      simp only [q1] at q
      obtain ⟨v, h1, h2⟩ := E.2 j d q1
      refine ⟨v, h1, m, env, s, r, E, GS.ofE E q fun m1 H1 y vy s1 l1 r1 p1 g1 => ?_⟩
      refine hp (mg := X.mg) (W := W) (σ := σ) r1 (h2.mono l1) p1 ?_
      cases q2 : g d y s1 with
      | none => simp only [q2] at g1; exact g1.elim
      | some zs =>
        obtain ⟨z, s'⟩ := zs
        simp only [q2] at g1
        exact fun m' H' b l r p => g1 m' _ H' l r (relE_set ((E.mono l1).mono l) p j)
/-! #### loops -/
def ItR (K : PySem.W.Frag) (m : List Addr) (H : Hp) (it : Itm) (J : It) : Prop := ∀ m2 H2 s2, Le K m H m2 H2 → Rel K m2 H2 s2 → it.guard s2 →
  (∀ i d, it.xs[i]? = some d → J.go i H2 ∧ ∀ v H3, J.yld i H2 v H3 → Le K m2 H2 m2 H3 ∧ Rel K m2 H3 s2 ∧ Rep K m2 H3 d v) ∧ J.stop it.xs.length H2
abbrev Ti (K : PySem.W.Frag) (mg : Str → Option Value) (W : WX) (f : ME Itm) : TI := Tm K mg (ItR K) W f
theorem cs_for {fi : ME Itm} {vs : List Nat} {gt : D → Sl → Option Sl} (hp : PassesOwn (model X.prog X.w) X.A X.env X.xe) (hc : X.calm = true) (hi : PI X tg iter (Ti X.K X.mg W fi)) (hg : PG X tg (GTm X.K vs gt)) (hb : PSs X body (Ts X.K X.mg W f))
    (hs : ∀ x, foldedSetIterable iter X.env x = pure x := by intro _; rfl) : PS X (.For tg iter body [] pos) (Ts X.K X.mg W (sFor fi gt f)) :=
  PS.imp (ps_for hp hc hi hg hb hs) fun Dn σ H h => Ts.ofE (k := fun env (i : Itm) s => forL i.guard gt f i.xs env s) h fun m1 H1 env it J s1 r1 E1 p1 g1 => by
    refine ⟨fun i k σ H => k = it.xs.length - i ∧ i ≤ it.xs.length ∧ ∃ m2 env2 s2, Le X.K m1 H1 m2 H ∧ Rel X.K m2 H s2 ∧ RelE X.K m2 H env2 σ ∧ GS X.K X.mg W Dn m2 H (forL it.guard gt f (it.xs.drop i) env2 s2),
      ⟨it.xs.length, by simp, Nat.zero_le _, m1, env, s1, .refl, r1, E1, g1⟩, ?_⟩
    rintro i k σ2 H2 ⟨rfl, hi, m2, env2, s2, l2, r2, E2, g2⟩
    by_cases hlt : i < it.xs.length
    · have hx : it.xs[i]? = some it.xs[i] := by simp [hlt]
      have hd : it.xs.drop i = it.xs[i] :: it.xs.drop (i + 1) := List.drop_eq_getElem_cons hlt
      rw [hd] at g2
      unfold forL at g2
      by_cases hgd : it.guard s2
      · simp only [hgd, if_true] at g2
        obtain ⟨hall, _⟩ := p1 m2 H2 s2 l2 r2 hgd
        obtain ⟨hgo, hy⟩ := hall i _ hx
        refine .inr ⟨hgo, fun σ' H' => ∃ m3 env3 s3, Le X.K m1 H1 m3 H' ∧ Rel X.K m3 H' s3 ∧ RelE X.K m3 H' env3 σ' ∧ GS X.K X.mg W Dn m3 H' (forL it.guard gt f (it.xs.drop (i + 1)) env3 s3),
          fun σ' H' ⟨m3, env3, s3, l3, r3, E3, g3⟩ => ⟨it.xs.length - (i + 1), by omega, rfl, hlt, m3, env3, s3, l3, r3, E3, g3⟩, fun v H3 y => ?_⟩
        obtain ⟨l3, r3, p3⟩ := hy v H3 y
        cases q : gt it.xs[i] env2 with
        | none => simp only [q] at g2; exact g2.elim
        | some env3 =>
          simp only [q] at g2
          refine ⟨m2, env2, s2, it.xs[i], env3, r3, E2.mono l3, p3, q, fun σ4 E4 _ _ => ⟨m2, env3, s2, r3, E4, ?_⟩⟩
          have g3 := GS.mono l3 g2
          have l4 := l2.trans l3
          cases hb2 : f env3 s2 with
          | nx env5 s5 => rw [hb2] at g3; exact fun m' σ' H' l r E => ⟨m', env5, s5, l4.trans l, r, E, GS.mono l g3⟩
          | ct env5 s5 => rw [hb2] at g3; exact fun m' σ' H' l r E => ⟨m', env5, s5, l4.trans l, r, E, GS.mono l g3⟩
          | bk env5 s5 => rw [hb2] at g3; exact g3
          | rt d s5 => rw [hb2] at g3; exact g3
          | ex x env5 s5 => rw [hb2] at g3; exact g3
          | no => rw [hb2] at g3; exact g3
      · simp only [hgd, if_false] at g2
        exact g2.elim
    · have e : i = it.xs.length := by omega
      subst e
      rw [List.drop_length] at g2
      unfold forL at g2
      by_cases hgd : it.guard s2
      · simp only [hgd, if_true] at g2
        exact .inl ⟨(p1 m2 H2 s2 l2 r2 hgd).2, g2 m2 σ2 H2 .refl r2 E2⟩
      · simp only [hgd, if_false] at g2
        exact g2.elim
theorem cs_while (hp : PassesOwn (model X.prog X.w) X.A X.env X.xe) (hc : PT X c (Tt X.K X.mg W gc)) (hb : PSs X body (Ts X.K X.mg W f)) : PS X (.While c body [] pos) (Ts X.K X.mg W (sWhile gc f)) :=
  PS.imp (ps_while hp hc hb) fun Dn σ H ⟨m, env, s, r, E, g⟩ => by
    unfold sWhile at g
    split at g
    · rename_i hx
      refine ⟨fun n σ H => ∃ m2 env2 s2, Rel X.K m2 H s2 ∧ RelE X.K m2 H env2 σ ∧ GS X.K X.mg W Dn m2 H (whileN gc f n env2 s2), ⟨_, m, env, s, r, E, g⟩, ?_⟩
      rintro n σ1 H1 ⟨m1, env1, s1, r1, E1, g1⟩
      cases n with
      | zero => exact g1.elim
      | succ n =>
        unfold whileN at g1
        refine ⟨m1, env1, s1, r1, E1, GS.ofE E1 g1 fun m2 H2 k kb s2 l2 r2 p2 g2 => ?_⟩
        cases (show k = kb from p2)
        cases k with
        | false => exact iteF (g2 m2 σ1 H2 .refl r2 (E1.mono l2))
        | true =>
          refine iteT ⟨fun σ' H' => ∃ m3 env3 s3, Rel X.K m3 H' s3 ∧ RelE X.K m3 H' env3 σ' ∧ GS X.K X.mg W Dn m3 H' (whileN gc f n env3 s3), fun σ' H' q => ⟨n, Nat.lt_succ_self n, q⟩, m2, env1, s2, r2, E1.mono l2, ?_⟩
          simp only [if_true] at g2
          cases hb2 : f env1 s2 with
          | nx env5 s5 => rw [hb2] at g2; exact fun m' σ' H' l r E => ⟨m', env5, s5, r, E, GS.mono l g2⟩
          | ct env5 s5 => rw [hb2] at g2; exact fun m' σ' H' l r E => ⟨m', env5, s5, r, E, GS.mono l g2⟩
          | bk env5 s5 => rw [hb2] at g2; exact g2
          | rt d s5 => rw [hb2] at g2; exact g2
          | ex x env5 s5 => rw [hb2] at g2; exact g2
          | no => rw [hb2] at g2; exact g2
    · exact g.elim
end
/-! #### what a loop walks -/
def always : Store → Prop := fun _ => True
/-- a list, a tuple, a text -/
def iSeq (a : ME D) : ME Itm := fun env s => (a env s).bind fun x s => match x with
  | .tup xs => .ok (Itm.mk (xs) (always)) s
  | .fl xs => .ok (Itm.mk (xs) (always)) s
  | .str z => .ok (Itm.mk (z.cps.toList.map fun c => .str ⟨#[c]⟩) (always)) s
  | .loc l => match s[l]? with
    | some (.lst xs) => .ok (Itm.mk (xs) (fun s2 => s2[l]? = some (.lst xs))) s
    | _ => .no
  | _ => .no
/-- a bound of a range -/
def InR (j : Int) : Prop := -(2 ^ 62) ≤ j ∧ j < 2 ^ 62
noncomputable instance (j : Int) : Decidable (InR j) := Classical.propDecidable _
noncomputable def iRange1 (a : ME (List D)) : ME Itm := fun env s => (a env s).bind fun x s => match x with
  | [.int j] => if InR j then .ok (Itm.mk ((List.range j.toNat).map fun i => .int ((0 : Int) + (i : Nat))) (always)) s else .no
  | _ => .no
noncomputable def iRange2 (a : ME (List D)) : ME Itm := fun env s => (a env s).bind fun x s => match x with
  | [.int i, .int j] => if InR i ∧ InR j then .ok (Itm.mk ((List.range (j - i).toNat).map fun k => .int (i + (k : Nat))) (always)) s else .no
  | _ => .no
section
variable {K : PySem.W.Frag} {m : List Addr} {H : Hp}
theorem itr_list {l : Nat} {xs : List D} {a : Addr} (h : m[l]? = some a) : ItR K m H ⟨xs, fun s2 => s2[l]? = some (.lst xs)⟩ (Itl K a) := fun m2 H2 s2 l2 r2 g => by
  have g' : s2[l]? = some (.lst xs) := g
  obtain ⟨vs, h1, h2⟩ := r2.list (l2.get h) g'
  have hq : SqL K H2 a vs := .inl (.inl h1)
  refine ⟨fun i d e => ?_, ⟨vs, hq, by rw [← h2.length]; exact Nat.le_refl _⟩⟩
  obtain ⟨v, hv, rv⟩ := h2.get e
  refine ⟨⟨vs, v, hq, hv⟩, fun w H3 y => ?_⟩
  obtain ⟨rfl, y⟩ := y
  have e2 := y vs hq
  rw [hv] at e2; cases e2
  exact ⟨.refl, r2, rv⟩
theorem itr_fl {xs : List D} {vs : List V} {a : Addr} (h : FrL K H a vs) (p : Reps K m H xs vs) : ItR K m H ⟨xs, always⟩ (Itl K a) := fun m2 H2 s2 l2 r2 g => by
  have hq : SqL K H2 a vs := (l2.frl a vs h).sq
  have h2 := p.mono l2
  refine ⟨fun i d e => ?_, ⟨vs, hq, by rw [← h2.length]; exact Nat.le_refl _⟩⟩
  obtain ⟨v, hv, rv⟩ := h2.get e
  refine ⟨⟨vs, v, hq, hv⟩, fun w H3 y => ?_⟩
  obtain ⟨rfl, y⟩ := y
  have e2 := y vs hq
  rw [hv] at e2; cases e2
  exact ⟨.refl, r2, rv⟩
theorem itr_tup {xs : List D} {vs : List V} {a : Addr} (h : SqT K H a vs) (p : Reps K m H xs vs) : ItR K m H ⟨xs, always⟩ (Itt K a) := fun m2 H2 s2 l2 r2 g => by
  have hq : SqT K H2 a vs := l2.tup a vs h
  have h2 := p.mono l2
  refine ⟨fun i d e => ?_, ⟨vs, hq, by rw [← h2.length]; exact Nat.le_refl _⟩⟩
  obtain ⟨v, hv, rv⟩ := h2.get e
  refine ⟨⟨vs, v, hq, hv⟩, fun w H3 y => ?_⟩
  obtain ⟨rfl, y⟩ := y
  have e2 := y vs hq
  rw [hv] at e2; cases e2
  exact ⟨.refl, r2, rv⟩
theorem itr_str {z : Str} : ItR K m H ⟨z.cps.toList.map fun c => .str ⟨#[c]⟩, always⟩ (Its z) := fun m2 H2 s2 l2 r2 g => by
  have w := walk_str (z := z)
  refine ⟨fun i d e => ?_, by
    have q := w.stops H2 trivial
    show (Its z).stop (List.map _ z.cps.toList).length H2
    rw [List.length_map, Array.length_toList]
    exact q⟩
  rw [List.getElem?_map, Array.getElem?_toList] at e
  cases hc : z.cps[i]? with
  | none => rw [hc] at e; cases e
  | some c =>
    rw [hc] at e; cases e
    have hi : i < z.cps.size := (Array.getElem?_eq_some_iff.mp hc).1
    refine ⟨w.goes i H2 hi trivial, fun v H3 y => ?_⟩
    obtain ⟨rfl, c', h1, rfl⟩ := w.yields i H2 v H3 hi trivial y
    rw [hc] at h1; cases h1
    exact ⟨.refl, r2, .str _⟩
theorem itr_range {lo : Int} {n : Nat} : ItR K m H ⟨(List.range n).map fun (i : Nat) => .int (lo + (i : Int)), always⟩ (Itr lo n) := fun m2 H2 s2 l2 r2 g => by
  refine ⟨fun i d e => ?_, by show n ≤ (List.map _ (List.range n)).length; simp⟩
  rw [List.getElem?_map] at e
  by_cases hi : i < n
  · rw [List.getElem?_range hi] at e
    cases e
    refine ⟨hi, fun v H3 y => ?_⟩
    obtain ⟨rfl, rfl⟩ := y
    exact ⟨.refl, r2, .int _⟩
  · rw [List.getElem?_eq_none (by simpa using hi)] at e; cases e
end
section
variable {X : Cx} {W : WX} {tg e a b : Expr} {p pos : Pos} {fe : ME D} {fs : ME (List D)}
theorem PI.imp {e : Expr} {t t' : TI} (h : PI X tg e t) (i : ∀ σ H Q, t' σ H Q → t σ H Q) : PI X tg e t' := ⟨fun pins s σ H Q I q => h.run pins s σ H Q I (i σ H Q q)⟩
def iAny (K : PySem.W.Frag) (tl : TE) : TI := fun σ H R => tl σ H fun x H1 => (∃ a, x = .ref a ∧ ((∃ xs, SqL K H1 a xs) ∧ R (Itl K a) H1 ∨ (∃ xs, SqT K H1 a xs) ∧ R (Itt K a) H1)) ∨ ∃ z, x = .str z ∧ R (Its z) H1
theorem pi_any {tl : TE} (hl : PE X e tl) : PI X tg e (iAny X.K tl) := by
  refine ⟨fun pins s σ H R I h => ?_⟩
  refine thn (hl.run pins s σ H _ I h) fun v s1 ⟨x, H1, I1, r1, q1⟩ => ?_
  rcases q1 with ⟨a, rfl, ⟨⟨xs, hq⟩, q⟩ | ⟨⟨xs, hq⟩, q⟩⟩ | ⟨z, rfl, q⟩
  · cases r1
    obtain ⟨its, rv, p, hz⟩ := I1.list hq
    refine wpAny_pyIter_list p.isList ?_
    refine ⟨s1.heap.objs.size, [s1.heap.objs.size], _, _, H1, rfl, I1.kept (t' := s1.toks) fun b o e => Heap.get?_push_of_some _ e, turn_list a _, ⟨_, Heap.get?_push_size _ rfl, rfl, rfl⟩, fun b hb => ?_, q⟩
    have e : b = s1.heap.objs.size := by simpa using hb
    subst e
    exact I1.fpOk (Nat.le_refl _) (I1.hok.fresh (Nat.le_refl _))
  · cases r1
    obtain ⟨its, rv, p, hz⟩ := I1.tuple hq
    refine wpAny_pyIter_tuple (show s1.heap.IsTuple a its.toArray from p) ?_
    refine ⟨s1.heap.objs.size, [s1.heap.objs.size], _, _, H1, rfl, I1.kept (t' := s1.toks) fun b o e => Heap.get?_push_of_some _ e, turn_tuple a _, ⟨_, Heap.get?_push_size _ rfl, rfl, rfl⟩, fun b hb => ?_, q⟩
    have e : b = s1.heap.objs.size := by simpa using hb
    subst e
    exact I1.fpOk (Nat.le_refl _) (I1.hok.fresh (Nat.le_refl _))
  · obtain ⟨t, rfl⟩ := r1
    cases ha : z.cps.all (· < 128)
    · exact wpAny_pyIter_wide ha (pi_one (tk := s1.toks) I1 _ (turn_str _ z t "str_iterator" (.inr rfl)) ⟨_, Heap.get?_push_size _ rfl, rfl, rfl⟩ q)
    · exact wpAny_pyIter_ascii ha (pi_one (tk := s1.toks) I1 _ (turn_str _ z t "str_ascii_iterator" (.inl rfl)) ⟨_, Heap.get?_push_size _ rfl, rfl, rfl⟩ q)
theorem ci_seq (he : PE X e (Te X.K X.mg W fe)) : PI X tg e (Ti X.K X.mg W (iSeq fe)) := PI.imp (pi_any he) fun σ H Rw h =>
  Tm.bind (k := fun _ x s => match x with
  | .tup xs => R.ok (Itm.mk (xs) (always)) s
  | .fl xs => R.ok (Itm.mk (xs) (always)) s
  | .str z => R.ok (Itm.mk (z.cps.toList.map fun c => .str ⟨#[c]⟩) (always)) s
  | .loc l => match s[l]? with
    | some (.lst xs) => R.ok (Itm.mk (xs) (fun s2 => s2[l]? = some (.lst xs))) s
    | _ => R.no
  | _ => R.no) h fun m1 H1 env x v s1 r1 E1 p1 g1 => by
    cases x with
    | tup xs =>
      obtain ⟨a, vs, rfl, hq, rr⟩ := p1.sqT
      exact .inl ⟨a, rfl, .inr ⟨⟨vs, hq⟩, g1 m1 H1 _ .refl r1 (itr_tup hq rr)⟩⟩
    | fl xs =>
      cases p1 with
      | fl hq rr => exact .inl ⟨_, rfl, .inl ⟨⟨_, hq.sq⟩, g1 m1 H1 _ .refl r1 (itr_fl hq rr)⟩⟩
    | str z => cases p1; exact .inr ⟨z, rfl, g1 m1 H1 _ .refl r1 itr_str⟩
    | loc l =>
      cases p1 with
      | loc hl =>
        cases q : s1[l]? with
        | none => simp only [q] at g1; exact g1.elim
        | some c =>
          cases c with
          | dic _ => simp only [q] at g1; exact g1.elim
          | lst xs =>
            simp only [q] at g1
            obtain ⟨vs, h1, h2⟩ := r1.list hl q
            exact .inl ⟨_, rfl, .inl ⟨⟨vs, .inl (.inl h1)⟩, g1 m1 H1 _ .refl r1 (itr_list hl)⟩⟩
    | _ => exact g1.elim
theorem ci_range1 (hg : Gl X "range") (hm : X.mg "range" = none) (ha : PA X [a] (Ta X.K X.mg W fs)) (hs : starEach [a] X.env = [(false, eval a X.env)] := by rfl) : PI X tg (.Call (.Name "range" p) [a] [] pos) (Ti X.K X.mg W (iRange1 fs)) :=
  PI.imp (pi_range1 hg hm ha hs) fun σ H Rw h => Tm.bind (k := fun _ x s => match x with
  | [.int j] => if InR j then R.ok (Itm.mk ((List.range j.toNat).map fun i => .int ((0 : Int) + (i : Nat))) (always)) s else R.no
  | _ => R.no) h fun m1 H1 env x v s1 r1 E1 p1 g1 => by
    match x, p1, g1 with
    | [.int j], p1, g1 =>
      obtain ⟨v, rfl, h⟩ := reps1 p1
      cases h
      by_cases hj : InR j
      · simp only [hj, if_true] at g1
        exact ⟨j, rfl, hj.1, hj.2, g1 m1 H1 _ .refl r1 itr_range⟩
      · simp only [hj, if_false] at g1
        exact g1.elim
    | [], _, g1 => exact g1.elim
    | [.non], _, g1 => exact g1.elim
    | [.bl _], _, g1 => exact g1.elim
    | [.str _], _, g1 => exact g1.elim
    | [.tup _], _, g1 => exact g1.elim
    | [.fl _], _, g1 => exact g1.elim
    | [.loc _], _, g1 => exact g1.elim
    | [.exv _ _], _, g1 => exact g1.elim
    | .non :: _ :: _, _, g1 => exact g1.elim
    | .bl _ :: _ :: _, _, g1 => exact g1.elim
    | .int _ :: _ :: _, _, g1 => exact g1.elim
    | .str _ :: _ :: _, _, g1 => exact g1.elim
    | .tup _ :: _ :: _, _, g1 => exact g1.elim
    | .fl _ :: _ :: _, _, g1 => exact g1.elim
    | .loc _ :: _ :: _, _, g1 => exact g1.elim
    | .exv _ _ :: _ :: _, _, g1 => exact g1.elim
theorem ci_range2 (hg : Gl X "range") (hm : X.mg "range" = none) (ha : PA X [a, b] (Ta X.K X.mg W fs)) (hs : starEach [a, b] X.env = [(false, eval a X.env), (false, eval b X.env)] := by rfl) (hs2 : starEach [b] X.env = [(false, eval b X.env)] := by rfl) :
    PI X tg (.Call (.Name "range" p) [a, b] [] pos) (Ti X.K X.mg W (iRange2 fs)) :=
  PI.imp (pi_range2 hg hm ha hs hs2) fun σ H Rw h => Tm.bind (k := fun _ x s => match x with
  | [.int i, .int j] => if InR i ∧ InR j then R.ok (Itm.mk ((List.range (j - i).toNat).map fun k => .int (i + (k : Nat))) (always)) s else R.no
  | _ => R.no) h fun m1 H1 env x v s1 r1 E1 p1 g1 => by
    split at g1
    · rename_i i j
      obtain ⟨v, w, rfl, h, h2⟩ := reps2 p1
      cases h; cases h2
      by_cases hj : InR i ∧ InR j
      · simp only [hj, and_self, if_true] at g1
        exact ⟨i, j, rfl, ⟨hj.1.1, hj.1.2, hj.2.1, hj.2.2⟩, g1 m1 H1 _ .refl r1 itr_range⟩
      · simp only [hj, if_false] at g1
        exact g1.elim
    · exact g1.elim
end
/-- o[i] = e of a list -/
def pList (x y z : D) (s : Store) : Option Store := match x, y with
  | .loc l, .int i => match s[l]? with
    | some (.lst xs) => (ixN xs.length i).map fun j => s.set l (.lst (xs.set j z))
    | _ => none
  | _, _ => none
theorem puts_list {K : PySem.W.Frag} : PutS K rSetL pList := by
  intro m H s s' x y z dx dy dz Q r px py pz e q
  unfold pList at e
  split at e
  · rename_i l i
    cases px with
    | loc hl =>
      cases py
      split at e
      · rename_i xs q1
        cases q2 : ixN xs.length i with
        | none => rw [q2] at e; cases e
        | some j =>
          rw [q2] at e
          cases e
          obtain ⟨vs, h1, h2⟩ := r.list hl q1
          obtain ⟨le, r2⟩ := le_setlist r hl (h2.set pz j)
          exact ⟨_, vs, i, j, rfl, rfl, h1, by rw [← h2.length]; exact q2, q _ le r2⟩
      · cases e
  · cases e
end Mi
namespace Mi
open PySem PySem.Spec PyProof.Rows L2
/-! ### list comprehensions -/
/-- a list that is being made is no cell yet: what a value's standing needs -/
structure Lw (K : PySem.W.Frag) (m : List Addr) (H : Hp) (m' : List Addr) (H' : Hp) : Prop where
  pre : ∃ r, m' = m ++ r
  tup : ∀ a xs, SqT K H a xs → SqT K H' a xs
  frl : ∀ a xs, FrL K H a xs → FrL K H' a xs
section
variable {K : PySem.W.Frag} {mg : Str → Option Value} {m m1 m2 : List Addr} {H H1 H2 : Hp} {s : Store} {p : Addr}
theorem Le.w (e : Le K m H m1 H1) : Lw K m H m1 H1 := ⟨e.pre, e.tup, e.frl⟩
theorem Lw.get (e : Lw K m H m1 H1) {l : Nat} {a : Addr} (h : m[l]? = some a) : m1[l]? = some a := by
  obtain ⟨r, rfl⟩ := e.pre
  rw [List.getElem?_append_left (by
    rcases Nat.lt_or_ge l m.length with q | q
    · exact q
    · rw [List.getElem?_eq_none q] at h; cases h)]
  exact h
mutual
theorem Rep.monoW (e : Lw K m H m1 H1) : ∀ {d : D} {v : V}, Rep K m H d v → Rep K m1 H1 d v
  | _, _, .non => .non
  | _, _, .bl b => .bl b
  | _, _, .int i => .int i
  | _, _, .str x => .str x
  | _, _, .tup h r => .tup (e.tup _ _ h) (Reps.monoW e r)
  | _, _, .fl h r => .fl (e.frl _ _ h) (Reps.monoW e r)
  | _, _, .loc h => .loc (e.get h)
  | _, _, .exv a => .exv a
theorem Reps.monoW (e : Lw K m H m1 H1) : ∀ {ds : List D} {vs : List V}, Reps K m H ds vs → Reps K m1 H1 ds vs
  | _, _, .nil => .nil
  | _, _, .cons h r => .cons (Rep.monoW e h) (Reps.monoW e r)
end
theorem RepK.monoW (e : Lw K m H m1 H1) : ∀ {ds : List (Key × D)} {vs : List (Key × V)}, RepK K m H ds vs → RepK K m1 H1 ds vs
  | _, _, .nil => .nil
  | _, _, .cons h r => .cons (h.monoW e) (RepK.monoW e r)
theorem RelE.monoW (e : Lw K m H m1 H1) {env : Sl} {σ : L2.St} (h : RelE K m H env σ) : RelE K m1 H1 env σ :=
  ⟨h.1, fun i d q => let ⟨v, h1, h2⟩ := h.2 i d q; ⟨v, h1, h2.monoW e⟩⟩
theorem CellR.monoW {c : Cell} {a : Addr} (e : Lw K m H m1 H1) (hs : H1 a = H a) (h : CellR K m H a c) : CellR K m1 H1 a c := by
  cases c with
  | lst xs => obtain ⟨vs, h1, h2⟩ := h; exact ⟨vs, hs.trans h1, h2.monoW e⟩
  | dic kvs => obtain ⟨ws, h1, h2⟩ := h; exact ⟨ws, hs.trans h1, h2.monoW e⟩
/-- a list of ours that is no cell is written -/
theorem lw_side {vs ws : List V} (h : H p = some (.lst vs)) : Lw K m H m (upd H p (HO.lst ws)) :=
  ⟨⟨[], by simp⟩, fun b xs q => by
    rcases q with (q | ⟨ob, q⟩) | q
    · exact .inl (.inl (by rw [upd_ne (fun z => by subst z; rw [h] at q; cases q)]; exact q))
    · exact .inl (.inr ⟨ob, by rw [upd_ne (fun z => by subst z; rw [h] at q; cases q)]; exact q⟩)
    · exact .inr q, fun b xs q => by
    rcases q with ⟨ob, q⟩ | q
    · exact .inl ⟨ob, by rw [upd_ne (fun z => by subst z; rw [h] at q; cases q)]; exact q⟩
    · exact .inr q⟩
theorem Rel.side (r : Rel K m H s) {vs ws : List V} (h : H p = some (.lst vs)) (n : p ∉ m) : Rel K m (upd H p (HO.lst ws)) s :=
  ⟨r.len, r.nd, fun l a c h1 h2 => (r.at_ l a c h1 h2).monoW (lw_side h) (upd_ne fun z => by subst z; exact n (List.mem_of_getElem? h1))⟩
theorem Le.side (e : Le K m H m1 H1) {vs ws : List V} (h0 : H p = none) (h : H1 p = some (.lst vs)) : Le K m H m1 (upd H1 p (HO.lst ws)) :=
  ⟨e.pre, fun a xs q => (lw_side (m := m1) h).tup a xs (e.tup a xs q), fun a xs q => (lw_side (m := m1) h).frl a xs (e.frl a xs q), fun b o q n => by
    rw [upd_ne (fun z => by subst z; rw [h0] at q; cases q)]; exact e.fr b o q n, e.nw⟩
theorem lw_adopt : Lw K m H (m ++ [p]) H := ⟨⟨[p], rfl⟩, fun _ _ q => q, fun _ _ q => q⟩
theorem Rel.adopt (r : Rel K m H s) {xs : List D} {vs : List V} (n : p ∉ m) (h : H p = some (.lst vs)) (q : Reps K m H xs vs) : Rel K (m ++ [p]) H (s ++ [Cell.lst xs]) := by
  refine ⟨by simp [r.len], ?_, fun j b d h1 h2 => ?_⟩
  · rw [List.nodup_append]
    exact ⟨r.nd, by simp, fun x hx y hy => by rw [List.mem_singleton.mp hy]; exact fun z => n (z ▸ hx)⟩
  · rcases Nat.lt_or_ge j m.length with w | w
    · rw [List.getElem?_append_left w] at h1
      rw [List.getElem?_append_left (by rw [← r.len]; exact w)] at h2
      exact (r.at_ j b d h1 h2).monoW lw_adopt rfl
    · rw [List.getElem?_append_right w] at h1
      rw [List.getElem?_append_right (by rw [← r.len]; exact w), ← r.len] at h2
      cases hk : j - m.length with
      | zero =>
        rw [hk] at h1 h2
        simp at h1 h2
        subst h1; subst h2
        exact ⟨vs, h, q.monoW lw_adopt⟩
      | succ n => rw [hk] at h1; simp at h1
theorem Le.adopt (e : Le K m H m1 H1) (h0 : H p = none) : Le K m H (m1 ++ [p]) H1 := by
  refine ⟨?_, e.tup, e.frl, e.fr, fun b h => ?_⟩
  · obtain ⟨r, rfl⟩ := e.pre
    exact ⟨r ++ [p], by simp⟩
  · rcases List.mem_append.mp h with q | q
    · exact e.nw b q
    · rw [List.mem_singleton.mp q]; exact .inr h0
end
def wipeE (env : Sl) : List Nat → Sl
  | [] => env
  | v :: vs => (wipeE env vs).set v none
theorem wipeE_length (env : Sl) : ∀ vs : List Nat, (wipeE env vs).length = env.length
  | [] => rfl
  | v :: vs => by unfold wipeE; rw [List.length_set, wipeE_length env vs]
theorem wipeE_some {env : Sl} {i : Nat} {x : D} : ∀ {vs : List Nat}, (wipeE env vs)[i]? = some (some x) → env[i]? = some (some x) ∧ i ∉ vs
  | [], h => ⟨h, by simp⟩
  | v :: vs, h => by
    unfold wipeE at h
    by_cases hi : v = i
    · subst hi
      by_cases hv : v < (wipeE env vs).length
      · rw [List.getElem?_set_self hv] at h; cases h
      · rw [List.getElem?_eq_none (by simpa using hv)] at h; cases h
    · rw [List.getElem?_set_ne hi] at h
      obtain ⟨h1, h2⟩ := wipeE_some h
      exact ⟨h1, by simp only [List.mem_cons, not_or]; exact ⟨fun e => hi e.symm, h2⟩⟩
theorem relE_wipe {K : PySem.W.Frag} {m : List Addr} {H : Hp} {env : Sl} {σ : L2.St} (E : RelE K m H env σ) (vs : List Nat) : RelE K m H (wipeE env vs) (wipe σ vs) := by
  refine ⟨by rw [wipeE_length, wipe_length]; exact E.1, fun i d h => ?_⟩
  obtain ⟨h1, h2⟩ := wipeE_some h
  obtain ⟨v, h3, h4⟩ := E.2 i d h1
  exact ⟨v, by rw [wipe_out h2]; exact h3, h4⟩
theorem wipe_in {σ : L2.St} {i : Nat} : ∀ {vs : List Nat}, i ∈ vs → i < σ.length → (wipe σ vs)[i]? = some none
  | v :: vs, h, hl => by
    unfold wipe
    by_cases hv : v = i
    · subst hv
      rw [List.getElem?_set_self (by rw [wipe_length]; exact hl)]
    · rw [List.getElem?_set_ne hv]
      exact wipe_in (by rcases List.mem_cons.mp h with e | e; exact absurd e.symm hv; exact e) hl
theorem wipe_congr {σ σ' : L2.St} {vs : List Nat} (hl : σ'.length = σ.length) (h : ∀ i, i ∉ vs → σ'[i]? = σ[i]?) : wipe σ' vs = wipe σ vs := by
  apply List.ext_getElem?
  intro i
  by_cases hi : i ∈ vs
  · by_cases hn : i < σ.length
    · rw [wipe_in hi (by rw [hl]; exact hn), wipe_in hi hn]
    · rw [List.getElem?_eq_none (by rw [wipe_length, hl]; omega), List.getElem?_eq_none (by rw [wipe_length]; omega)]
  · rw [wipe_out hi, wipe_out hi, h i hi]
theorem wipe_wipe (σ : L2.St) (vs : List Nat) : wipe (wipe σ vs) vs = wipe σ vs := wipe_congr (wipe_length σ vs) fun i hi => wipe_out hi
/-- nothing is raised within a comprehension -/
def noX {α : Type} : R α → R α
  | .ok a s => .ok a s
  | _ => .no
open Classical in
noncomputable def lcL (guard : Store → Prop) (g : D → Sl → Option Sl) (t : ME Bool) (e : ME D) (env : Sl) : List D → List D → Store → R (List D)
  | [], acc, s => if guard s then .ok acc s else .no
  | x :: xs, acc, s => if guard s then (match g x env with
    | none => .no
    | some env1 => match t env1 s with
      | .ok b s1 => if b then (match e env1 s1 with
        | .ok y s2 => if acc.length < sizeLine then lcL guard g t e env xs (acc ++ [y]) s2 else .no
        | _ => .no) else lcL guard g t e env xs acc s1
      | _ => .no) else .no
noncomputable def eLc (it : ME Itm) (vs : List Nat) (g : D → Sl → Option Sl) (t : ME Bool) (e : ME D) : ME D := fun env s => (it env s).bind fun i s => (lcL i.guard g t e (wipeE env vs) i.xs [] s).bind fun acc s => .ok (.loc s.length) (s ++ [.lst acc])
def tT : ME Bool := fun _ s => .ok true s
abbrev WF : WX := fun _ _ _ _ => False
section
variable {X : Cx} {W : WX}
theorem lc_run {fi : ME Itm} {vs : List Nat} {gt : D → Sl → Option Sl} {ft : ME Bool} {fe : ME D} : ∀ σ H Q, Te X.K X.mg W (eLc fi vs gt ft fe) σ H Q →
    tLc (Ti X.K X.mg W fi) (GTm X.K vs gt) (Tt X.K X.mg WF ft) (Te X.K X.mg WF fe) vs σ H Q := fun σ H Q h =>
  Tm.bind (k := fun env (i : Itm) s => (lcL i.guard gt ft fe (wipeE env vs) i.xs [] s).bind fun acc s => R.ok (D.loc s.length) (s ++ [Cell.lst acc])) h fun m1 H1 env it J s1 r1 E1 p1 g1 => by
    intro P hP
    refine ⟨fun i k H => k = it.xs.length - i ∧ i ≤ it.xs.length ∧ ∃ m2 s2 acc accV, Le X.K m1 H1 m2 H ∧ Rel X.K m2 H s2 ∧ H P = some (.lst accV) ∧ P ∉ m2 ∧ Reps X.K m2 H acc accV ∧
        G X.K X.mg (Rep X.K) W σ m1 H1 Q ((lcL it.guard gt ft fe (wipeE env vs) (it.xs.drop i) acc s2).bind fun acc s => R.ok (D.loc s.length) (s ++ [Cell.lst acc])),
      ⟨it.xs.length, by simp, Nat.zero_le _, m1, s1, [], [], le_new hP, r1.tmp hP, upd_same, r1.new_notin hP, .nil, g1⟩, ?_⟩
    rintro i k H2 ⟨rfl, hi, m2, s2, acc, accV, l2, r2, hD, nD, pA, g2⟩
    by_cases hlt : i < it.xs.length
    · have hx : it.xs[i]? = some it.xs[i] := by simp [hlt]
      have hd : it.xs.drop i = it.xs[i] :: it.xs.drop (i + 1) := List.drop_eq_getElem_cons hlt
      rw [hd] at g2
      unfold lcL at g2
      by_cases hgd : it.guard s2
      · simp only [hgd, if_true] at g2
        obtain ⟨hall, _⟩ := p1 m2 H2 s2 l2 r2 hgd
        obtain ⟨hgo, hy⟩ := hall i _ hx
        refine .inr ⟨hgo, fun H' => ∃ m2 s2 acc accV, Le X.K m1 H1 m2 H' ∧ Rel X.K m2 H' s2 ∧ H' P = some (.lst accV) ∧ P ∉ m2 ∧ Reps X.K m2 H' acc accV ∧
          G X.K X.mg (Rep X.K) W σ m1 H1 Q ((lcL it.guard gt ft fe (wipeE env vs) (it.xs.drop (i + 1)) acc s2).bind fun acc s => R.ok (D.loc s.length) (s ++ [Cell.lst acc])),
          fun H' q => ⟨it.xs.length - (i + 1), by omega, rfl, hlt, q⟩, fun v H3 y => ?_⟩
        obtain ⟨l3, r3, p3⟩ := hy v H3 y
        cases q : gt it.xs[i] (wipeE env vs) with
        | none => simp only [q] at g2; exact g2.elim
        | some env3 =>
          simp only [q] at g2
          have l13 := l2.trans l3
          have hD3 := l3.fr P _ hD nD
          refine ⟨m2, wipeE env vs, s2, it.xs[i], env3, r3, relE_wipe (E1.mono l13) vs, p3, q, fun σ4 E4 k4 n4 => ⟨by rw [wipe_congr n4 k4, wipe_wipe], m2, env3, s2, r3, E4, ?_⟩⟩
          cases ht : ft env3 s2 with
          | no => rw [ht] at g2; exact g2.elim
          | ex x s4 => rw [ht] at g2; exact g2.elim
          | ok b s4 =>
            simp only [ht] at g2
            intro m5 H5 b' l5 r5 eb
            cases (show b = b' from eb)
            have hD5 := l5.fr P _ hD3 nD
            have nD5 : P ∉ m5 := fun z => by
              rcases l5.nw P z with w | w
              · exact nD w
              · rw [hD3] at w; cases w
            have l15 := l13.trans l5
            cases b with
            | false =>
              refine iteF ⟨m5, s4, acc, accV, l15, r5, hD5, nD5, (pA.mono l3).mono l5, ?_⟩
              simpa using g2
            | true =>
              simp only [if_true] at g2
              refine iteT ⟨m5, env3, s4, r5, E4.mono l5, ?_⟩
              cases he : fe env3 s4 with
              | no => rw [he] at g2; exact g2.elim
              | ex x s6 => rw [he] at g2; exact g2.elim
              | ok y s6 =>
                simp only [he] at g2
                by_cases hz : acc.length < sizeLine
                · simp only [hz, if_true] at g2
                  intro m7 H7 yv l7 r7 p7
                  have hD7 := l7.fr P _ hD5 nD5
                  have nD7 : P ∉ m7 := fun z => by
                    rcases l7.nw P z with w | w
                    · exact nD5 w
                    · rw [hD5] at w; cases w
                  have pA7 := ((pA.mono l3).mono l5).mono l7
                  exact ⟨accV, hD7, by rw [← pA.length]; exact hz, m7, s6, acc ++ [y], accV ++ [yv], (l15.trans l7).side hP hD7, r7.side hD7 nD7, upd_same, nD7,
                    (pA7.monoW (lw_side hD7)).append (.cons (p7.monoW (lw_side hD7)) .nil), g2⟩
                · simp only [hz, if_false] at g2
                  exact g2.elim
      · simp only [hgd, if_false] at g2
        exact g2.elim
    · have e : i = it.xs.length := by omega
      subst e
      rw [List.drop_length] at g2
      unfold lcL at g2
      by_cases hgd : it.guard s2
      · simp only [hgd, if_true] at g2
        refine .inl ⟨(p1 m2 H2 s2 l2 r2 hgd).2, ?_⟩
        exact g2 (m2 ++ [P]) H2 (.ref P) (l2.adopt hP) (r2.adopt nD hD pA) (.loc (len_get r2))
      · simp only [hgd, if_false] at g2
        exact g2.elim
variable {elt tg iter c : Expr} {ifs : List Expr} {scope : Scope} {own : List (Str × Nat)} {pos : Pos} {fi : ME Itm} {gt : D → Sl → Option Sl} {ft : ME Bool} {fe : ME D}
theorem cts_nil : PTs X [] (Tt X.K X.mg W tT) := ⟨fun pins s σ H Q I ⟨m, env, st, r, E, g⟩ => pts_nil.run pins s σ H Q I (g.nowB r)⟩
theorem cts_one (h : PT X c (Tt X.K X.mg W ft)) : PTs X [c] (Tt X.K X.mg W ft) := pts_one h
theorem ce_lc (hc : X.calm = true) (hN : X.N.Nodup) (hi : PI X tg iter (Ti X.K X.mg W fi)) (ok : BlkOk X.N X.env.scope scope own)
    (hg : ∀ (s : Shared) (H : Hp) (C : Addr) (cl : List (Str × Addr)) (fp : List Addr), PG (X.blk s H scope (compEnvC scope cl C X.env) fp) tg (GTm X.K (own.map (·.2)) gt)) (ht : ∀ (s : Shared) (H : Hp) (C : Addr) (cl : List (Str × Addr)) (fp : List Addr), PTs (X.blk s H scope (compEnvC scope cl C X.env) fp) ifs (Tt X.K X.mg WF ft))
    (he : ∀ (s : Shared) (H : Hp) (C : Addr) (cl : List (Str × Addr)) (fp : List Addr), PE (X.blk s H scope (compEnvC scope cl C X.env) fp) elt (Te X.K X.mg WF fe)) (hs : ∀ x, foldedSetIterable iter X.env x = pure x := by intro _; rfl) :
    PE X (.ListComp elt [⟨tg, iter, ifs, 0⟩] scope pos) (Te X.K X.mg W (eLc fi (own.map (·.2)) gt ft fe)) := PE.imp (pe_lc hc hN hi ok hg ht he hs) lc_run
theorem cs_setLc {i : Nat} {y : Str} {py spos : Pos} (hc : X.calm = true) (hN : X.N.Nodup) (hy : X.N[i]? = some y) (hyl : X.env.scope.names.lookup y = some .local)
    (hsw : swapsWith (.ListComp elt [⟨tg, iter, ifs, 0⟩] scope pos) (some (.Name y py)) spos.line X.env = pure true) (hi : PI X tg iter (Ti X.K X.mg W fi)) (ok : BlkOk X.N X.env.scope scope own)
    (hg : ∀ (s : Shared) (H : Hp) (C : Addr) (cl : List (Str × Addr)) (fp : List Addr), PG (X.blk s H scope (compEnvC scope cl C X.env) fp) tg (GTm X.K (own.map (·.2)) gt)) (ht : ∀ (s : Shared) (H : Hp) (C : Addr) (cl : List (Str × Addr)) (fp : List Addr), PTs (X.blk s H scope (compEnvC scope cl C X.env) fp) ifs (Tt X.K X.mg WF ft))
    (he : ∀ (s : Shared) (H : Hp) (C : Addr) (cl : List (Str × Addr)) (fp : List Addr), PE (X.blk s H scope (compEnvC scope cl C X.env) fp) elt (Te X.K X.mg WF fe)) (hs : ∀ x, foldedSetIterable iter X.env x = pure x := by intro _; rfl) :
    PS X (.Assign [.Name y py] (.ListComp elt [⟨tg, iter, ifs, 0⟩] scope pos) spos) (Ts X.K X.mg W (sSet i (eLc fi (own.map (·.2)) gt ft fe))) := PS.imp (ps_setLc (i := i) hc hN hy hyl hsw hi ok hg ht he hs) fun Dn σ H h =>
  lc_run σ H _ (Ts.ofE (k := fun env d s => RS.nx (env.set i (some d)) s) h fun m1 H1 env d v s1 r1 E1 p1 g1 => g1 m1 _ H1 .refl r1 (relE_set E1 p1 i))
end
/-! ### a def -/
/-- the mirror of a def: N names, n of them parameters -/
def fnM (N n : Nat) (b : MS) : List D → Store → R D := fun ds s => match b (ds.map some ++ List.replicate (N - n) none) s with
  | .rt d s => .ok d s
  | .nx _ s => .ok .non s
  | .ex e _ s => .ex e s
  | _ => .no
theorem relE_start {K : PySem.W.Frag} {m : List Addr} {H : Hp} {N : List Str} {ds : List D} {vs : List V} (p : Reps K m H ds vs) : RelE K m H (ds.map some ++ List.replicate (N.length - ds.length) none) (L2.start N vs) := by
  have hl := p.length
  refine ⟨by simp [L2.start, hl], fun i d h => ?_⟩
  by_cases hi : i < ds.length
  · rw [List.getElem?_append_left (by simpa using hi), List.getElem?_map] at h
    cases q : ds[i]? with
    | none => rw [q] at h; cases h
    | some d' =>
      rw [q] at h; cases h
      obtain ⟨v, h1, h2⟩ := p.get q
      refine ⟨v, ?_, h2⟩
      unfold L2.start
      rw [List.getElem?_append_left (by simpa using (hl ▸ hi)), List.getElem?_map, h1]
      rfl
  · rw [List.getElem?_append_right (by simpa using Nat.le_of_not_lt hi), List.getElem?_replicate] at h
    split at h <;> cases h
theorem okM {P : Program} {w : World} {K : PySem.W.Frag} {mg : Str → Option Value} {base : Heap} {x qual : Str} {st : Stmt} {f : Addr} {fd : FuncData} {N ps : List Str} {k n : Nat} {b : MS} (F : Fun K x qual st f fd) (S : FnScope N ps (defScope st)) (hn : ps.length = n)
    (hb : ∀ (cdv : Value) (A : Around) (outer : List Env) (s : Shared) (H : Hp) (E : XK), Room k (A.deeper (envOfC qual (defScope st) s.heap.objs.size f cdv)) → Takes (cxOf (L2.CX P w) P w K mg base N qual (defScope st) f cdv A outer s H E) (fun c d _ H => E c d H) →
      PSs (cxOf (L2.CX P w) P w K mg base N qual (defScope st) f cdv A outer s H E) (defBody st) (Ts K mg (fun c d _ H => E c d H) b)) :
    FnOk P w K mg base (L2.CX P w) (k + 1) f fd ps (spM K mg n (fnM N.length n b)) := by
  refine F.okX S (fun vs H Q E h => by rw [hn]; exact h.1) fun cdv A outer s H vs Q E hr h => ⟨_, hb cdv A outer s H E hr (takes_of rfl rfl rfl rfl), ?_⟩
  obtain ⟨hl, m, s, ds, r, p, g⟩ := h
  refine ⟨m, _, s, r, relE_start (N := N) p, ?_⟩
  have hd : ds.length = n := by rw [p.length, hl]
  unfold fnM at g
  rw [hd]
  cases q : b (ds.map some ++ List.replicate (N.length - n) none) s with
  | nx env s1 => rw [q] at g; exact fun m' σ' H' l r' _ => g m' H' .non l r' .non
  | rt d s1 => rw [q] at g; exact g
  | ex e env s1 => rw [q] at g; exact fun m' σ' H' c dd l r' _ x => g m' H' c dd l r' x
  | bk env s1 => rw [q] at g; exact g.elim
  | ct env s1 => rw [q] at g; exact g.elim
  | no => rw [q] at g; exact g.elim
end Mi
namespace Mi
open PySem PySem.Spec PyProof.Rows L2
/-! ### the law's end -/
theorem an_nil : ∀ (xs : List D) (s : Store) (env : Sl) (s' : Store), aNil env s = .ok xs s' → xs.length = 0 := fun xs s env s' h => by cases h; rfl
theorem an_cons {a : ME D} {r : ME (List D)} {n : Nat} (h : ∀ (xs : List D) (s : Store) (env : Sl) (s' : Store), r env s = .ok xs s' → xs.length = n) :
    ∀ (xs : List D) (s : Store) (env : Sl) (s' : Store), aCons a r env s = .ok xs s' → xs.length = n + 1 := fun xs s env s' e => by
  unfold aCons at e
  cases q : a env s with
  | no => rw [q] at e; cases e
  | ex x s1 => rw [q] at e; cases e
  | ok x s1 =>
    rw [q] at e
    simp only [R.bind_ok] at e
    cases q2 : r env s1 with
    | no => rw [q2] at e; cases e
    | ex x s2 => rw [q2] at e; cases e
    | ok ys s2 =>
      rw [q2] at e
      simp only [R.bind_ok] at e
      have z := h ys s1 env s2 q2
      cases e
      rw [List.length_cons, z]
def dAddI : D → D → Store → Option (D × Store) := dI fun i j => some (.int (i + j))
theorem ips_add {K : PySem.W.Frag} : OpS K (ipI fun i j => i + j) dAddI := fun {mg W σ m H s x y dx dy Q} r px py g => ops_dI0 (K := K) (gv := fun i j => .int (i + j)) (fun _ _ _ _ => .int _) r px py g
theorem ips_sub {K : PySem.W.Frag} : OpS K (ipI fun i j => i - j) dSub := fun {mg W σ m H s x y dx dy Q} r px py g => ops_sub (K := K) r px py g
theorem cx_none {P : Program} {w : World} {l : List Env} {H : Hp} {s : Shared} {e : Value} {s' : Shared} (h : L2.CX P w l H s (fun _ _ _ => False) e s') : False := by
  obtain ⟨_, _, _, _, _, _, _, _, _, _, _, _, z⟩ := h
  exact z
def spLaw (K : PySem.W.Frag) : Sp := fun vs H Q _ => ∃ (a : Addr) (ns : List Int), vs = [.ref a] ∧ SqL K H a (ns.map V.int) ∧ ns.length ≤ 63 ∧ Only H ∧ ∀ H', Q (.bl true) H'
theorem law_imp {K : PySem.W.Frag} {mg : Str → Option Value} {g : List D → Store → R D} (h : ∀ ns : List Int, ns.length ≤ 63 → ∃ s, g [.fl (ns.map D.int)] [] = .ok (.bl true) s) :
    ∀ vs H Q E, spLaw K vs H Q E → spM K mg 1 g vs H Q E := fun vs H Q E ⟨a, ns, e, hS, hl, hO, q⟩ => by
  subst e
  refine ⟨rfl, [], [], [.fl (ns.map D.int)], ⟨rfl, List.nodup_nil, fun l a c h => by simp at h⟩, .cons (.fl (vs := ns.map V.int) ?_ (reps_ints ns)) .nil, ?_⟩
  · rcases hS with (hS | hS) | hS
    · rcases hO a with z | ⟨o, xs, z⟩
      · rw [hS] at z; cases z
      · rw [hS] at z; cases z
    · exact .inl hS
    · exact .inr hS
  · obtain ⟨s, e⟩ := h ns hl
    rw [e]
    intro m' H' v _ _ p
    cases p
    exact q H'
end Mi
namespace Mi
open PySem PySem.Spec PyProof.Rows L2
/-! ### running a mirror by simp -/
@[simp] theorem line_num : sizeLine = 16777216 := sizeLine_eq
/-- what range(n) gives -/
def rng (n : Nat) : List D := (List.range n).map fun i => .int ((0 : Int) + (i : Nat))
section
variable (env : Sl) (s : Store)
@[simp] theorem eC_eq (d : D) : eC d env s = .ok d s := rfl
@[simp] theorem eV_0 (d : D) (r : Sl) : eV 0 (some d :: r) s = .ok d s := rfl
@[simp] theorem eV_s (i : Nat) (o : Option D) (r : Sl) : eV (i + 1) (o :: r) s = eV i r s := rfl
@[simp] theorem e2_eq (g) (a b : ME D) : e2 g a b env s = (a env s).bind fun x s => (b env s).bind fun y s => R.of (g x y s) := rfl
@[simp] theorem e1_eq (g) (a : ME D) : e1 g a env s = (a env s).bind fun x s => R.of (g x s) := rfl
@[simp] theorem aNil_eq : aNil env s = .ok [] s := rfl
@[simp] theorem aCons_eq (a : ME D) (r : ME (List D)) : aCons a r env s = (a env s).bind fun x s => (r env s).bind fun xs s => .ok (x :: xs) s := rfl
@[simp] theorem eFn_eq (g) (a : ME (List D)) : eFn g a env s = (a env s).bind fun xs s => R.of (g xs s) := rfl
theorem le_line {n : Nat} (h : n ≤ 1000000) : n ≤ sizeLine := by rw [sizeLine_eq]; omega
theorem lt_line {n : Nat} (h : n ≤ 1000000) : n < sizeLine := by rw [sizeLine_eq]; omega
@[simp] theorem eTup_eq (a : ME (List D)) : eTup a env s = (a env s).bind fun xs s => if xs.length ≤ sizeLine then .ok (.tup xs) s else .no := rfl
@[simp] theorem eLst_eq (a : ME (List D)) : eLst a env s = (a env s).bind fun xs s => if xs.length ≤ sizeLine then .ok (.loc s.length) (s ++ [.lst xs]) else .no := rfl
/-- written displays -/
def arity : ME (List D) → Nat → Prop := fun a n => ∀ env s xs s', a env s = .ok xs s' → xs.length = n
theorem tup_short (xs : List D) (h : xs.length ≤ 1000000) : (if xs.length ≤ sizeLine then (R.ok (D.tup xs) s : R D) else .no) = .ok (.tup xs) s := if_pos (le_line h)
@[simp] theorem eCall_eq (g : List D → Store → R D) (a : ME (List D)) : eCall g a env s = (a env s).bind g := rfl
@[simp] theorem tV_eq (a : ME D) : tV a env s = (a env s).bind fun x s => match x with | .bl b => .ok b s | _ => .no := rfl
@[simp] theorem tAnd_eq (a b : ME Bool) : tAnd a b env s = (a env s).bind fun x s => if x then b env s else .ok false s := rfl
@[simp] theorem tOr_eq (a b : ME Bool) : tOr a b env s = (a env s).bind fun x s => if x then .ok true s else b env s := rfl
@[simp] theorem tNot_eq (a : ME Bool) : tNot a env s = (a env s).bind fun x s => .ok (!x) s := rfl
@[simp] theorem eIf_eq (c : ME Bool) (a b : ME D) : eIf c a b env s = (c env s).bind fun x s => if x then a env s else b env s := rfl
@[simp] theorem eAnd_eq (a b : ME D) : eAnd a b env s = (a env s).bind fun x s => match x with | .bl true => b env s | .bl false => .ok (.bl false) s | _ => .no := rfl
@[simp] theorem eOr_eq (a b : ME D) : eOr a b env s = (a env s).bind fun x s => match x with | .bl true => .ok (.bl true) s | .bl false => b env s | _ => .no := rfl
@[simp] theorem eNot_eq (a : ME D) : eNot a env s = (a env s).bind fun x s => match x with | .bl c => .ok (.bl !c) s | _ => .no := rfl
@[simp] theorem eChain_eq (g g') (a b c : ME D) : eChain g g' a b c env s = (a env s).bind fun x s => (b env s).bind fun y s => (R.of (g x y s)).bind fun z s => match z with
  | .bl true => (c env s).bind fun w s => R.of (g' y w s)
  | .bl false => .ok (.bl false) s
  | _ => .no := rfl
@[simp] theorem eMt_eq (T : String) (g) (a : ME D) (fs : ME (List D)) : eMt T g a fs env s = (a env s).bind fun x s => if tyOk T s x = true then (fs env s).bind fun xs s => R.of (g x xs s) else .no := rfl
@[simp] theorem eMt0_eq (T : String) (g) (a : ME D) : eMt0 T g a env s = (a env s).bind fun x s => if tyOk T s x = true then R.of (g x [] s) else .no := rfl
@[simp] theorem oNone_eq : oNone env s = .ok none s := rfl
@[simp] theorem oSome_eq (a : ME D) : oSome a env s = (a env s).bind fun x s => match x with | .int i => .ok (some i) s | _ => .no := rfl
@[simp] theorem eSl_eq (g) (a : ME D) (lo hi : ME (Option Int)) : eSl g a lo hi env s = (a env s).bind fun x s => (lo env s).bind fun l s => (hi env s).bind fun u s => R.of (g x l u s) := rfl
@[simp] theorem gN_eq (i : Nat) (d : D) : gN i d env = some (env.set i (some d)) := rfl
@[simp] theorem gsN_eq : gsN [] env = some env := rfl
@[simp] theorem gsC_eq (g) (r) (x : D) (xs : List D) : gsC g r (x :: xs) env = (g x env).bind (r xs) := rfl
@[simp] theorem gT_eq (n : Nat) (r) (xs : List D) : gT n r (.tup xs) env = if xs.length = n then r xs env else none := rfl
@[simp] theorem sNil_eq : sNil env s = .nx env s := rfl
@[simp] theorem sSeq_eq (f g : MS) : sSeq f g env s = (f env s).bind g := rfl
@[simp] theorem sSet_eq (i : Nat) (e : ME D) : sSet i e env s = (e env s).then env fun d s => .nx (env.set i (some d)) s := rfl
@[simp] theorem sAsg_eq (g) (e : ME D) : sAsg g e env s = (e env s).then env fun d s => match g d env with | some env' => .nx env' s | none => .no := rfl
@[simp] theorem sIf_eq (c : ME Bool) (f g : MS) : sIf c f g env s = (c env s).then env fun b s => if b then f env s else g env s := rfl
@[simp] theorem sRet_eq (e : ME D) : sRet e env s = (e env s).then env fun d s => .rt d s := rfl
@[simp] theorem sRetN_eq : sRetN env s = .rt .non s := rfl
@[simp] theorem sExpr_eq (e : ME D) : sExpr e env s = (e env s).then env fun _ s => .nx env s := rfl
@[simp] theorem sBrk_eq : sBrk env s = .bk env s := rfl
@[simp] theorem sCnt_eq : sCnt env s = .ct env s := rfl
@[simp] theorem sPut_eq (g) (o i e : ME D) : sPut g o i e env s = (e env s).then env fun d s => (o env s).then env fun x s => (i env s).then env fun y s => match g x y d s with
  | some s' => .nx env s'
  | none => .no := rfl
@[simp] theorem sFor_eq (it : ME Itm) (g) (b : MS) : sFor it g b env s = (it env s).then env fun i s => forL i.guard g b i.xs env s := rfl
@[simp] theorem eLc_eq (it : ME Itm) (vs g t e) : eLc it vs g t e env s = (it env s).bind fun i s => (lcL i.guard g t e (wipeE env vs) i.xs [] s).bind fun acc s => .ok (.loc s.length) (s ++ [.lst acc]) := rfl
@[simp] theorem tT_eq : tT env s = .ok true s := rfl
@[simp] theorem iSeq_eq (a : ME D) : iSeq a env s = (a env s).bind fun x s => match x with
  | .tup xs => .ok (Itm.mk xs always) s
  | .fl xs => .ok (Itm.mk xs always) s
  | .str z => .ok (Itm.mk (z.cps.toList.map fun c => .str ⟨#[c]⟩) always) s
  | .loc l => match s[l]? with
    | some (.lst xs) => .ok (Itm.mk xs fun s2 => s2[l]? = some (.lst xs)) s
    | _ => .no
  | _ => .no := rfl
noncomputable def rangeOf (x : List D) (s : Store) : R Itm := match x with
  | [.int j] => if InR j then .ok (Itm.mk (rng j.toNat) always) s else .no
  | _ => .no
@[simp] theorem iRange1_eq (a : ME (List D)) : iRange1 a env s = (a env s).bind rangeOf := (rfl)
theorem big62 : (1000000000 : Int) < 2 ^ 62 := by decide
@[simp] theorem rangeOf_int (j : Int) (h0 : 0 ≤ j) (h1 : j ≤ 1000000000) : rangeOf [.int j] s = .ok (Itm.mk (rng j.toNat) always) s :=
  if_pos ⟨Int.le_trans (by decide) h0, Int.lt_of_le_of_lt h1 big62⟩
noncomputable def rangeOf2 (x : List D) (s : Store) : R Itm := match x with
  | [.int i, .int j] => if InR i ∧ InR j then .ok (Itm.mk ((List.range (j - i).toNat).map fun k => .int (i + (k : Nat))) always) s else .no
  | _ => .no
@[simp] theorem iRange2_eq (a : ME (List D)) : iRange2 a env s = (a env s).bind rangeOf2 := (rfl)
@[simp] theorem rangeOf2_int (i j : Int) (h0 : 0 ≤ i) (h1 : i ≤ 1000000000) (h2 : 0 ≤ j) (h3 : j ≤ 1000000000) : rangeOf2 [.int i, .int j] s = .ok (Itm.mk ((List.range (j - i).toNat).map fun k => .int (i + (k : Nat))) always) s :=
  if_pos ⟨⟨Int.le_trans (by decide) h0, Int.lt_of_le_of_lt h1 big62⟩, Int.le_trans (by decide) h2, Int.lt_of_le_of_lt h3 big62⟩
@[simp] theorem wipeE_nil : wipeE env [] = env := rfl
@[simp] theorem wipeE_cons (v : Nat) (vs : List Nat) : wipeE env (v :: vs) = (wipeE env vs).set v none := rfl
@[simp] theorem forL_nil_always (g) (b : MS) : forL always g b [] env s = .nx env s := by unfold forL; simp [always]
theorem forL_cons_always (g) (b : MS) (x : D) (xs : List D) : forL always g b (x :: xs) env s = match g x env with
    | none => .no
    | some env1 => match b env1 s with
      | .nx env2 s2 => forL always g b xs env2 s2
      | .ct env2 s2 => forL always g b xs env2 s2
      | .bk env2 s2 => .nx env2 s2
      | .rt d s2 => .rt d s2
      | .ex e env2 s2 => .ex e env2 s2
      | .no => .no := by
  conv => lhs; unfold forL
  exact (if_pos trivial).trans rfl
theorem forL_nil (gd : Store → Prop) (h : gd s) (g) (b : MS) : forL gd g b [] env s = .nx env s := by unfold forL; simp [h]
theorem forL_cons (gd : Store → Prop) (h : gd s) (g) (b : MS) (x : D) (xs : List D) : forL gd g b (x :: xs) env s = match g x env with
    | none => .no
    | some env1 => match b env1 s with
      | .nx env2 s2 => forL gd g b xs env2 s2
      | .ct env2 s2 => forL gd g b xs env2 s2
      | .bk env2 s2 => .nx env2 s2
      | .rt d s2 => .rt d s2
      | .ex e env2 s2 => .ex e env2 s2
      | .no => .no := by
  conv => lhs; unfold forL
  exact (if_pos h).trans rfl
theorem lcL_nil (gd : Store → Prop) (h : gd s) (g t e) (acc : List D) : lcL gd g t e env [] acc s = .ok acc s := by unfold lcL; simp [h]
theorem lcL_cons (gd : Store → Prop) (h : gd s) (g t e) (acc : List D) (x : D) (xs : List D) : lcL gd g t e env (x :: xs) acc s = match g x env with
    | none => .no
    | some env1 => match t env1 s with
      | .ok b s1 => if b then (match e env1 s1 with
        | .ok y s2 => if acc.length < sizeLine then lcL gd g t e env xs (acc ++ [y]) s2 else .no
        | _ => .no) else lcL gd g t e env xs acc s1
      | _ => .no := by
  conv => lhs; unfold lcL
  exact (if_pos h).trans rfl
end
@[simp] theorem dI_eq (f : Int → Int → Option D) (i j : Int) (s : Store) : dI f (.int i) (.int j) s = (f i j).map fun d => (d, s) := rfl
@[simp] theorem dAdd_int (i j : Int) (s : Store) : dAdd (.int i) (.int j) s = some (.int (i + j), s) := rfl
theorem dAdd_loc {s : Store} {l k : Nat} {xs ys : List D} (h : s[l]? = some (.lst xs)) (h2 : s[k]? = some (.lst ys)) (hz : xs.length + ys.length ≤ 1000000) : dAdd (.loc l) (.loc k) s = some (.loc s.length, s ++ [.lst (xs ++ ys)]) := by
  have q := le_line hz
  simp only [dAdd, h, h2, q, if_true]
theorem dAdd_tup {s : Store} {xs ys : List D} (hz : xs.length + ys.length ≤ 1000000) : dAdd (.tup xs) (.tup ys) s = some (.tup (xs ++ ys), s) := by
  have q := le_line hz
  simp only [dAdd, q, if_true]
@[simp] theorem dSub_int (i j : Int) (s : Store) : dSub (.int i) (.int j) s = some (.int (i - j), s) := rfl
theorem dMul_int (i j : Int) (s : Store) (h : CMul i j) : dMul (.int i) (.int j) s = some (.int (i * j), s) := by simp [dMul, h]
/-- one factor is small -/
@[simp] theorem dMul_r (i j : Int) (s : Store) (h : -(2 ^ 64) < j ∧ j < 2 ^ 64) : dMul (.int i) (.int j) s = some (.int (i * j), s) := dMul_int i j s (.inr h)
theorem dMul_l (i j : Int) (s : Store) (h : -(2 ^ 64) < i ∧ i < 2 ^ 64) : dMul (.int i) (.int j) s = some (.int (i * j), s) := dMul_int i j s (.inl h)
@[simp] theorem dDiv_int (i j : Int) (s : Store) (h : 0 < j ∧ j < 1073741824) : dDiv (.int i) (.int j) s = some (.int (i / j), s) := by
  have q : CDiv i j := h
  simp [dDiv, q]
@[simp] theorem dMod_int (i j : Int) (s : Store) (h : 0 < j) : dMod (.int i) (.int j) s = some (.int (i % j), s) := by simp [dMod, h]
@[simp] theorem dPow_int (i j : Int) (s : Store) (h : 0 ≤ j ∧ j ≤ 1000000 ∧ i.natAbs < 2 ^ 64) : dPow (.int i) (.int j) s = some (.int (i ^ j.toNat), s) := by
  have q : CPow i j := h
  simp [dPow, q]
@[simp] theorem dNeg_int (i : Int) (s : Store) : dNeg (.int i) s = some (.int (-i), s) := rfl
@[simp] theorem dLt_int (i j : Int) (s : Store) : dLt (.int i) (.int j) s = some (.bl (decide (i < j)), s) := rfl
@[simp] theorem dLe_int (i j : Int) (s : Store) : dLe (.int i) (.int j) s = some (.bl (decide (i ≤ j)), s) := rfl
@[simp] theorem dGt_int (i j : Int) (s : Store) : dGt (.int i) (.int j) s = some (.bl (decide (j < i)), s) := rfl
@[simp] theorem dGe_int (i j : Int) (s : Store) : dGe (.int i) (.int j) s = some (.bl (decide (j ≤ i)), s) := rfl
@[simp] theorem dEq_int (i j : Int) (s : Store) : dEq (.int i) (.int j) s = some (.bl (decide (i = j)), s) := rfl
@[simp] theorem dNe_int (i j : Int) (s : Store) : dNe (.int i) (.int j) s = some (.bl (!decide (i = j)), s) := rfl
@[simp] theorem dEq_bl (i j : Bool) (s : Store) : dEq (.bl i) (.bl j) s = some (.bl (decide (i = j)), s) := rfl
@[simp] theorem dNe_bl (i j : Bool) (s : Store) : dNe (.bl i) (.bl j) s = some (.bl (!decide (i = j)), s) := rfl
@[simp] theorem dEq_str (i j : Str) (s : Store) : dEq (.str i) (.str j) s = some (.bl (decide (i = j)), s) := rfl
@[simp] theorem dNe_str (i j : Str) (s : Store) : dNe (.str i) (.str j) s = some (.bl (!decide (i = j)), s) := rfl
@[simp] theorem dIs_non_non (s : Store) : dIs .non .non s = some (.bl true, s) := rfl
@[simp] theorem dIs_int_non (i : Int) (s : Store) : dIs (.int i) .non s = some (.bl false, s) := rfl
@[simp] theorem dIs_bl_bl (i j : Bool) (s : Store) : dIs (.bl i) (.bl j) s = some (.bl (decide (i = j)), s) := rfl
@[simp] theorem dIs_str_non (i : Str) (s : Store) : dIs (.str i) .non s = some (.bl false, s) := rfl
@[simp] theorem dIs_tup_non (i : List D) (s : Store) : dIs (.tup i) .non s = some (.bl false, s) := rfl
@[simp] theorem dIsNot_non_non (s : Store) : dIsNot .non .non s = some (.bl false, s) := rfl
@[simp] theorem dIsNot_int_non (i : Int) (s : Store) : dIsNot (.int i) .non s = some (.bl true, s) := rfl
@[simp] theorem dIsNot_bl_bl (i j : Bool) (s : Store) : dIsNot (.bl i) (.bl j) s = some (.bl (!decide (i = j)), s) := rfl
@[simp] theorem dIsNot_str_non (i : Str) (s : Store) : dIsNot (.str i) .non s = some (.bl true, s) := rfl
@[simp] theorem dIsNot_tup_non (i : List D) (s : Store) : dIsNot (.tup i) .non s = some (.bl true, s) := rfl
@[simp] theorem dInt_int (i : Int) (s : Store) : dInt [.int i] s = some (.int i, s) := rfl
@[simp] theorem dInt_bl (i : Bool) (s : Store) : dInt [.bl i] s = some (.int (if i then 1 else 0), s) := rfl
theorem dMax2_int (i j : Int) (s : Store) : dMax2 [.int i, .int j] s = some (.int (if j > i then j else i), s) := rfl
theorem dMin2_int (i j : Int) (s : Store) : dMin2 [.int i, .int j] s = some (.int (if j < i then j else i), s) := rfl
theorem max_if (i j : Int) : (if j > i then j else i) = max i j := by
  rw [Int.max_def]; split <;> split <;> omega
theorem min_if (i j : Int) : (if j < i then j else i) = min i j := by
  rw [Int.min_def]; split <;> split <;> omega
@[simp] theorem dMax2_max (i j : Int) (s : Store) : dMax2 [.int i, .int j] s = some (.int (max i j), s) := by rw [dMax2_int, max_if]
@[simp] theorem dMin2_min (i j : Int) (s : Store) : dMin2 [.int i, .int j] s = some (.int (min i j), s) := by rw [dMin2_int, min_if]
@[simp] theorem lstOf_fl (s : Store) (xs : List D) : lstOf s (.fl xs) = some xs := rfl
theorem lstOf_loc {s : Store} {l : Nat} {xs : List D} (h : s[l]? = some (.lst xs)) : lstOf s (.loc l) = some xs := by simp [lstOf, h]
@[simp] theorem seqOf_tup (s : Store) (xs : List D) : seqOf s (.tup xs) = some xs := rfl
@[simp] theorem seqOf_fl (s : Store) (xs : List D) : seqOf s (.fl xs) = some xs := rfl
theorem seqOf_loc {s : Store} {l : Nat} {xs : List D} (h : s[l]? = some (.lst xs)) : seqOf s (.loc l) = some xs := by simp [seqOf, lstOf, h]
@[simp] theorem dLen_tup (s : Store) (xs : List D) : dLen [.tup xs] s = some (.int xs.length, s) := rfl
@[simp] theorem dLen_fl (s : Store) (xs : List D) : dLen [.fl xs] s = some (.int xs.length, s) := rfl
theorem dLen_loc {s : Store} {l : Nat} {xs : List D} (h : s[l]? = some (.lst xs)) : dLen [.loc l] s = some (.int xs.length, s) := by simp [dLen, seqOf, lstOf, h]
@[simp] theorem dTuple_tup (s : Store) (xs : List D) : dTuple [.tup xs] s = some (.tup xs, s) := rfl
theorem dTuple_loc {s : Store} {l : Nat} {xs : List D} (h : s[l]? = some (.lst xs)) : dTuple [.loc l] s = some (.tup xs, s) := by simp [dTuple, seqOf, lstOf, h]
theorem dSum_loc {s : Store} {l : Nat} {ns : List Int} (h : s[l]? = some (.lst (ns.map D.int))) : dSum [.loc l] s = some (.int ns.sum, s) := by simp [dSum, lstOf, h, intsOf_map]
theorem dIx_tup (s : Store) (xs : List D) (i : Int) : dIx (.tup xs) (.int i) s = (atI xs i).map fun d => (d, s) := rfl
theorem dIx_loc {s : Store} {l : Nat} {xs : List D} (h : s[l]? = some (.lst xs)) (i : Int) : dIx (.loc l) (.int i) s = (atI xs i).map fun d => (d, s) := by simp [dIx, seqOf, lstOf, h]
theorem atI_ofNat (xs : List D) (j : Nat) (d : D) (h : xs[j]? = some d) : atI xs (j : Int) = some d := atI_nat h
@[simp] theorem atI_zero (x : D) (xs : List D) : atI (x :: xs) 0 = some x := atI_nat (j := 0) rfl
@[simp] theorem atI_one (x y : D) (xs : List D) : atI (x :: y :: xs) 1 = some y := atI_nat (j := 1) rfl
@[simp] theorem atI_two (x y z : D) (xs : List D) : atI (x :: y :: z :: xs) 2 = some z := atI_nat (j := 2) rfl
@[simp] theorem atI_three (x y z w : D) (xs : List D) : atI (x :: y :: z :: w :: xs) 3 = some w := atI_nat (j := 3) rfl
theorem dAppend_loc {s : Store} {l : Nat} {xs : List D} (h : s[l]? = some (.lst xs)) (hz : xs.length ≤ 1000000) (y : D) : dAppend (.loc l) [y] s = some (.non, s.set l (.lst (xs ++ [y]))) := by
  have q := lt_line hz
  simp only [dAppend, h, q, if_true]
theorem dPop_loc {s : Store} {l : Nat} {xs : List D} {y : D} (h : s[l]? = some (.lst (xs ++ [y]))) : dPop (.loc l) [] s = some (y, s.set l (.lst xs)) := by simp [dPop, h]
theorem tyOk_list {s : Store} {l : Nat} {xs : List D} (h : s[l]? = some (.lst xs)) : tyOk "list" s (.loc l) = true := by simp [tyOk, h]
theorem pList_loc {s : Store} {l : Nat} {xs : List D} (h : s[l]? = some (.lst xs)) (j : Nat) (hj : j < xs.length) (z : D) : pList (.loc l) (.int j) z s = some (s.set l (.lst (xs.set j z))) := by
  have e : ixN xs.length (j : Int) = some j := by
    unfold ixN
    rw [if_pos (by omega), if_pos (by omega)]
    simp
  simp [pList, h, e]
theorem pList_zero {s : Store} {l : Nat} {x : D} {xs : List D} (h : s[l]? = some (.lst (x :: xs))) (z : D) : pList (.loc l) (.int 0) z s = some (s.set l (.lst (z :: xs))) :=
  pList_loc h 0 (by simp) z
@[simp] theorem fnM_eq (N n : Nat) (b : MS) (ds : List D) (s : Store) : fnM N n b ds s = match b (ds.map some ++ List.replicate (N - n) none) s with
  | .rt d s => .ok d s
  | .nx _ s => .ok .non s
  | .ex e _ s => .ex e s
  | _ => .no := rfl
/-! ### stores: what stays -/
/-- all places of s but p are as they were -/
def Kp (p : Nat) (s s' : Store) : Prop := s.length ≤ s'.length ∧ ∀ l, l < s.length → l ≠ p → s'[l]? = s[l]?
theorem Kp.refl (p : Nat) (s : Store) : Kp p s s := ⟨Nat.le_refl _, fun _ _ _ => rfl⟩
theorem Kp.trans {p : Nat} {s s1 s2 : Store} (a : Kp p s s1) (b : Kp p s1 s2) : Kp p s s2 :=
  ⟨Nat.le_trans a.1 b.1, fun l h n => (b.2 l (Nat.lt_of_lt_of_le h a.1) n).trans (a.2 l h n)⟩
theorem Kp.set (p : Nat) (s : Store) (c : Cell) : Kp p s (s.set p c) := ⟨by simp, fun l _ n => List.getElem?_set_ne (Ne.symm n)⟩
theorem Kp.app (p : Nat) (s r : Store) : Kp p s (s ++ r) := ⟨by simp, fun l h _ => List.getElem?_append_left h⟩
theorem Kp.get {p : Nat} {s s' : Store} (a : Kp p s s') {l : Nat} {c : Cell} (h : s[l]? = some c) (n : l ≠ p) : s'[l]? = some c := by
  rw [a.2 l (by
    rcases Nat.lt_or_ge l s.length with q | q
    · exact q
    · rw [List.getElem?_eq_none q] at h; cases h) n]
  exact h
theorem lt_of_get {s : Store} {l : Nat} {c : Cell} (h : s[l]? = some c) : l < s.length := by
  rcases Nat.lt_or_ge l s.length with q | q
  · exact q
  · rw [List.getElem?_eq_none q] at h; cases h
theorem get_new (s : Store) (c : Cell) : (s ++ [c])[s.length]? = some c := by simp
theorem get_set {s : Store} {l : Nat} {c c' : Cell} (h : s[l]? = some c) : (s.set l c')[l]? = some c' := List.getElem?_set_self (lt_of_get h)
/-! #### isinstance -/
@[simp] theorem kit_NoneType_int : kitB "NoneType" "int" = some false := by decide +kernel
@[simp] theorem kit_NoneType_bool : kitB "NoneType" "bool" = some false := by decide +kernel
@[simp] theorem kit_NoneType_str : kitB "NoneType" "str" = some false := by decide +kernel
@[simp] theorem kit_NoneType_tuple : kitB "NoneType" "tuple" = some false := by decide +kernel
@[simp] theorem kit_NoneType_list : kitB "NoneType" "list" = some false := by decide +kernel
@[simp] theorem kit_NoneType_dict : kitB "NoneType" "dict" = some false := by decide +kernel
@[simp] theorem kit_bool_int : kitB "bool" "int" = some true := by decide +kernel
@[simp] theorem kit_bool_bool : kitB "bool" "bool" = some true := by decide +kernel
@[simp] theorem kit_bool_str : kitB "bool" "str" = some false := by decide +kernel
@[simp] theorem kit_bool_tuple : kitB "bool" "tuple" = some false := by decide +kernel
@[simp] theorem kit_bool_list : kitB "bool" "list" = some false := by decide +kernel
@[simp] theorem kit_bool_dict : kitB "bool" "dict" = some false := by decide +kernel
@[simp] theorem kit_int_int : kitB "int" "int" = some true := by decide +kernel
@[simp] theorem kit_int_bool : kitB "int" "bool" = some false := by decide +kernel
@[simp] theorem kit_int_str : kitB "int" "str" = some false := by decide +kernel
@[simp] theorem kit_int_tuple : kitB "int" "tuple" = some false := by decide +kernel
@[simp] theorem kit_int_list : kitB "int" "list" = some false := by decide +kernel
@[simp] theorem kit_int_dict : kitB "int" "dict" = some false := by decide +kernel
@[simp] theorem kit_str_int : kitB "str" "int" = some false := by decide +kernel
@[simp] theorem kit_str_bool : kitB "str" "bool" = some false := by decide +kernel
@[simp] theorem kit_str_str : kitB "str" "str" = some true := by decide +kernel
@[simp] theorem kit_str_tuple : kitB "str" "tuple" = some false := by decide +kernel
@[simp] theorem kit_str_list : kitB "str" "list" = some false := by decide +kernel
@[simp] theorem kit_str_dict : kitB "str" "dict" = some false := by decide +kernel
@[simp] theorem kit_tuple_int : kitB "tuple" "int" = some false := by decide +kernel
@[simp] theorem kit_tuple_bool : kitB "tuple" "bool" = some false := by decide +kernel
@[simp] theorem kit_tuple_str : kitB "tuple" "str" = some false := by decide +kernel
@[simp] theorem kit_tuple_tuple : kitB "tuple" "tuple" = some true := by decide +kernel
@[simp] theorem kit_tuple_list : kitB "tuple" "list" = some false := by decide +kernel
@[simp] theorem kit_tuple_dict : kitB "tuple" "dict" = some false := by decide +kernel
@[simp] theorem kit_list_int : kitB "list" "int" = some false := by decide +kernel
@[simp] theorem kit_list_bool : kitB "list" "bool" = some false := by decide +kernel
@[simp] theorem kit_list_str : kitB "list" "str" = some false := by decide +kernel
@[simp] theorem kit_list_tuple : kitB "list" "tuple" = some false := by decide +kernel
@[simp] theorem kit_list_list : kitB "list" "list" = some true := by decide +kernel
@[simp] theorem kit_list_dict : kitB "list" "dict" = some false := by decide +kernel
@[simp] theorem kit_dict_int : kitB "dict" "int" = some false := by decide +kernel
@[simp] theorem kit_dict_bool : kitB "dict" "bool" = some false := by decide +kernel
@[simp] theorem kit_dict_str : kitB "dict" "str" = some false := by decide +kernel
@[simp] theorem kit_dict_tuple : kitB "dict" "tuple" = some false := by decide +kernel
@[simp] theorem kit_dict_list : kitB "dict" "list" = some false := by decide +kernel
@[simp] theorem kit_dict_dict : kitB "dict" "dict" = some true := by decide +kernel
@[simp] theorem dIsi_eq (T : String) (x : D) (s : Store) : dIsi T x s = (tyN s x).bind fun t => (kitB t T).map fun b => (.bl b, s) := rfl
@[simp] theorem tyN_non (s : Store) : tyN s .non = some "NoneType" := rfl
@[simp] theorem tyN_bl (s : Store) (b : Bool) : tyN s (.bl b) = some "bool" := rfl
@[simp] theorem tyN_int (s : Store) (b : Int) : tyN s (.int b) = some "int" := rfl
@[simp] theorem tyN_str (s : Store) (b : Str) : tyN s (.str b) = some "str" := rfl
@[simp] theorem tyN_tup (s : Store) (b : List D) : tyN s (.tup b) = some "tuple" := rfl
theorem tyN_lst {s : Store} {l : Nat} {xs : List D} (h : s[l]? = some (.lst xs)) : tyN s (.loc l) = some "list" := by simp [tyN, h]
/-! ### loops by what holds between the turns -/
/-- a call's end -/
def Rets {α : Type} (P : α → Store → Prop) : R α → Prop
  | .ok d s => P d s
  | _ => False
@[simp] theorem Rets_ok {α : Type} (P : α → Store → Prop) (d : α) (s : Store) : Rets P (.ok d s) = P d s := rfl
@[simp] theorem Rets_no {α : Type} (P : α → Store → Prop) : Rets P .no = False := rfl
@[simp] theorem Rets_ex {α : Type} (P : α → Store → Prop) (e : Ex) (s : Store) : Rets P (.ex e s) = False := rfl
theorem Rets.out {α : Type} {P : α → Store → Prop} {r : R α} (h : Rets P r) : ∃ d s, r = .ok d s ∧ P d s := by
  cases r with
  | ok d s => exact ⟨d, s, rfl, h⟩
  | ex e s => exact h.elim
  | no => exact h.elim
/-- what a turn's end asks: I of the next turn, Q of leaving -/
def Turns (I : Sl → Store → Prop) (Q : RS → Prop) : RS → Prop
  | .nx env s => I env s
  | .ct env s => I env s
  | .bk env s => Q (.nx env s)
  | .rt d s => Q (.rt d s)
  | .ex e env s => Q (.ex e env s)
  | .no => False
section
variable (I : Sl → Store → Prop) (Q : RS → Prop) (env : Sl) (s : Store)
@[simp] theorem Turns_nx : Turns I Q (.nx env s) = I env s := rfl
@[simp] theorem Turns_ct : Turns I Q (.ct env s) = I env s := rfl
@[simp] theorem Turns_bk : Turns I Q (.bk env s) = Q (.nx env s) := rfl
@[simp] theorem Turns_rt (d : D) : Turns I Q (.rt d s) = Q (.rt d s) := rfl
@[simp] theorem Turns_ex (e : Ex) : Turns I Q (.ex e env s) = Q (.ex e env s) := rfl
@[simp] theorem Turns_no : Turns I Q .no = False := rfl
end
/-- store the item, run the body -/
def turn (g : D → Sl → Option Sl) (b : MS) (x : D) : MS := fun env s => match g x env with
  | none => .no
  | some env1 => b env1 s
@[simp] theorem turn_gN (i : Nat) (b : MS) (x : D) (env : Sl) (s : Store) : turn (gN i) b x env s = b (env.set i (some x)) s := rfl
@[simp] theorem turn_gT (n : Nat) (r) (b : MS) (xs : List D) (env : Sl) (s : Store) : turn (gT n r) b (.tup xs) env s = match (if xs.length = n then r xs env else none) with
  | none => .no
  | some env1 => b env1 s := rfl
theorem forL_rule {gd : Store → Prop} {g : D → Sl → Option Sl} {b : MS} (I : List D → Sl → Store → Prop) (Q : RS → Prop) (hg : ∀ xs env s, I xs env s → gd s)
    (hs : ∀ x xs env s, I (x :: xs) env s → Turns (I xs) Q (turn g b x env s)) (he : ∀ env s, I [] env s → Q (.nx env s)) : ∀ {xs : List D} {env : Sl} {s : Store}, I xs env s → Q (forL gd g b xs env s) := by
  intro xs
  induction xs with
  | nil => intro env s h; rw [forL_nil env s gd (hg _ _ _ h)]; exact he env s h
  | cons x xs ih =>
    intro env s h
    rw [forL_cons env s gd (hg _ _ _ h)]
    have h1 := hs x xs env s h
    unfold turn at h1
    cases e1 : g x env with
    | none => rw [e1] at h1; exact h1.elim
    | some env1 =>
      rw [e1] at h1
      dsimp only at h1 ⊢
      cases q : b env1 s with
      | nx env2 s2 => rw [q] at h1; exact ih h1
      | ct env2 s2 => rw [q] at h1; exact ih h1
      | bk env2 s2 => rw [q] at h1; exact h1
      | rt d s2 => rw [q] at h1; exact h1
      | ex e env2 s2 => rw [q] at h1; exact h1
      | no => rw [q] at h1; exact h1.elim
/-- a loop that runs through -/
theorem forL_thru {gd : Store → Prop} {g : D → Sl → Option Sl} {b : MS} (I : List D → Sl → Store → Prop) (hg : ∀ xs env s, I xs env s → gd s)
    (hs : ∀ x xs env s, I (x :: xs) env s → Turns (I xs) (fun _ => False) (turn g b x env s)) {xs : List D} {env : Sl} {s : Store} (h : I xs env s) : ∃ env' s', forL gd g b xs env s = .nx env' s' ∧ I [] env' s' :=
  forL_rule I (fun r => ∃ env' s', r = .nx env' s' ∧ I [] env' s') hg (fun x xs env s h => by
    have z := hs x xs env s h
    cases q : turn g b x env s with
    | nx env2 s2 => rw [q] at z; exact z
    | ct env2 s2 => rw [q] at z; exact z
    | bk env2 s2 => rw [q] at z; exact z.elim
    | rt d s2 => rw [q] at z; exact z.elim
    | ex e env2 s2 => rw [q] at z; exact z.elim
    | no => rw [q] at z; exact z.elim) (fun env s h => ⟨env, s, rfl, h⟩) h
/-! a loop over range(n) -/
theorem rng_drop {n i : Nat} (h : i < n) : (rng n).drop i = .int ((0 : Int) + (i : Nat)) :: (rng n).drop (i + 1) := by
  have hl : i < (rng n).length := by simpa [rng] using h
  rw [List.drop_eq_getElem_cons hl]
  simp [rng]
theorem rng_lt {n i : Nat} {x : D} {xs : List D} (e : x :: xs = (rng n).drop i) : i < n ∧ x = .int (i : Nat) ∧ xs = (rng n).drop (i + 1) := by
  have hlt : i < n := by
    rcases Nat.lt_or_ge i n with w | w
    · exact w
    · rw [List.drop_eq_nil_of_le (by simpa [rng] using w)] at e; cases e
  rw [rng_drop hlt] at e
  obtain ⟨rfl, rfl⟩ := List.cons.inj e
  exact ⟨hlt, by rw [Int.zero_add], rfl⟩
theorem rng_end {n i : Nat} (hi : i ≤ n) (e : [] = (rng n).drop i) : i = n := by
  rcases Nat.lt_or_ge i n with w | w
  · rw [rng_drop w] at e; cases e
  · omega
theorem forL_range {gd : Store → Prop} {g : D → Sl → Option Sl} {b : MS} (n : Nat) (I : Nat → Sl → Store → Prop) (Q : RS → Prop) (hg : ∀ i env s, i ≤ n → I i env s → gd s)
    (hs : ∀ i env s, i < n → I i env s → Turns (I (i + 1)) Q (turn g b (.int (i : Nat)) env s)) (he : ∀ env s, I n env s → Q (.nx env s)) {env : Sl} {s : Store} (h : I 0 env s) : Q (forL gd g b (rng n) env s) := by
  refine forL_rule (fun xs env s => ∃ i, i ≤ n ∧ xs = (rng n).drop i ∧ I i env s) Q (fun xs env s ⟨i, hi, _, q⟩ => hg i env s hi q) (fun x xs env s ⟨i, hi, e, q⟩ => ?_) (fun env s ⟨i, hi, e, q⟩ => ?_) ⟨0, Nat.zero_le _, rfl, h⟩
  · obtain ⟨hlt, rfl, rfl⟩ := rng_lt e
    have t1 := hs i env s hlt q
    cases hb : turn g b (.int (i : Nat)) env s with
    | nx env2 s2 => rw [hb] at t1; exact ⟨i + 1, hlt, rfl, t1⟩
    | ct env2 s2 => rw [hb] at t1; exact ⟨i + 1, hlt, rfl, t1⟩
    | bk env2 s2 => rw [hb] at t1; exact t1
    | rt d s2 => rw [hb] at t1; exact t1
    | ex x env2 s2 => rw [hb] at t1; exact t1
    | no => rw [hb] at t1; exact t1
  · have hlt := rng_end hi e
    subst hlt
    exact he env s q
theorem forL_rangeT {gd : Store → Prop} {g : D → Sl → Option Sl} {b : MS} (n : Nat) (I : Nat → Sl → Store → Prop) (hg : ∀ i env s, i ≤ n → I i env s → gd s)
    (hs : ∀ i env s, i < n → I i env s → Turns (I (i + 1)) (fun _ => False) (turn g b (.int (i : Nat)) env s)) {env : Sl} {s : Store} (h : I 0 env s) : ∃ env' s', forL gd g b (rng n) env s = .nx env' s' ∧ I n env' s' :=
  forL_range n I (fun r => ∃ env' s', r = .nx env' s' ∧ I n env' s') hg (fun i env s hi h => by
    have z := hs i env s hi h
    cases q : turn g b (.int (i : Nat)) env s with
    | nx env2 s2 => rw [q] at z; exact z
    | ct env2 s2 => rw [q] at z; exact z
    | bk env2 s2 => rw [q] at z; exact z.elim
    | rt d s2 => rw [q] at z; exact z.elim
    | ex e env2 s2 => rw [q] at z; exact z.elim
    | no => rw [q] at z; exact z.elim) (fun env s h => ⟨env, s, rfl, h⟩) h
/-! comprehensions -/
/-- one item: kept with its value, or not -/
def pick (g : D → Sl → Option Sl) (t : ME Bool) (e : ME D) (x : D) (env : Sl) (s : Store) : R (Option D) := match g x env with
  | none => .no
  | some env1 => (t env1 s).bind fun b s => if b then (e env1 s).bind fun y s => .ok (some y) s else .ok none s
@[simp] theorem pick_gN (i : Nat) (t : ME Bool) (e : ME D) (x : D) (env : Sl) (s : Store) : pick (gN i) t e x env s = (t (env.set i (some x)) s).bind fun b s => if b then (e (env.set i (some x)) s).bind fun y s => .ok (some y) s else .ok none s := rfl
@[simp] theorem pick_gT (n : Nat) (r) (t : ME Bool) (e : ME D) (xs : List D) (env : Sl) (s : Store) : pick (gT n r) t e (.tup xs) env s = match (if xs.length = n then r xs env else none) with
  | none => .no
  | some env1 => (t env1 s).bind fun b s => if b then (e env1 s).bind fun y s => .ok (some y) s else .ok none s := rfl
/-- what an item's end asks of the list so far -/
def Kept (I : List D → Store → Prop) (acc : List D) : R (Option D) → Prop
  | .ok (some y) s => acc.length ≤ 1000000 ∧ I (acc ++ [y]) s
  | .ok none s => I acc s
  | _ => False
@[simp] theorem Kept_some (I : List D → Store → Prop) (acc : List D) (y : D) (s : Store) : Kept I acc (.ok (some y) s) = (acc.length ≤ 1000000 ∧ I (acc ++ [y]) s) := rfl
@[simp] theorem Kept_none (I : List D → Store → Prop) (acc : List D) (s : Store) : Kept I acc (.ok none s) = I acc s := rfl
@[simp] theorem Kept_no (I : List D → Store → Prop) (acc : List D) : Kept I acc .no = False := rfl
theorem lcL_thru {gd : Store → Prop} {g : D → Sl → Option Sl} {t : ME Bool} {e : ME D} {env : Sl} (I : List D → List D → Store → Prop) (hg : ∀ xs acc s, I xs acc s → gd s)
    (hs : ∀ x xs acc s, I (x :: xs) acc s → Kept (I xs) acc (pick g t e x env s)) :
    ∀ {xs acc : List D} {s : Store}, I xs acc s → ∃ acc' s', lcL gd g t e env xs acc s = .ok acc' s' ∧ I [] acc' s' := by
  intro xs
  induction xs with
  | nil => intro acc s h; exact ⟨acc, s, lcL_nil env s gd (hg _ _ _ h) g t e acc, h⟩
  | cons x xs ih =>
    intro acc s h
    rw [lcL_cons env s gd (hg _ _ _ h)]
    have h1 := hs x xs acc s h
    unfold pick at h1
    cases e1 : g x env with
    | none => rw [e1] at h1; exact h1.elim
    | some env1 =>
      rw [e1] at h1
      dsimp only at h1 ⊢
      cases e2 : t env1 s with
      | no => rw [e2] at h1; exact h1.elim
      | ex x s => rw [e2] at h1; exact h1.elim
      | ok k s1 =>
        rw [e2] at h1
        simp only [R.bind_ok] at h1
        cases k with
        | false => simpa using ih (by simpa using h1)
        | true =>
          simp only [if_true] at h1 ⊢
          cases e3 : e env1 s1 with
          | no => rw [e3] at h1; exact h1.elim
          | ex x s => rw [e3] at h1; exact h1.elim
          | ok y s2 =>
            rw [e3] at h1
            obtain ⟨hz, h3⟩ := (show acc.length ≤ 1000000 ∧ I xs (acc ++ [y]) s2 from h1)
            have z := lt_line hz
            simp only [z, if_true]
            exact ih h3
/-- a comprehension that leaves the store as it is -/
theorem lcL_fm {β : Type} {gd : Store → Prop} {g : D → Sl → Option Sl} {t : ME Bool} {e : ME D} {env : Sl} {s : Store} (hg : gd s) (h : β → D) (f : β → Option D) :
    ∀ (xs : List β) (acc : List D), (∀ x ∈ xs, pick g t e (h x) env s = .ok (f x) s) → acc.length + xs.length ≤ 1000000 → lcL gd g t e env (xs.map h) acc s = .ok (acc ++ xs.filterMap f) s := by
  intro xs
  induction xs with
  | nil => intro acc _ _; rw [List.map_nil, lcL_nil env s gd hg]; simp
  | cons x xs ih =>
    intro acc hp hz
    rw [List.length_cons] at hz
    rw [List.map_cons, lcL_cons env s gd hg]
    have h1 := hp x (by simp)
    unfold pick at h1
    cases e1 : g (h x) env with
    | none => rw [e1] at h1; cases h1
    | some env1 =>
      rw [e1] at h1
      dsimp only at h1 ⊢
      cases e2 : t env1 s with
      | no => rw [e2] at h1; cases h1
      | ex x s => rw [e2] at h1; cases h1
      | ok k s1 =>
        rw [e2] at h1
        simp only [R.bind_ok] at h1
        cases k with
        | false =>
          simp at h1
          obtain ⟨h2, rfl⟩ := h1
          simp only [Bool.false_eq_true, if_false]
          rw [ih acc (fun y hy => hp y (by simp [hy])) (by omega), List.filterMap_cons, ← h2]
        | true =>
          simp only [if_true] at h1 ⊢
          cases e3 : e env1 s1 with
          | no => rw [e3] at h1; cases h1
          | ex x s => rw [e3] at h1; cases h1
          | ok y s2 =>
            rw [e3] at h1
            simp at h1
            obtain ⟨h2, rfl⟩ := h1
            have z : acc.length < sizeLine := lt_line (by omega)
            simp only [z, if_true]
            rw [ih (acc ++ [y]) (fun y hy => hp y (by simp [hy])) (by simp; omega), List.filterMap_cons, ← h2]
            simp
theorem lcL_map {β : Type} {gd : Store → Prop} {g : D → Sl → Option Sl} {t : ME Bool} {e : ME D} {env : Sl} {s : Store} (hg : gd s) (h : β → D) (f : β → D) (xs : List β)
    (hp : ∀ x ∈ xs, pick g t e (h x) env s = .ok (some (f x)) s) (hz : xs.length ≤ 1000000) : lcL gd g t e env (xs.map h) [] s = .ok (xs.map f) s := by
  have w := lcL_fm hg h (fun x => some (f x)) xs [] hp (by simpa using hz)
  rw [w]
  simp
theorem lcL_range {gd : Store → Prop} {g : D → Sl → Option Sl} {t : ME Bool} {e : ME D} {env : Sl} (n : Nat) (I : Nat → List D → Store → Prop) (hg : ∀ i acc s, i ≤ n → I i acc s → gd s)
    (hs : ∀ i acc s, i < n → I i acc s → Kept (I (i + 1)) acc (pick g t e (.int (i : Nat)) env s)) {acc : List D} {s : Store}
    (h : I 0 acc s) : ∃ acc' s', lcL gd g t e env (rng n) acc s = .ok acc' s' ∧ I n acc' s' := by
  obtain ⟨acc', s', h1, i, hi, e, h2⟩ := lcL_thru (gd := gd) (g := g) (t := t) (e := e) (env := env) (fun xs acc s => ∃ i, i ≤ n ∧ xs = (rng n).drop i ∧ I i acc s) (fun xs acc s ⟨i, hi, _, q⟩ => hg i acc s hi q) (fun x xs acc s ⟨i, hi, e, q⟩ => by
    obtain ⟨hlt, rfl, rfl⟩ := rng_lt e
    have z := hs i acc s hlt q
    cases hp : pick g t _ (.int (i : Nat)) env s with
    | no => rw [hp] at z; exact z
    | ex x s => rw [hp] at z; exact z
    | ok o s2 =>
      rw [hp] at z
      cases o with
      | none => exact ⟨i + 1, hlt, rfl, z⟩
      | some y => exact ⟨z.1, i + 1, hlt, rfl, z.2⟩) (xs := rng n) ⟨0, Nat.zero_le _, rfl, h⟩
  have hlt := rng_end hi e
  subst hlt
  exact ⟨acc', s', h1, h2⟩
/-- all ints -/
def Ints (xs : List D) : Prop := ∃ ns : List Int, xs = ns.map D.int
theorem cut_ints {xs : List D} (h : Ints xs) (lo hi : Option Int) : Ints (Mi.cutD xs lo hi) := by
  obtain ⟨ns, rfl⟩ := h
  unfold Mi.cutD
  exact ⟨_, by rw [← List.map_drop, ← List.map_take]⟩
theorem cut_len (xs : List D) (lo hi : Option Int) : (Mi.cutD xs lo hi).length ≤ xs.length := by
  unfold Mi.cutD
  simp
  omega
end Mi
namespace Law
open PySem PySem.Spec PyProof.Rows L2 Mi
/-! ### the text -/
def topS (i : Nat) : Stmt := PySem.Challenge.pw_beforeinall_k03_years_sought.main.body.getD i (.Pass ⟨0, 0, 0, 0⟩)
abbrev s_has_year : Stmt := topS 1
abbrev s_fall_to : Stmt := topS 2
abbrev s_rise_to : Stmt := topS 3
abbrev s_years_in : Stmt := topS 4
abbrev s_holes_in : Stmt := topS 5
abbrev s_d_law_pool : Stmt := topS 7
abbrev s_d_law_draw : Stmt := topS 8
abbrev s_d_law_often_end : Stmt := topS 9
abbrev s_d_law_is_integer : Stmt := topS 10
abbrev s_d_law_dates : Stmt := topS 11
abbrev s_d_law_fall : Stmt := topS 12
abbrev s_d_law_rise : Stmt := topS 13
abbrev s_d_law_same : Stmt := topS 14
abbrev s_d_law_year_right : Stmt := topS 15
abbrev s_d_law_years : Stmt := topS 16
abbrev s_d_law_counts_right : Stmt := topS 17
abbrev s_law : Stmt := topS 18
theorem sc_has_year : FnScope ["dates", "year", "low", "high"] ["dates", "year"] (defScope s_has_year) := ⟨rfl, rfl, rfl, by decide +kernel, rfl, by decide +kernel, by decide +kernel⟩
theorem sc_fall_to : FnScope ["dates", "year", "found", "low", "high"] ["dates", "year"] (defScope s_fall_to) := ⟨rfl, rfl, rfl, by decide +kernel, rfl, by decide +kernel, by decide +kernel⟩
theorem sc_rise_to : FnScope ["dates", "year", "low", "high"] ["dates", "year"] (defScope s_rise_to) := ⟨rfl, rfl, rfl, by decide +kernel, rfl, by decide +kernel, by decide +kernel⟩
theorem sc_years_in : FnScope ["dates", "low", "high"] ["dates"] (defScope s_years_in) := ⟨rfl, rfl, rfl, by decide +kernel, rfl, by decide +kernel, by decide +kernel⟩
theorem sc_holes_in : FnScope ["dates"] ["dates"] (defScope s_holes_in) := ⟨rfl, rfl, rfl, by decide +kernel, rfl, by decide +kernel, by decide +kernel⟩
theorem sc_d_law_pool : FnScope ["script", "mixed", "great", "cell", "plain"] ["script"] (defScope s_d_law_pool) := ⟨rfl, rfl, rfl, by decide +kernel, rfl, by decide +kernel, by decide +kernel⟩
theorem sc_d_law_draw : FnScope ["pool", "many", "cell"] ["pool", "many"] (defScope s_d_law_draw) := ⟨rfl, rfl, rfl, by decide +kernel, rfl, by decide +kernel, by decide +kernel⟩
theorem sc_d_law_often_end : FnScope ["pool", "many", "habit"] ["pool", "many"] (defScope s_d_law_often_end) := ⟨rfl, rfl, rfl, by decide +kernel, rfl, by decide +kernel, by decide +kernel⟩
theorem sc_d_law_is_integer : FnScope ["told"] ["told"] (defScope s_d_law_is_integer) := ⟨rfl, rfl, rfl, by decide +kernel, rfl, by decide +kernel, by decide +kernel⟩
theorem sc_d_law_dates : FnScope ["pool", "many", "wide", "place", "sizes", "holes", "room", "year", "turn", "ahead", "dates"] ["pool", "many"] (defScope s_d_law_dates) := ⟨rfl, rfl, rfl, by decide +kernel, rfl, by decide +kernel, by decide +kernel⟩
theorem sc_d_law_fall : FnScope ["dates", "year", "fallen", "pair"] ["dates", "year"] (defScope s_d_law_fall) := ⟨rfl, rfl, rfl, by decide +kernel, rfl, by decide +kernel, by decide +kernel⟩
theorem sc_d_law_rise : FnScope ["dates", "year", "pair"] ["dates", "year"] (defScope s_d_law_rise) := ⟨rfl, rfl, rfl, by decide +kernel, rfl, by decide +kernel, by decide +kernel⟩
theorem sc_d_law_same : FnScope ["told", "due"] ["told", "due"] (defScope s_d_law_same) := ⟨rfl, rfl, rfl, by decide +kernel, rfl, by decide +kernel, by decide +kernel⟩
theorem sc_d_law_year_right : FnScope ["dates", "year", "inside", "pair", "told"] ["dates", "year"] (defScope s_d_law_year_right) := ⟨rfl, rfl, rfl, by decide +kernel, rfl, by decide +kernel, by decide +kernel⟩
theorem sc_d_law_years : FnScope ["pool", "dates", "years", "pair", "year"] ["pool", "dates"] (defScope s_d_law_years) := ⟨rfl, rfl, rfl, by decide +kernel, rfl, by decide +kernel, by decide +kernel⟩
theorem sc_d_law_counts_right : FnScope ["dates", "many", "pair"] ["dates"] (defScope s_d_law_counts_right) := ⟨rfl, rfl, rfl, by decide +kernel, rfl, by decide +kernel, by decide +kernel⟩
theorem sc_law : FnScope ["script", "pool", "dates", "other", "years", "one", "year", "low", "high"] ["script"] (defScope s_law) := ⟨rfl, rfl, rfl, by decide +kernel, rfl, by decide +kernel, by decide +kernel⟩
/-! ### what the top has left -/
structure Fx (K : PySem.W.Frag) (mg : Str → Option Value) where
  a_has_year : Addr
  d_has_year : FuncData
  F_has_year : Fun K "has_year" "has_year" s_has_year a_has_year d_has_year
  g_has_year : mg "has_year" = some (.ref a_has_year)
  a_fall_to : Addr
  d_fall_to : FuncData
  F_fall_to : Fun K "fall_to" "fall_to" s_fall_to a_fall_to d_fall_to
  g_fall_to : mg "fall_to" = some (.ref a_fall_to)
  a_rise_to : Addr
  d_rise_to : FuncData
  F_rise_to : Fun K "rise_to" "rise_to" s_rise_to a_rise_to d_rise_to
  g_rise_to : mg "rise_to" = some (.ref a_rise_to)
  a_years_in : Addr
  d_years_in : FuncData
  F_years_in : Fun K "years_in" "years_in" s_years_in a_years_in d_years_in
  g_years_in : mg "years_in" = some (.ref a_years_in)
  a_holes_in : Addr
  d_holes_in : FuncData
  F_holes_in : Fun K "holes_in" "holes_in" s_holes_in a_holes_in d_holes_in
  g_holes_in : mg "holes_in" = some (.ref a_holes_in)
  a_d_law_pool : Addr
  d_d_law_pool : FuncData
  F_d_law_pool : Fun K "_law_pool" "_law_pool" s_d_law_pool a_d_law_pool d_d_law_pool
  g_d_law_pool : mg "_law_pool" = some (.ref a_d_law_pool)
  a_d_law_draw : Addr
  d_d_law_draw : FuncData
  F_d_law_draw : Fun K "_law_draw" "_law_draw" s_d_law_draw a_d_law_draw d_d_law_draw
  g_d_law_draw : mg "_law_draw" = some (.ref a_d_law_draw)
  a_d_law_often_end : Addr
  d_d_law_often_end : FuncData
  F_d_law_often_end : Fun K "_law_often_end" "_law_often_end" s_d_law_often_end a_d_law_often_end d_d_law_often_end
  g_d_law_often_end : mg "_law_often_end" = some (.ref a_d_law_often_end)
  a_d_law_is_integer : Addr
  d_d_law_is_integer : FuncData
  F_d_law_is_integer : Fun K "_law_is_integer" "_law_is_integer" s_d_law_is_integer a_d_law_is_integer d_d_law_is_integer
  g_d_law_is_integer : mg "_law_is_integer" = some (.ref a_d_law_is_integer)
  a_d_law_dates : Addr
  d_d_law_dates : FuncData
  F_d_law_dates : Fun K "_law_dates" "_law_dates" s_d_law_dates a_d_law_dates d_d_law_dates
  g_d_law_dates : mg "_law_dates" = some (.ref a_d_law_dates)
  a_d_law_fall : Addr
  d_d_law_fall : FuncData
  F_d_law_fall : Fun K "_law_fall" "_law_fall" s_d_law_fall a_d_law_fall d_d_law_fall
  g_d_law_fall : mg "_law_fall" = some (.ref a_d_law_fall)
  a_d_law_rise : Addr
  d_d_law_rise : FuncData
  F_d_law_rise : Fun K "_law_rise" "_law_rise" s_d_law_rise a_d_law_rise d_d_law_rise
  g_d_law_rise : mg "_law_rise" = some (.ref a_d_law_rise)
  a_d_law_same : Addr
  d_d_law_same : FuncData
  F_d_law_same : Fun K "_law_same" "_law_same" s_d_law_same a_d_law_same d_d_law_same
  g_d_law_same : mg "_law_same" = some (.ref a_d_law_same)
  a_d_law_year_right : Addr
  d_d_law_year_right : FuncData
  F_d_law_year_right : Fun K "_law_year_right" "_law_year_right" s_d_law_year_right a_d_law_year_right d_d_law_year_right
  g_d_law_year_right : mg "_law_year_right" = some (.ref a_d_law_year_right)
  a_d_law_years : Addr
  d_d_law_years : FuncData
  F_d_law_years : Fun K "_law_years" "_law_years" s_d_law_years a_d_law_years d_d_law_years
  g_d_law_years : mg "_law_years" = some (.ref a_d_law_years)
  a_d_law_counts_right : Addr
  d_d_law_counts_right : FuncData
  F_d_law_counts_right : Fun K "_law_counts_right" "_law_counts_right" s_d_law_counts_right a_d_law_counts_right d_d_law_counts_right
  g_d_law_counts_right : mg "_law_counts_right" = some (.ref a_d_law_counts_right)
  a_law : Addr
  d_law : FuncData
  F_law : Fun K "law" "law" s_law a_law d_law
  g_law : mg "law" = some (.ref a_law)
  b_bool : mg "bool" = none
  b_int : mg "int" = none
  b_isinstance : mg "isinstance" = none
  b_len : mg "len" = none
  b_max : mg "max" = none
  b_min : mg "min" = none
  b_range : mg "range" = none
  b_sum : mg "sum" = none
  b_tuple : mg "tuple" = none
variable {P : Program} {w : World} {K : PySem.W.Frag} {mg : Str → Option Value} {base : Heap}
theorem bd_has_year (X : Fx K mg) : Binds K X.d_has_year ["dates", "year"] [] := X.F_has_year.binds (ps := ["dates", "year"]) fun _ _ _ _ _ _ us hl => match us, hl with | [_, _], _ => rfl
theorem bd_fall_to (X : Fx K mg) : Binds K X.d_fall_to ["dates", "year"] [] := X.F_fall_to.binds (ps := ["dates", "year"]) fun _ _ _ _ _ _ us hl => match us, hl with | [_, _], _ => rfl
theorem bd_rise_to (X : Fx K mg) : Binds K X.d_rise_to ["dates", "year"] [] := X.F_rise_to.binds (ps := ["dates", "year"]) fun _ _ _ _ _ _ us hl => match us, hl with | [_, _], _ => rfl
theorem bd_years_in (X : Fx K mg) : Binds K X.d_years_in ["dates"] [] := X.F_years_in.binds (ps := ["dates"]) fun _ _ _ _ _ _ us hl => match us, hl with | [_], _ => rfl
theorem bd_holes_in (X : Fx K mg) : Binds K X.d_holes_in ["dates"] [] := X.F_holes_in.binds (ps := ["dates"]) fun _ _ _ _ _ _ us hl => match us, hl with | [_], _ => rfl
theorem bd_d_law_pool (X : Fx K mg) : Binds K X.d_d_law_pool ["script"] [] := X.F_d_law_pool.binds (ps := ["script"]) fun _ _ _ _ _ _ us hl => match us, hl with | [_], _ => rfl
theorem bd_d_law_draw (X : Fx K mg) : Binds K X.d_d_law_draw ["pool", "many"] [] := X.F_d_law_draw.binds (ps := ["pool", "many"]) fun _ _ _ _ _ _ us hl => match us, hl with | [_, _], _ => rfl
theorem bd_d_law_often_end (X : Fx K mg) : Binds K X.d_d_law_often_end ["pool", "many"] [] := X.F_d_law_often_end.binds (ps := ["pool", "many"]) fun _ _ _ _ _ _ us hl => match us, hl with | [_, _], _ => rfl
theorem bd_d_law_is_integer (X : Fx K mg) : Binds K X.d_d_law_is_integer ["told"] [] := X.F_d_law_is_integer.binds (ps := ["told"]) fun _ _ _ _ _ _ us hl => match us, hl with | [_], _ => rfl
theorem bd_d_law_dates (X : Fx K mg) : Binds K X.d_d_law_dates ["pool", "many"] [] := X.F_d_law_dates.binds (ps := ["pool", "many"]) fun _ _ _ _ _ _ us hl => match us, hl with | [_, _], _ => rfl
theorem bd_d_law_fall (X : Fx K mg) : Binds K X.d_d_law_fall ["dates", "year"] [] := X.F_d_law_fall.binds (ps := ["dates", "year"]) fun _ _ _ _ _ _ us hl => match us, hl with | [_, _], _ => rfl
theorem bd_d_law_rise (X : Fx K mg) : Binds K X.d_d_law_rise ["dates", "year"] [] := X.F_d_law_rise.binds (ps := ["dates", "year"]) fun _ _ _ _ _ _ us hl => match us, hl with | [_, _], _ => rfl
theorem bd_d_law_same (X : Fx K mg) : Binds K X.d_d_law_same ["told", "due"] [] := X.F_d_law_same.binds (ps := ["told", "due"]) fun _ _ _ _ _ _ us hl => match us, hl with | [_, _], _ => rfl
theorem bd_d_law_year_right (X : Fx K mg) : Binds K X.d_d_law_year_right ["dates", "year"] [] := X.F_d_law_year_right.binds (ps := ["dates", "year"]) fun _ _ _ _ _ _ us hl => match us, hl with | [_, _], _ => rfl
theorem bd_d_law_years (X : Fx K mg) : Binds K X.d_d_law_years ["pool", "dates"] [] := X.F_d_law_years.binds (ps := ["pool", "dates"]) fun _ _ _ _ _ _ us hl => match us, hl with | [_, _], _ => rfl
theorem bd_d_law_counts_right (X : Fx K mg) : Binds K X.d_d_law_counts_right ["dates"] [] := X.F_d_law_counts_right.binds (ps := ["dates"]) fun _ _ _ _ _ _ us hl => match us, hl with | [_], _ => rfl
theorem bd_law (X : Fx K mg) : Binds K X.d_law ["script"] [] := X.F_law.binds (ps := ["script"]) fun _ _ _ _ _ _ us hl => match us, hl with | [_], _ => rfl
/-! ### mirrors and derivations -/
noncomputable def bl_has_year_1 : MS := sIf (tV (eChain dLe dLe (eV 2) (eV 1) (eV 3))) (sRet (eC (.bl true))) (sNil)
noncomputable def b_has_year : MS := sSeq (sFor (iSeq (eV 0)) (gT 2 (gsC (gN 2) (gsC (gN 3) (gsN)))) (bl_has_year_1))
  (sRet (eC (.bl false)))
noncomputable def m_has_year : List D → Store → R D := fnM 4 2 b_has_year
theorem ok_has_year (X : Fx K mg) : FnOk P w K mg base (L2.CX P w) 1 X.a_has_year X.d_has_year ["dates", "year"] (spM K mg 2 m_has_year) :=
  okM (k := 0) X.F_has_year sc_has_year rfl fun cdv A outer s H E hr tk =>
    (css_cons (cs_for (passes_of rfl) rfl (ci_seq (ce_v 0)) (cg_tup (n := 2) rfl (cgs_cons (us := [2, 3]) (cg_name (i := 2) sc_has_year.nd rfl (by first | exact Or.inl rfl | exact Or.inr rfl)) (cgs_cons (us := [3]) (cg_name (i := 3) sc_has_year.nd rfl (by first | exact Or.inl rfl | exact Or.inr rfl)) (cgs_nil (vs := []))))) (css_one (cs_if (ct_chain opA_le ops_le opA_le ops_le (ce_v 2) (ce_v 1) (ce_v 3)) (css_one (cs_ret (ce_bl))) (css_nil))))
    (css_one (cs_ret (ce_bl))) :
      PSs _ _ (Ts _ _ _ b_has_year))
noncomputable def bl_fall_to_1 : MS := sSeq (sIf (tV (e2 dGt (eV 3) (eV 1))) (sBrk) (sNil))
  (sSet 2 (eFn dMin2 (aCons (eV 4) (aCons (eV 1) (aNil)))))
noncomputable def b_fall_to : MS := sSeq (sSet 2 (eC .non))
  (sSeq (sFor (iSeq (eV 0)) (gT 2 (gsC (gN 3) (gsC (gN 4) (gsN)))) (bl_fall_to_1))
  (sRet (eV 2)))
noncomputable def m_fall_to : List D → Store → R D := fnM 5 2 b_fall_to
theorem ok_fall_to (X : Fx K mg) : FnOk P w K mg base (L2.CX P w) 1 X.a_fall_to X.d_fall_to ["dates", "year"] (spM K mg 2 m_fall_to) :=
  okM (k := 0) X.F_fall_to sc_fall_to rfl fun cdv A outer s H E hr tk =>
    (css_cons (cs_set (j := 2) sc_fall_to.nd rfl (Or.inl rfl) (ce_non))
    (css_cons (cs_for (passes_of rfl) rfl (ci_seq (ce_v 0)) (cg_tup (n := 2) rfl (cgs_cons (us := [3, 4]) (cg_name (i := 3) sc_fall_to.nd rfl (by first | exact Or.inl rfl | exact Or.inr rfl)) (cgs_cons (us := [4]) (cg_name (i := 4) sc_fall_to.nd rfl (by first | exact Or.inl rfl | exact Or.inr rfl)) (cgs_nil (vs := []))))) (css_cons (cs_if (ct_cmp opA_gt ops_gt (ce_v 3) (ce_v 1) (nomark _)) (css_one (cs_break)) (css_nil))
    (css_one (cs_set (j := 2) sc_fall_to.nd rfl (Or.inl rfl) (ce_callB (call_min2 rfl) fns_min2 (by rfl) X.b_min (by decide +kernel) (ca_cons (ce_v 4) (ca_cons (ce_v 1) (ca_nil))))))))
    (css_one (cs_ret (ce_v 2)))) :
      PSs _ _ (Ts _ _ _ b_fall_to))
noncomputable def bl_rise_to_1 : MS := sIf (tV (e2 dGe (eV 3) (eV 1))) (sRet (eFn dMax2 (aCons (eV 2) (aCons (eV 1) (aNil))))) (sNil)
noncomputable def b_rise_to : MS := sSeq (sFor (iSeq (eV 0)) (gT 2 (gsC (gN 2) (gsC (gN 3) (gsN)))) (bl_rise_to_1))
  (sRet (eC .non))
noncomputable def m_rise_to : List D → Store → R D := fnM 4 2 b_rise_to
theorem ok_rise_to (X : Fx K mg) : FnOk P w K mg base (L2.CX P w) 1 X.a_rise_to X.d_rise_to ["dates", "year"] (spM K mg 2 m_rise_to) :=
  okM (k := 0) X.F_rise_to sc_rise_to rfl fun cdv A outer s H E hr tk =>
    (css_cons (cs_for (passes_of rfl) rfl (ci_seq (ce_v 0)) (cg_tup (n := 2) rfl (cgs_cons (us := [2, 3]) (cg_name (i := 2) sc_rise_to.nd rfl (by first | exact Or.inl rfl | exact Or.inr rfl)) (cgs_cons (us := [3]) (cg_name (i := 3) sc_rise_to.nd rfl (by first | exact Or.inl rfl | exact Or.inr rfl)) (cgs_nil (vs := []))))) (css_one (cs_if (ct_cmp opA_ge ops_ge (ce_v 3) (ce_v 1) (nomark _)) (css_one (cs_ret (ce_callB (call_max2 rfl) fns_max2 (by rfl) X.b_max (by decide +kernel) (ca_cons (ce_v 2) (ca_cons (ce_v 1) (ca_nil)))))) (css_nil))))
    (css_one (cs_ret (ce_non))) :
      PSs _ _ (Ts _ _ _ b_rise_to))
noncomputable def le_years_in_1 : ME D := e2 dAdd (e2 dSub (eV 2) (eV 1)) (eC (.int 1))
noncomputable def b_years_in : MS := sRet (eFn dSum (aCons (eLc (iSeq (eV 0)) [1, 2] (gT 2 (gsC (gN 1) (gsC (gN 2) (gsN)))) (tT) (le_years_in_1)) (aNil)))
noncomputable def m_years_in : List D → Store → R D := fnM 3 1 b_years_in
theorem ok_years_in (X : Fx K mg) : FnOk P w K mg base (L2.CX P w) 1 X.a_years_in X.d_years_in ["dates"] (spM K mg 1 m_years_in) :=
  okM (k := 0) X.F_years_in sc_years_in rfl fun cdv A outer s H E hr tk =>
    (css_one (cs_ret (ce_callB (cr_sum rfl) fns_sum (by rfl) X.b_sum (by decide +kernel) (ca_cons (ce_lc (own := [("low", 1), ("high", 2)]) rfl sc_years_in.nd (ci_seq (ce_v 0)) (blkOk_by (N := ["dates", "low", "high"]) (sc := defScope s_years_in) (by decide +kernel)) (fun _ _ _ _ _ => cg_tup (n := 2) rfl (cgs_cons (us := [1, 2]) (cg_name (i := 1) sc_years_in.nd rfl (by first | exact Or.inl rfl | exact Or.inr rfl)) (cgs_cons (us := [2]) (cg_name (i := 2) sc_years_in.nd rfl (by first | exact Or.inl rfl | exact Or.inr rfl)) (cgs_nil (vs := []))))) (fun _ _ _ _ _ => cts_nil) (fun _ _ _ _ _ => ce_op op_addA ops_add (ce_op op_sub ops_sub (ce_v 2) (ce_v 1)) (ce_int))) (ca_nil)))) :
      PSs _ _ (Ts _ _ _ b_years_in))
noncomputable def b_holes_in : MS := sRet (eFn dMax2 (aCons (eC (.int 0)) (aCons (e2 dSub (eFn dLen (aCons (eV 0) (aNil))) (eC (.int 1))) (aNil))))
noncomputable def m_holes_in : List D → Store → R D := fnM 1 1 b_holes_in
theorem ok_holes_in (X : Fx K mg) : FnOk P w K mg base (L2.CX P w) 1 X.a_holes_in X.d_holes_in ["dates"] (spM K mg 1 m_holes_in) :=
  okM (k := 0) X.F_holes_in sc_holes_in rfl fun cdv A outer s H E hr tk =>
    (css_one (cs_ret (ce_callB (call_max2 rfl) fns_max2 (by rfl) X.b_max (by decide +kernel) (ca_cons (ce_int) (ca_cons (ce_op op_sub ops_sub (ce_callB call_len fns_len (by rfl) X.b_len (by decide +kernel) (ca_cons (ce_v 0) (ca_nil))) (ce_int)) (ca_nil))))) :
      PSs _ _ (Ts _ _ _ b_holes_in))
noncomputable def bl_d_law_pool_1 : MS := sSeq (sSet 4 (eFn dInt (aCons (eV 3) (aNil))))
  (sSeq (sIf (tV (e2 dLt (eV 4) (eC (.int 0)))) (sSet 4 (e2 dSub (eC (.int 11)) (e2 dMul (eC (.int 2)) (eV 4)))) (sNil))
  (sSeq (sSet 1 (e2 dMod (eFn dInt (aCons (e2 dAdd (e2 dAdd (e2 dMul (eV 1) (eC (.int 45991))) (e2 dMul (e2 dMod (eV 4) (eC (.int 1000039))) (eC (.int 17)))) (eC (.int 9))) (aNil))) (eC (.int 2147483579))))
  (sIf (tV (e2 dGe (eV 4) (e2 dPow (eC (.int 10)) (eC (.int 18))))) (sExpr (eMt "list" dAppend (eV 2) (aCons (eV 4) (aNil)))) (sNil))))
noncomputable def b_d_law_pool : MS := sSeq (sSet 1 (eC (.int 70001)))
  (sSeq (sSet 2 (eLst (aNil)))
  (sSeq (sFor (iSeq (eSl dSl (eV 0) (oNone) (oSome (eC (.int 63))))) (gN 3) (bl_d_law_pool_1))
  (sRet (e2 dAdd (eLst (aCons (eV 1) (aNil))) (eV 2)))))
noncomputable def m_d_law_pool : List D → Store → R D := fnM 5 1 b_d_law_pool
theorem ok_d_law_pool (X : Fx K mg) : FnOk P w K mg base (L2.CX P w) 1 X.a_d_law_pool X.d_d_law_pool ["script"] (spM K mg 1 m_d_law_pool) :=
  okM (k := 0) X.F_d_law_pool sc_d_law_pool rfl fun cdv A outer s H E hr tk =>
    (css_cons (cs_set (j := 1) sc_d_law_pool.nd rfl (Or.inl rfl) (ce_int))
    (css_cons (cs_set (j := 2) sc_d_law_pool.nd rfl (Or.inl rfl) (ce_lst (ca_nil)))
    (css_cons (cs_for (passes_of rfl) rfl (ci_seq (ce_sl sl_LT sls_LT (ce_v 0) (co_none) (co_some (ce_int)))) (cg_name (i := 3) sc_d_law_pool.nd rfl (by first | exact Or.inl rfl | exact Or.inr rfl)) (css_cons (cs_set (j := 4) sc_d_law_pool.nd rfl (Or.inl rfl) (ce_callTy call_int1 fns_int (by rfl) X.b_int (by decide +kernel) (ca_cons (ce_v 3) (ca_nil))))
    (css_cons (cs_if (ct_cmp opA_lt ops_lt (ce_v 4) (ce_int) (nomark _)) (css_one (cs_set (j := 4) sc_d_law_pool.nd rfl (Or.inl rfl) (ce_op op_sub ops_sub (ce_int) (ce_op op_mul ops_mul (ce_int) (ce_v 4))))) (css_nil))
    (css_cons (cs_set (j := 1) sc_d_law_pool.nd rfl (Or.inl rfl) (ce_op op_mod ops_mod (ce_callTy call_int1 fns_int (by rfl) X.b_int (by decide +kernel) (ca_cons (ce_op op_addA ops_add (ce_op op_addA ops_add (ce_op op_mul ops_mul (ce_v 1) (ce_int)) (ce_op op_mul ops_mul (ce_op op_mod ops_mod (ce_v 4) (ce_int)) (ce_int))) (ce_int)) (ca_nil))) (ce_int)))
    (css_one (cs_if (ct_cmp opA_ge ops_ge (ce_v 4) (ce_op op_pow ops_pow (ce_int) (ce_int)) (nomark _)) (css_one (cs_expr (ce_bm PySem.F.plainAttrs_list PySem.F.slot_list_append PySem.F.type_list_append mt_append mts_append (ce_v 2) (ca_cons (ce_v 4) (ca_nil))))) (css_nil)))))))
    (css_one (cs_ret (ce_op op_addA ops_add (ce_lst (ca_cons (ce_v 1) (ca_nil))) (ce_v 2)))))) :
      PSs _ _ (Ts _ _ _ b_d_law_pool))
noncomputable def b_d_law_draw : MS := sSeq (sIf (tV (e2 dGt (eFn dLen (aCons (eV 0) (aNil))) (eC (.int 1)))) (sSeq (sSet 2 (eMt0 "list" dPop (eV 0)))
  (sSeq (sIf (tV (e2 dGe (eV 2) (eV 1))) (sExpr (eMt "list" dAppend (eV 0) (aCons (e2 dDiv (eV 2) (eV 1)) (aNil)))) (sNil))
  (sRet (e2 dMod (eFn dInt (aCons (eV 2) (aNil))) (eV 1))))) (sNil))
  (sSeq (sPut pList (eV 0) (eC (.int 0)) (e2 dMod (eFn dInt (aCons (e2 dAdd (e2 dMul (e2 dIx (eV 0) (eC (.int 0))) (eC (.int 25214))) (eC (.int 2741))) (aNil))) (eC (.int 2147483579))))
  (sRet (e2 dMod (e2 dMod (eFn dInt (aCons (e2 dAdd (e2 dMul (e2 dDiv (e2 dIx (eV 0) (eC (.int 0))) (eC (.int 32))) (eC (.int 10039))) (e2 dIx (eV 0) (eC (.int 0)))) (aNil))) (eC (.int 1000000021))) (eV 1))))
noncomputable def m_d_law_draw : List D → Store → R D := fnM 3 2 b_d_law_draw
theorem ok_d_law_draw (X : Fx K mg) : FnOk P w K mg base (L2.CX P w) 1 X.a_d_law_draw X.d_d_law_draw ["pool", "many"] (spM K mg 2 m_d_law_draw) :=
  okM (k := 0) X.F_d_law_draw sc_d_law_draw rfl fun cdv A outer s H E hr tk =>
    (css_cons (cs_if (ct_cmp opA_gt ops_gt (ce_callB call_len fns_len (by rfl) X.b_len (by decide +kernel) (ca_cons (ce_v 0) (ca_nil))) (ce_int) (nomark _)) (css_cons (cs_set (j := 2) sc_d_law_draw.nd rfl (Or.inl rfl) (ce_bm0 PySem.F.plainAttrs_list PySem.F.slot_list_pop PySem.F.type_list_pop mt_pop mts_pop (ce_v 0)))
    (css_cons (cs_if (ct_cmp opA_ge ops_ge (ce_v 2) (ce_v 1) (nomark _)) (css_one (cs_expr (ce_bm PySem.F.plainAttrs_list PySem.F.slot_list_append PySem.F.type_list_append mt_append mts_append (ce_v 0) (ca_cons (ce_op op_fdiv ops_div (ce_v 2) (ce_v 1)) (ca_nil))))) (css_nil))
    (css_one (cs_ret (ce_op op_mod ops_mod (ce_callTy call_int1 fns_int (by rfl) X.b_int (by decide +kernel) (ca_cons (ce_v 2) (ca_nil))) (ce_v 1)))))) (css_nil))
    (css_cons (cs_put (ce_op op_mod ops_mod (ce_callTy call_int1 fns_int (by rfl) X.b_int (by decide +kernel) (ca_cons (ce_op op_addA ops_add (ce_op op_mul ops_mul (ce_ix ix_seq ops_ix (ce_v 0) (ce_int) (fun _ _ => rfl)) (ce_int)) (ce_int)) (ca_nil))) (ce_int)) (ce_v 0) (ce_int) set_list puts_list)
    (css_one (cs_ret (ce_op op_mod ops_mod (ce_op op_mod ops_mod (ce_callTy call_int1 fns_int (by rfl) X.b_int (by decide +kernel) (ca_cons (ce_op op_addA ops_add (ce_op op_mul ops_mul (ce_op op_fdiv ops_div (ce_ix ix_seq ops_ix (ce_v 0) (ce_int) (fun _ _ => rfl)) (ce_int)) (ce_int)) (ce_ix ix_seq ops_ix (ce_v 0) (ce_int) (fun _ _ => rfl))) (ca_nil))) (ce_int)) (ce_v 1))))) :
      PSs _ _ (Ts _ _ _ b_d_law_draw))
noncomputable def b_d_law_is_integer : MS := sRet (eAnd (e1 (dIsi "int") (eV 0)) (eNot (e1 (dIsi "bool") (eV 0))))
noncomputable def m_d_law_is_integer : List D → Store → R D := fnM 1 1 b_d_law_is_integer
theorem ok_d_law_is_integer (X : Fx K mg) : FnOk P w K mg base (L2.CX P w) 1 X.a_d_law_is_integer X.d_d_law_is_integer ["told"] (spM K mg 1 m_d_law_is_integer) :=
  okM (k := 0) X.F_d_law_is_integer sc_d_law_is_integer rfl fun cdv A outer s H E hr tk =>
    (css_one (cs_ret (ce_and (ce_isi (T := "int") (by rfl) X.b_isinstance (by rfl) X.b_int (by decide +kernel) (ce_v 0)) (ce_one (ce_not (ce_isi (T := "bool") (by rfl) X.b_isinstance (by rfl) X.b_bool (by decide +kernel) (ce_v 0)))))) :
      PSs _ _ (Ts _ _ _ b_d_law_is_integer))
noncomputable def bl_d_law_fall_1 : MS := sIf (tV (e2 dLe (e2 dIx (eV 3) (eC (.int 0))) (eV 1))) (sSet 2 (eFn dMin2 (aCons (eV 1) (aCons (e2 dIx (eV 3) (eC (.int 1))) (aNil))))) (sNil)
noncomputable def b_d_law_fall : MS := sSeq (sSet 2 (eC .non))
  (sSeq (sFor (iSeq (eV 0)) (gN 3) (bl_d_law_fall_1))
  (sRet (eV 2)))
noncomputable def m_d_law_fall : List D → Store → R D := fnM 4 2 b_d_law_fall
theorem ok_d_law_fall (X : Fx K mg) : FnOk P w K mg base (L2.CX P w) 1 X.a_d_law_fall X.d_d_law_fall ["dates", "year"] (spM K mg 2 m_d_law_fall) :=
  okM (k := 0) X.F_d_law_fall sc_d_law_fall rfl fun cdv A outer s H E hr tk =>
    (css_cons (cs_set (j := 2) sc_d_law_fall.nd rfl (Or.inl rfl) (ce_non))
    (css_cons (cs_for (passes_of rfl) rfl (ci_seq (ce_v 0)) (cg_name (i := 3) sc_d_law_fall.nd rfl (by first | exact Or.inl rfl | exact Or.inr rfl)) (css_one (cs_if (ct_cmp opA_le ops_le (ce_ix ix_seq ops_ix (ce_v 3) (ce_int) (fun _ _ => rfl)) (ce_v 1) (nomark _)) (css_one (cs_set (j := 2) sc_d_law_fall.nd rfl (Or.inl rfl) (ce_callB (call_min2 rfl) fns_min2 (by rfl) X.b_min (by decide +kernel) (ca_cons (ce_v 1) (ca_cons (ce_ix ix_seq ops_ix (ce_v 3) (ce_int) (fun _ _ => rfl)) (ca_nil)))))) (css_nil))))
    (css_one (cs_ret (ce_v 2)))) :
      PSs _ _ (Ts _ _ _ b_d_law_fall))
noncomputable def bl_d_law_rise_1 : MS := sIf (tV (e2 dGe (e2 dIx (eV 2) (eC (.int 1))) (eV 1))) (sRet (eFn dMax2 (aCons (eV 1) (aCons (e2 dIx (eV 2) (eC (.int 0))) (aNil))))) (sNil)
noncomputable def b_d_law_rise : MS := sSeq (sFor (iSeq (eV 0)) (gN 2) (bl_d_law_rise_1))
  (sRet (eC .non))
noncomputable def m_d_law_rise : List D → Store → R D := fnM 3 2 b_d_law_rise
theorem ok_d_law_rise (X : Fx K mg) : FnOk P w K mg base (L2.CX P w) 1 X.a_d_law_rise X.d_d_law_rise ["dates", "year"] (spM K mg 2 m_d_law_rise) :=
  okM (k := 0) X.F_d_law_rise sc_d_law_rise rfl fun cdv A outer s H E hr tk =>
    (css_cons (cs_for (passes_of rfl) rfl (ci_seq (ce_v 0)) (cg_name (i := 2) sc_d_law_rise.nd rfl (by first | exact Or.inl rfl | exact Or.inr rfl)) (css_one (cs_if (ct_cmp opA_ge ops_ge (ce_ix ix_seq ops_ix (ce_v 2) (ce_int) (fun _ _ => rfl)) (ce_v 1) (nomark _)) (css_one (cs_ret (ce_callB (call_max2 rfl) fns_max2 (by rfl) X.b_max (by decide +kernel) (ca_cons (ce_v 1) (ca_cons (ce_ix ix_seq ops_ix (ce_v 2) (ce_int) (fun _ _ => rfl)) (ca_nil)))))) (css_nil))))
    (css_one (cs_ret (ce_non))) :
      PSs _ _ (Ts _ _ _ b_d_law_rise))
noncomputable def b_d_law_often_end : MS := sSeq (sSet 2 (eCall m_d_law_draw (aCons (eV 0) (aCons (eC (.int 7)) (aNil)))))
  (sSeq (sIf (tV (e2 dEq (eV 2) (eC (.int 0)))) (sRet (eC (.int 0))) (sNil))
  (sSeq (sIf (tV (e2 dEq (eV 2) (eC (.int 1)))) (sRet (e2 dSub (eV 1) (eC (.int 1)))) (sNil))
  (sRet (eCall m_d_law_draw (aCons (eV 0) (aCons (eV 1) (aNil)))))))
noncomputable def m_d_law_often_end : List D → Store → R D := fnM 3 2 b_d_law_often_end
theorem ok_d_law_often_end (X : Fx K mg) : FnOk P w K mg base (L2.CX P w) 2 X.a_d_law_often_end X.d_d_law_often_end ["pool", "many"] (spM K mg 2 m_d_law_often_end) :=
  okM (k := 1) X.F_d_law_often_end sc_d_law_often_end rfl fun cdv A outer s H E hr tk =>
    (css_cons (cs_set (j := 2) sc_d_law_often_end.nd rfl (Or.inl rfl) (ce_call (n := 2) (ok_d_law_draw X) (hr.mono (by decide)) tk (by rfl) X.g_d_law_draw X.F_d_law_draw.kp (bd_d_law_draw X) (an_cons (an_cons an_nil)) (ca_cons (ce_v 0) (ca_cons (ce_int) (ca_nil)))))
    (css_cons (cs_if (ct_cmp (opA_eq hr.units) ops_eq (ce_v 2) (ce_int) (nomark _)) (css_one (cs_ret (ce_int))) (css_nil))
    (css_cons (cs_if (ct_cmp (opA_eq hr.units) ops_eq (ce_v 2) (ce_int) (nomark _)) (css_one (cs_ret (ce_op op_sub ops_sub (ce_v 1) (ce_int)))) (css_nil))
    (css_one (cs_ret (ce_call (n := 2) (ok_d_law_draw X) (hr.mono (by decide)) tk (by rfl) X.g_d_law_draw X.F_d_law_draw.kp (bd_d_law_draw X) (an_cons (an_cons an_nil)) (ca_cons (ce_v 0) (ca_cons (ce_v 1) (ca_nil)))))))) :
      PSs _ _ (Ts _ _ _ b_d_law_often_end))
noncomputable def b_d_law_same : MS := sSeq (sIf (tV (e2 dIs (eV 1) (eC .non))) (sRet (e2 dIs (eV 0) (eC .non))) (sNil))
  (sRet (eAnd (eCall m_d_law_is_integer (aCons (eV 0) (aNil))) (e2 dEq (eV 0) (eV 1))))
noncomputable def m_d_law_same : List D → Store → R D := fnM 2 2 b_d_law_same
theorem ok_d_law_same (X : Fx K mg) : FnOk P w K mg base (L2.CX P w) 2 X.a_d_law_same X.d_d_law_same ["told", "due"] (spM K mg 2 m_d_law_same) :=
  okM (k := 1) X.F_d_law_same sc_d_law_same rfl fun cdv A outer s H E hr tk =>
    (css_cons (cs_if (ct_cmp opA_is ops_is (ce_v 1) (ce_non) (nomark _)) (css_one (cs_ret (ce_cmp opA_is ops_is (ce_v 0) (ce_non) (nomark _)))) (css_nil))
    (css_one (cs_ret (ce_and (ce_call (n := 1) (ok_d_law_is_integer X) (hr.mono (by decide)) tk (by rfl) X.g_d_law_is_integer X.F_d_law_is_integer.kp (bd_d_law_is_integer X) (an_cons an_nil) (ca_cons (ce_v 0) (ca_nil))) (ce_one (ce_cmp (opA_eq hr.units) ops_eq (ce_v 0) (ce_v 1) (nomark _)))))) :
      PSs _ _ (Ts _ _ _ b_d_law_same))
noncomputable def lt_d_law_years_1 : ME Bool := tAnd (tV (e2 dGe (eV 4) (e1 dNeg (eC (.int 9999))))) (tV (e2 dLe (eV 4) (eC (.int 9999))))
noncomputable def le_d_law_years_2 : ME D := eV 4
noncomputable def bl_d_law_years_3 : MS := sSeq (sSet 2 (e2 dAdd (eV 2) (eLst (aCons (e2 dSub (e2 dIx (eV 3) (eC (.int 0))) (eC (.int 1))) (aCons (e2 dIx (eV 3) (eC (.int 0))) (aCons (e2 dIx (eV 3) (eC (.int 1))) (aCons (e2 dAdd (e2 dIx (eV 3) (eC (.int 1))) (eC (.int 1))) (aNil))))))))
  (sSeq (sExpr (eMt "list" dAppend (eV 2) (aCons (e2 dAdd (e2 dIx (eV 3) (eC (.int 0))) (eCall m_d_law_draw (aCons (eV 0) (aCons (e2 dSub (e2 dAdd (eC (.int 1)) (e2 dIx (eV 3) (eC (.int 1)))) (e2 dIx (eV 3) (eC (.int 0)))) (aNil))))) (aNil))))
  (sExpr (eMt "list" dAppend (eV 2) (aCons (e2 dAdd (e2 dAdd (e2 dIx (eV 3) (eC (.int 1))) (eC (.int 1))) (eCall m_d_law_draw (aCons (eV 0) (aCons (eC (.int 800)) (aNil))))) (aNil)))))
noncomputable def b_d_law_years : MS := sSeq (sSet 2 (eLst (aCons (e1 dNeg (eC (.int 9999))) (aCons (eC (.int 9999)) (aCons (eC (.int 0)) (aCons (e2 dSub (eCall m_d_law_draw (aCons (eV 0) (aCons (eC (.int 19999)) (aNil)))) (eC (.int 9999))) (aNil)))))))
  (sSeq (sFor (iSeq (eV 1)) (gN 3) (bl_d_law_years_3))
  (sRet (eLc (iSeq (eV 2)) [4] (gN 4) (lt_d_law_years_1) (le_d_law_years_2))))
noncomputable def m_d_law_years : List D → Store → R D := fnM 5 2 b_d_law_years
theorem ok_d_law_years (X : Fx K mg) : FnOk P w K mg base (L2.CX P w) 2 X.a_d_law_years X.d_d_law_years ["pool", "dates"] (spM K mg 2 m_d_law_years) :=
  okM (k := 1) X.F_d_law_years sc_d_law_years rfl fun cdv A outer s H E hr tk =>
    (css_cons (cs_set (j := 2) sc_d_law_years.nd rfl (Or.inl rfl) (ce_lst (ca_cons (ce_un un_neg uns_neg (ce_int)) (ca_cons (ce_int) (ca_cons (ce_int) (ca_cons (ce_op op_sub ops_sub (ce_call (n := 2) (ok_d_law_draw X) (hr.mono (by decide)) tk (by rfl) X.g_d_law_draw X.F_d_law_draw.kp (bd_d_law_draw X) (an_cons (an_cons an_nil)) (ca_cons (ce_v 0) (ca_cons (ce_int) (ca_nil)))) (ce_int)) (ca_nil)))))))
    (css_cons (cs_for (passes_of rfl) rfl (ci_seq (ce_v 1)) (cg_name (i := 3) sc_d_law_years.nd rfl (by first | exact Or.inl rfl | exact Or.inr rfl)) (css_cons (cs_set (j := 2) sc_d_law_years.nd rfl (Or.inl rfl) (ce_op op_addA ops_add (ce_v 2) (ce_lst (ca_cons (ce_op op_sub ops_sub (ce_ix ix_seq ops_ix (ce_v 3) (ce_int) (fun _ _ => rfl)) (ce_int)) (ca_cons (ce_ix ix_seq ops_ix (ce_v 3) (ce_int) (fun _ _ => rfl)) (ca_cons (ce_ix ix_seq ops_ix (ce_v 3) (ce_int) (fun _ _ => rfl)) (ca_cons (ce_op op_addA ops_add (ce_ix ix_seq ops_ix (ce_v 3) (ce_int) (fun _ _ => rfl)) (ce_int)) (ca_nil))))))))
    (css_cons (cs_expr (ce_bm PySem.F.plainAttrs_list PySem.F.slot_list_append PySem.F.type_list_append mt_append mts_append (ce_v 2) (ca_cons (ce_op op_addA ops_add (ce_ix ix_seq ops_ix (ce_v 3) (ce_int) (fun _ _ => rfl)) (ce_call (n := 2) (ok_d_law_draw X) (hr.mono (by decide)) tk (by rfl) X.g_d_law_draw X.F_d_law_draw.kp (bd_d_law_draw X) (an_cons (an_cons an_nil)) (ca_cons (ce_v 0) (ca_cons (ce_op op_sub ops_sub (ce_op op_addA ops_add (ce_int) (ce_ix ix_seq ops_ix (ce_v 3) (ce_int) (fun _ _ => rfl))) (ce_ix ix_seq ops_ix (ce_v 3) (ce_int) (fun _ _ => rfl))) (ca_nil))))) (ca_nil))))
    (css_one (cs_expr (ce_bm PySem.F.plainAttrs_list PySem.F.slot_list_append PySem.F.type_list_append mt_append mts_append (ce_v 2) (ca_cons (ce_op op_addA ops_add (ce_op op_addA ops_add (ce_ix ix_seq ops_ix (ce_v 3) (ce_int) (fun _ _ => rfl)) (ce_int)) (ce_call (n := 2) (ok_d_law_draw X) (hr.mono (by decide)) tk (by rfl) X.g_d_law_draw X.F_d_law_draw.kp (bd_d_law_draw X) (an_cons (an_cons an_nil)) (ca_cons (ce_v 0) (ca_cons (ce_int) (ca_nil))))) (ca_nil))))))))
    (css_one (cs_ret (ce_lc (own := [("year", 4)]) rfl sc_d_law_years.nd (ci_seq (ce_v 2)) (blkOk_by (N := ["pool", "dates", "years", "pair", "year"]) (sc := defScope s_d_law_years) (by decide +kernel)) (fun _ _ _ _ _ => cg_name (i := 4) sc_d_law_years.nd rfl (by first | exact Or.inl rfl | exact Or.inr rfl)) (fun _ _ _ _ _ => cts_one (PW.pt (cw_and (ct_cmp opA_ge ops_ge (ce_v 4) (ce_un un_neg uns_neg (ce_int)) (nomark _)) (cw_and1 (ct_cmp opA_le ops_le (ce_v 4) (ce_int) (nomark _)))))) (fun _ _ _ _ _ => ce_v 4))))) :
      PSs _ _ (Ts _ _ _ b_d_law_years))
noncomputable def bl_d_law_dates_1 : MS := sSeq (sIf (tV (e2 dGt (eV 3) (eC (.int 0)))) (sSet 7 (e2 dAdd (eV 7) (e2 dIx (eV 5) (eV 3)))) (sNil))
  (sSeq (sExpr (eMt "list" dAppend (eV 10) (aCons (eTup (aCons (eV 7) (aCons (e2 dAdd (eV 7) (e2 dIx (eV 4) (eV 3))) (aNil)))) (aNil))))
  (sSet 7 (e2 dAdd (eV 7) (e2 dIx (eV 4) (eV 3)))))
noncomputable def le_d_law_dates_2 : ME D := e2 dAdd (eC (.int 2)) (eCall m_d_law_often_end (aCons (eV 0) (aCons (eV 2) (aNil))))
noncomputable def le_d_law_dates_3 : ME D := eCall m_d_law_often_end (aCons (eV 0) (aCons (eV 2) (aNil)))
noncomputable def b_d_law_dates : MS := sSeq (sSet 2 (e2 dIx (eLst (aCons (eC (.int 1)) (aCons (eC (.int 2)) (aCons (eC (.int 9)) (aCons (eC (.int 750)) (aNil)))))) (eCall m_d_law_draw (aCons (eV 0) (aCons (eC (.int 4)) (aNil))))))
  (sSeq (sSet 4 (eLc (iRange1 (aCons (eV 1) (aNil))) [3] (gN 3) (tT) (le_d_law_dates_3)))
  (sSeq (sSet 5 (eLc (iRange1 (aCons (eV 1) (aNil))) [3] (gN 3) (tT) (le_d_law_dates_2)))
  (sSeq (sSet 6 (e2 dSub (e2 dSub (eC (.int 9999)) (eFn dSum (aCons (eV 4) (aNil)))) (eFn dSum (aCons (eV 5) (aNil)))))
  (sSeq (sSet 7 (e2 dAdd (e1 dNeg (eC (.int 9999))) (eCall m_d_law_often_end (aCons (eV 0) (aCons (e2 dAdd (eC (.int 9999)) (eV 6)) (aNil))))))
  (sSeq (sSet 8 (eCall m_d_law_draw (aCons (eV 0) (aCons (eC (.int 4)) (aNil)))))
  (sSeq (sIf (tAnd (tV (e2 dGt (eV 1) (eC (.int 0)))) (tV (e2 dEq (eV 8) (eC (.int 0))))) (sSet 7 (e2 dAdd (eV 6) (e2 dIx (eV 5) (eC (.int 0))))) (sNil))
  (sSeq (sIf (tAnd (tV (e2 dGt (eV 1) (eC (.int 0)))) (tV (e2 dGt (eV 8) (eC (.int 1))))) (sSeq (sSet 3 (eCall m_d_law_draw (aCons (eV 0) (aCons (eV 1) (aNil)))))
  (sSeq (sSet 9 (e2 dAdd (e2 dAdd (eFn dSum (aCons (eSl dSl (eV 4) (oNone) (oSome (eV 3))) (aNil))) (eFn dSum (aCons (eSl dSl (eV 5) (oSome (eC (.int 1))) (oSome (e2 dAdd (eV 3) (eC (.int 1))))) (aNil)))) (e2 dMul (e2 dIx (eV 4) (eV 3)) (eCall m_d_law_draw (aCons (eV 0) (aCons (eC (.int 2)) (aNil)))))))
  (sSet 7 (eFn dMin2 (aCons (eV 6) (aCons (eFn dMax2 (aCons (e1 dNeg (eC (.int 9999))) (aCons (e1 dNeg (eV 9)) (aNil)))) (aNil))))))) (sNil))
  (sSeq (sSet 10 (eLst (aNil)))
  (sSeq (sFor (iRange1 (aCons (eV 1) (aNil))) (gN 3) (bl_d_law_dates_1))
  (sRet (eFn dTuple (aCons (eV 10) (aNil)))))))))))))
noncomputable def m_d_law_dates : List D → Store → R D := fnM 11 2 b_d_law_dates
theorem ok_d_law_dates (X : Fx K mg) : FnOk P w K mg base (L2.CX P w) 3 X.a_d_law_dates X.d_d_law_dates ["pool", "many"] (spM K mg 2 m_d_law_dates) :=
  okM (k := 2) X.F_d_law_dates sc_d_law_dates rfl fun cdv A outer s H E hr tk =>
    (css_cons (cs_set (j := 2) sc_d_law_dates.nd rfl (Or.inr rfl) (ce_ix ix_seq ops_ix (ce_lst (ca_cons (ce_int) (ca_cons (ce_int) (ca_cons (ce_int) (ca_cons (ce_int) (ca_nil)))))) (ce_call (n := 2) (ok_d_law_draw X) (hr.mono (by decide)) tk (by rfl) X.g_d_law_draw X.F_d_law_draw.kp (bd_d_law_draw X) (an_cons (an_cons an_nil)) (ca_cons (ce_v 0) (ca_cons (ce_int) (ca_nil)))) (fun _ _ => rfl)))
    (css_cons (cs_setLc (i := 4) (own := [("place", 3)]) rfl sc_d_law_dates.nd rfl rfl (sw_true rfl rfl rfl (by decide +kernel)) (ci_range1 (by rfl) X.b_range (ca_cons (ce_v 1) (ca_nil))) (blkOk_by (N := ["pool", "many", "wide", "place", "sizes", "holes", "room", "year", "turn", "ahead", "dates"]) (sc := defScope s_d_law_dates) (by decide +kernel)) (fun _ _ _ _ _ => cg_name (i := 3) sc_d_law_dates.nd rfl (by first | exact Or.inl rfl | exact Or.inr rfl)) (fun _ _ _ _ _ => cts_nil) (fun _ _ _ _ _ => ce_call (n := 2) (ok_d_law_often_end X) (hr.mono (by decide)) takes0 (by rfl) X.g_d_law_often_end X.F_d_law_often_end.kp (bd_d_law_often_end X) (an_cons (an_cons an_nil)) (ca_cons (ce_v 0) (ca_cons (ce_v 2) (ca_nil)))))
    (css_cons (cs_setLc (i := 5) (own := [("place", 3)]) rfl sc_d_law_dates.nd rfl rfl (sw_true rfl rfl rfl (by decide +kernel)) (ci_range1 (by rfl) X.b_range (ca_cons (ce_v 1) (ca_nil))) (blkOk_by (N := ["pool", "many", "wide", "place", "sizes", "holes", "room", "year", "turn", "ahead", "dates"]) (sc := defScope s_d_law_dates) (by decide +kernel)) (fun _ _ _ _ _ => cg_name (i := 3) sc_d_law_dates.nd rfl (by first | exact Or.inl rfl | exact Or.inr rfl)) (fun _ _ _ _ _ => cts_nil) (fun _ _ _ _ _ => ce_op op_addA ops_add (ce_int) (ce_call (n := 2) (ok_d_law_often_end X) (hr.mono (by decide)) takes0 (by rfl) X.g_d_law_often_end X.F_d_law_often_end.kp (bd_d_law_often_end X) (an_cons (an_cons an_nil)) (ca_cons (ce_v 0) (ca_cons (ce_v 2) (ca_nil))))))
    (css_cons (cs_set (j := 6) sc_d_law_dates.nd rfl (Or.inl rfl) (ce_op op_sub ops_sub (ce_op op_sub ops_sub (ce_int) (ce_callB (cr_sum rfl) fns_sum (by rfl) X.b_sum (by decide +kernel) (ca_cons (ce_v 4) (ca_nil)))) (ce_callB (cr_sum rfl) fns_sum (by rfl) X.b_sum (by decide +kernel) (ca_cons (ce_v 5) (ca_nil)))))
    (css_cons (cs_set (j := 7) sc_d_law_dates.nd rfl (Or.inl rfl) (ce_op op_addA ops_add (ce_un un_neg uns_neg (ce_int)) (ce_call (n := 2) (ok_d_law_often_end X) (hr.mono (by decide)) tk (by rfl) X.g_d_law_often_end X.F_d_law_often_end.kp (bd_d_law_often_end X) (an_cons (an_cons an_nil)) (ca_cons (ce_v 0) (ca_cons (ce_op op_addA ops_add (ce_int) (ce_v 6)) (ca_nil))))))
    (css_cons (cs_set (j := 8) sc_d_law_dates.nd rfl (Or.inl rfl) (ce_call (n := 2) (ok_d_law_draw X) (hr.mono (by decide)) tk (by rfl) X.g_d_law_draw X.F_d_law_draw.kp (bd_d_law_draw X) (an_cons (an_cons an_nil)) (ca_cons (ce_v 0) (ca_cons (ce_int) (ca_nil)))))
    (css_cons (cs_if (PW.pt (cw_and (ct_cmp opA_gt ops_gt (ce_v 1) (ce_int) (nomark _)) (cw_and1 (ct_cmp (opA_eq hr.units) ops_eq (ce_v 8) (ce_int) (nomark _))))) (css_one (cs_set (j := 7) sc_d_law_dates.nd rfl (Or.inl rfl) (ce_op op_addA ops_add (ce_v 6) (ce_ix ix_seq ops_ix (ce_v 5) (ce_int) (fun _ _ => rfl))))) (css_nil))
    (css_cons (cs_if (PW.pt (cw_and (ct_cmp opA_gt ops_gt (ce_v 1) (ce_int) (nomark _)) (cw_and1 (ct_cmp opA_gt ops_gt (ce_v 8) (ce_int) (nomark _))))) (css_cons (cs_set (j := 3) sc_d_law_dates.nd rfl (Or.inl rfl) (ce_call (n := 2) (ok_d_law_draw X) (hr.mono (by decide)) tk (by rfl) X.g_d_law_draw X.F_d_law_draw.kp (bd_d_law_draw X) (an_cons (an_cons an_nil)) (ca_cons (ce_v 0) (ca_cons (ce_v 1) (ca_nil)))))
    (css_cons (cs_set (j := 9) sc_d_law_dates.nd rfl (Or.inl rfl) (ce_op op_addA ops_add (ce_op op_addA ops_add (ce_callB (cr_sum rfl) fns_sum (by rfl) X.b_sum (by decide +kernel) (ca_cons (ce_sl sl_LT sls_LT (ce_v 4) (co_none) (co_some (ce_v 3))) (ca_nil))) (ce_callB (cr_sum rfl) fns_sum (by rfl) X.b_sum (by decide +kernel) (ca_cons (ce_sl sl_LT sls_LT (ce_v 5) (co_some (ce_int)) (co_some (ce_op op_addA ops_add (ce_v 3) (ce_int)))) (ca_nil)))) (ce_op op_mul ops_mul (ce_ix ix_seq ops_ix (ce_v 4) (ce_v 3) (fun _ _ => rfl)) (ce_call (n := 2) (ok_d_law_draw X) (hr.mono (by decide)) tk (by rfl) X.g_d_law_draw X.F_d_law_draw.kp (bd_d_law_draw X) (an_cons (an_cons an_nil)) (ca_cons (ce_v 0) (ca_cons (ce_int) (ca_nil)))))))
    (css_one (cs_set (j := 7) sc_d_law_dates.nd rfl (Or.inl rfl) (ce_callB (call_min2 rfl) fns_min2 (by rfl) X.b_min (by decide +kernel) (ca_cons (ce_v 6) (ca_cons (ce_callB (call_max2 rfl) fns_max2 (by rfl) X.b_max (by decide +kernel) (ca_cons (ce_un un_neg uns_neg (ce_int)) (ca_cons (ce_un un_neg uns_neg (ce_v 9)) (ca_nil)))) (ca_nil)))))))) (css_nil))
    (css_cons (cs_set (j := 10) sc_d_law_dates.nd rfl (Or.inl rfl) (ce_lst (ca_nil)))
    (css_cons (cs_for (passes_of rfl) rfl (ci_range1 (by rfl) X.b_range (ca_cons (ce_v 1) (ca_nil))) (cg_name (i := 3) sc_d_law_dates.nd rfl (by first | exact Or.inl rfl | exact Or.inr rfl)) (css_cons (cs_if (ct_cmp opA_gt ops_gt (ce_v 3) (ce_int) (nomark _)) (css_one (cs_set (j := 7) sc_d_law_dates.nd rfl (Or.inl rfl) (ce_op op_addA ops_add (ce_v 7) (ce_ix ix_seq ops_ix (ce_v 5) (ce_v 3) (fun _ _ => rfl))))) (css_nil))
    (css_cons (cs_expr (ce_bm PySem.F.plainAttrs_list PySem.F.slot_list_append PySem.F.type_list_append mt_append mts_append (ce_v 10) (ca_cons (ce_tup (ca_cons (ce_v 7) (ca_cons (ce_op op_addA ops_add (ce_v 7) (ce_ix ix_seq ops_ix (ce_v 4) (ce_v 3) (fun _ _ => rfl))) (ca_nil)))) (ca_nil))))
    (css_one (cs_set (j := 7) sc_d_law_dates.nd rfl (Or.inl rfl) (ce_op op_addA ops_add (ce_v 7) (ce_ix ix_seq ops_ix (ce_v 4) (ce_v 3) (fun _ _ => rfl))))))))
    (css_one (cs_ret (ce_callTy call_tuple_of fns_tuple (by rfl) X.b_tuple (by decide +kernel) (ca_cons (ce_v 10) (ca_nil)))))))))))))) :
      PSs _ _ (Ts _ _ _ b_d_law_dates))
noncomputable def bl_d_law_year_right_1 : MS := sIf (tAnd (tV (e2 dLe (e2 dIx (eV 3) (eC (.int 0))) (eV 1))) (tV (e2 dLe (eV 1) (e2 dIx (eV 3) (eC (.int 1)))))) (sSet 2 (eC (.bl true))) (sNil)
noncomputable def b_d_law_year_right : MS := sSeq (sSet 2 (eC (.bl false)))
  (sSeq (sFor (iSeq (eV 0)) (gN 3) (bl_d_law_year_right_1))
  (sSeq (sSet 4 (eCall m_has_year (aCons (eV 0) (aCons (eV 1) (aNil)))))
  (sSeq (sIf (tOr (tNot (tV (e1 (dIsi "bool") (eV 4)))) (tV (e2 dNe (eV 4) (eV 2)))) (sRet (eC (.bl false))) (sNil))
  (sSeq (sIf (tNot (tV (eCall m_d_law_same (aCons (eCall m_fall_to (aCons (eV 0) (aCons (eV 1) (aNil)))) (aCons (eCall m_d_law_fall (aCons (eV 0) (aCons (eV 1) (aNil)))) (aNil)))))) (sRet (eC (.bl false))) (sNil))
  (sRet (eCall m_d_law_same (aCons (eCall m_rise_to (aCons (eV 0) (aCons (eV 1) (aNil)))) (aCons (eCall m_d_law_rise (aCons (eV 0) (aCons (eV 1) (aNil)))) (aNil)))))))))
noncomputable def m_d_law_year_right : List D → Store → R D := fnM 5 2 b_d_law_year_right
theorem ok_d_law_year_right (X : Fx K mg) : FnOk P w K mg base (L2.CX P w) 3 X.a_d_law_year_right X.d_d_law_year_right ["dates", "year"] (spM K mg 2 m_d_law_year_right) :=
  okM (k := 2) X.F_d_law_year_right sc_d_law_year_right rfl fun cdv A outer s H E hr tk =>
    (css_cons (cs_set (j := 2) sc_d_law_year_right.nd rfl (Or.inl rfl) (ce_bl))
    (css_cons (cs_for (passes_of rfl) rfl (ci_seq (ce_v 0)) (cg_name (i := 3) sc_d_law_year_right.nd rfl (by first | exact Or.inl rfl | exact Or.inr rfl)) (css_one (cs_if (PW.pt (cw_and (ct_cmp opA_le ops_le (ce_ix ix_seq ops_ix (ce_v 3) (ce_int) (fun _ _ => rfl)) (ce_v 1) (nomark _)) (cw_and1 (ct_cmp opA_le ops_le (ce_v 1) (ce_ix ix_seq ops_ix (ce_v 3) (ce_int) (fun _ _ => rfl)) (nomark _))))) (css_one (cs_set (j := 2) sc_d_law_year_right.nd rfl (Or.inl rfl) (ce_bl))) (css_nil))))
    (css_cons (cs_set (j := 4) sc_d_law_year_right.nd rfl (Or.inl rfl) (ce_call (n := 2) (ok_has_year X) (hr.mono (by decide)) tk (by rfl) X.g_has_year X.F_has_year.kp (bd_has_year X) (an_cons (an_cons an_nil)) (ca_cons (ce_v 0) (ca_cons (ce_v 1) (ca_nil)))))
    (css_cons (cs_if (PW.pt (cw_or (ct_not (ct_v (ce_isi (T := "bool") (by rfl) X.b_isinstance (by rfl) X.b_bool (by decide +kernel) (ce_v 4)))) (cw_or1 (ct_cmp (opA_ne hr.units) ops_ne (ce_v 4) (ce_v 2) (nomark _))))) (css_one (cs_ret (ce_bl))) (css_nil))
    (css_cons (cs_if (ct_not (ct_v (ce_call (n := 2) (ok_d_law_same X) (hr.mono (by decide)) tk (by rfl) X.g_d_law_same X.F_d_law_same.kp (bd_d_law_same X) (an_cons (an_cons an_nil)) (ca_cons (ce_call (n := 2) (ok_fall_to X) (hr.mono (by decide)) tk (by rfl) X.g_fall_to X.F_fall_to.kp (bd_fall_to X) (an_cons (an_cons an_nil)) (ca_cons (ce_v 0) (ca_cons (ce_v 1) (ca_nil)))) (ca_cons (ce_call (n := 2) (ok_d_law_fall X) (hr.mono (by decide)) tk (by rfl) X.g_d_law_fall X.F_d_law_fall.kp (bd_d_law_fall X) (an_cons (an_cons an_nil)) (ca_cons (ce_v 0) (ca_cons (ce_v 1) (ca_nil)))) (ca_nil)))))) (css_one (cs_ret (ce_bl))) (css_nil))
    (css_one (cs_ret (ce_call (n := 2) (ok_d_law_same X) (hr.mono (by decide)) tk (by rfl) X.g_d_law_same X.F_d_law_same.kp (bd_d_law_same X) (an_cons (an_cons an_nil)) (ca_cons (ce_call (n := 2) (ok_rise_to X) (hr.mono (by decide)) tk (by rfl) X.g_rise_to X.F_rise_to.kp (bd_rise_to X) (an_cons (an_cons an_nil)) (ca_cons (ce_v 0) (ca_cons (ce_v 1) (ca_nil)))) (ca_cons (ce_call (n := 2) (ok_d_law_rise X) (hr.mono (by decide)) tk (by rfl) X.g_d_law_rise X.F_d_law_rise.kp (bd_d_law_rise X) (an_cons (an_cons an_nil)) (ca_cons (ce_v 0) (ca_cons (ce_v 1) (ca_nil)))) (ca_nil)))))))))) :
      PSs _ _ (Ts _ _ _ b_d_law_year_right))
noncomputable def le_d_law_counts_right_1 : ME D := e2 dSub (e2 dAdd (eC (.int 1)) (e2 dIx (eV 2) (eC (.int 1)))) (e2 dIx (eV 2) (eC (.int 0)))
noncomputable def b_d_law_counts_right : MS := sSeq (sSet 1 (eFn dSum (aCons (eLc (iSeq (eV 0)) [2] (gN 2) (tT) (le_d_law_counts_right_1)) (aNil))))
  (sSeq (sIf (tNot (tV (eCall m_d_law_same (aCons (eCall m_years_in (aCons (eV 0) (aNil))) (aCons (eV 1) (aNil)))))) (sRet (eC (.bl false))) (sNil))
  (sRet (eCall m_d_law_same (aCons (eCall m_holes_in (aCons (eV 0) (aNil))) (aCons (eFn dMax2 (aCons (eC (.int 0)) (aCons (e2 dSub (eFn dLen (aCons (eV 0) (aNil))) (eC (.int 1))) (aNil)))) (aNil))))))
noncomputable def m_d_law_counts_right : List D → Store → R D := fnM 3 1 b_d_law_counts_right
theorem ok_d_law_counts_right (X : Fx K mg) : FnOk P w K mg base (L2.CX P w) 3 X.a_d_law_counts_right X.d_d_law_counts_right ["dates"] (spM K mg 1 m_d_law_counts_right) :=
  okM (k := 2) X.F_d_law_counts_right sc_d_law_counts_right rfl fun cdv A outer s H E hr tk =>
    (css_cons (cs_set (j := 1) sc_d_law_counts_right.nd rfl (Or.inl rfl) (ce_callB (cr_sum rfl) fns_sum (by rfl) X.b_sum (by decide +kernel) (ca_cons (ce_lc (own := [("pair", 2)]) rfl sc_d_law_counts_right.nd (ci_seq (ce_v 0)) (blkOk_by (N := ["dates", "many", "pair"]) (sc := defScope s_d_law_counts_right) (by decide +kernel)) (fun _ _ _ _ _ => cg_name (i := 2) sc_d_law_counts_right.nd rfl (by first | exact Or.inl rfl | exact Or.inr rfl)) (fun _ _ _ _ _ => cts_nil) (fun _ _ _ _ _ => ce_op op_sub ops_sub (ce_op op_addA ops_add (ce_int) (ce_ix ix_seq ops_ix (ce_v 2) (ce_int) (fun _ _ => rfl))) (ce_ix ix_seq ops_ix (ce_v 2) (ce_int) (fun _ _ => rfl)))) (ca_nil))))
    (css_cons (cs_if (ct_not (ct_v (ce_call (n := 2) (ok_d_law_same X) (hr.mono (by decide)) tk (by rfl) X.g_d_law_same X.F_d_law_same.kp (bd_d_law_same X) (an_cons (an_cons an_nil)) (ca_cons (ce_call (n := 1) (ok_years_in X) (hr.mono (by decide)) tk (by rfl) X.g_years_in X.F_years_in.kp (bd_years_in X) (an_cons an_nil) (ca_cons (ce_v 0) (ca_nil))) (ca_cons (ce_v 1) (ca_nil)))))) (css_one (cs_ret (ce_bl))) (css_nil))
    (css_one (cs_ret (ce_call (n := 2) (ok_d_law_same X) (hr.mono (by decide)) tk (by rfl) X.g_d_law_same X.F_d_law_same.kp (bd_d_law_same X) (an_cons (an_cons an_nil)) (ca_cons (ce_call (n := 1) (ok_holes_in X) (hr.mono (by decide)) tk (by rfl) X.g_holes_in X.F_holes_in.kp (bd_holes_in X) (an_cons an_nil) (ca_cons (ce_v 0) (ca_nil))) (ca_cons (ce_callB (call_max2 rfl) fns_max2 (by rfl) X.b_max (by decide +kernel) (ca_cons (ce_int) (ca_cons (ce_op op_sub ops_sub (ce_callB call_len fns_len (by rfl) X.b_len (by decide +kernel) (ca_cons (ce_v 0) (ca_nil))) (ce_int)) (ca_nil)))) (ca_nil))))))) :
      PSs _ _ (Ts _ _ _ b_d_law_counts_right))
noncomputable def bl_law_1 : MS := sIf (tOr (tNot (tV (eCall m_d_law_year_right (aCons (eV 2) (aCons (eV 6) (aNil)))))) (tNot (tV (eCall m_d_law_year_right (aCons (eV 3) (aCons (eV 6) (aNil))))))) (sRet (eC (.bl false))) (sNil)
noncomputable def bl_law_2 : MS := sIf (tNot (tV (eCall m_d_law_counts_right (aCons (eV 5) (aNil))))) (sRet (eC (.bl false))) (sNil)
noncomputable def b_law : MS := sSeq (sSet 1 (eCall m_d_law_pool (aCons (eV 0) (aNil))))
  (sSeq (sSet 2 (eCall m_d_law_dates (aCons (eV 1) (aCons (eCall m_d_law_often_end (aCons (eV 1) (aCons (eC (.int 13)) (aNil)))) (aNil)))))
  (sSeq (sSet 3 (eCall m_d_law_dates (aCons (eV 1) (aCons (e2 dAdd (eC (.int 1)) (eCall m_d_law_often_end (aCons (eV 1) (aCons (eC (.int 4)) (aNil))))) (aNil)))))
  (sSeq (sSet 4 (eCall m_d_law_years (aCons (eV 1) (aCons (e2 dAdd (eV 2) (eV 3)) (aNil)))))
  (sSeq (sFor (iSeq (eLst (aCons (eV 2) (aCons (eV 3) (aCons (eTup (aNil)) (aNil)))))) (gN 5) (bl_law_2))
  (sSeq (sFor (iSeq (eV 4)) (gN 6) (bl_law_1))
  (sSeq (sSet 7 (e2 dIx (e2 dIx (eV 3) (eC (.int 0))) (eC (.int 0))))
  (sSeq (sSet 8 (e2 dIx (e2 dIx (eV 3) (e2 dSub (eFn dLen (aCons (eV 3) (aNil))) (eC (.int 1)))) (eC (.int 1))))
  (sSeq (sIf (tOr (tV (e2 dIsNot (eCall m_has_year (aCons (eV 3) (aCons (eV 7) (aNil)))) (eC (.bl true)))) (tV (e2 dIsNot (eCall m_has_year (aCons (eTup (aNil)) (aCons (eV 7) (aNil)))) (eC (.bl false))))) (sRet (eC (.bl false))) (sNil))
  (sSeq (sIf (tAnd (tV (e2 dGt (eV 7) (e1 dNeg (eC (.int 9999))))) (tOr (tV (e2 dIsNot (eCall m_fall_to (aCons (eV 3) (aCons (e2 dSub (eV 7) (eC (.int 1))) (aNil)))) (eC .non))) (tNot (tV (eCall m_d_law_same (aCons (eCall m_rise_to (aCons (eV 3) (aCons (e2 dSub (eV 7) (eC (.int 1))) (aNil)))) (aCons (eV 7) (aNil)))))))) (sRet (eC (.bl false))) (sNil))
  (sSeq (sIf (tAnd (tV (e2 dLt (eV 8) (eC (.int 9999)))) (tOr (tV (e2 dIsNot (eCall m_rise_to (aCons (eV 3) (aCons (e2 dAdd (eV 8) (eC (.int 1))) (aNil)))) (eC .non))) (tNot (tV (eCall m_d_law_same (aCons (eCall m_fall_to (aCons (eV 3) (aCons (e2 dAdd (eV 8) (eC (.int 1))) (aNil)))) (aCons (eV 8) (aNil)))))))) (sRet (eC (.bl false))) (sNil))
  (sSeq (sIf (tOr (tV (e2 dIsNot (eCall m_fall_to (aCons (eTup (aNil)) (aCons (eV 7) (aNil)))) (eC .non))) (tV (e2 dIsNot (eCall m_rise_to (aCons (eTup (aNil)) (aCons (eV 7) (aNil)))) (eC .non)))) (sRet (eC (.bl false))) (sNil))
  (sRet (eAnd (eCall m_d_law_year_right (aCons (eV 2) (aCons (e2 dIx (eV 4) (eC (.int 0))) (aNil)))) (eCall m_d_law_counts_right (aCons (eV 2) (aNil))))))))))))))))
noncomputable def m_law : List D → Store → R D := fnM 9 1 b_law
theorem ok_law (X : Fx K mg) : FnOk P w K mg base (L2.CX P w) 4 X.a_law X.d_law ["script"] (spM K mg 1 m_law) :=
  okM (k := 3) X.F_law sc_law rfl fun cdv A outer s H E hr tk =>
    (css_cons (cs_set (j := 1) sc_law.nd rfl (Or.inl rfl) (ce_call (n := 1) (ok_d_law_pool X) (hr.mono (by decide)) tk (by rfl) X.g_d_law_pool X.F_d_law_pool.kp (bd_d_law_pool X) (an_cons an_nil) (ca_cons (ce_v 0) (ca_nil))))
    (css_cons (cs_set (j := 2) sc_law.nd rfl (Or.inl rfl) (ce_call (n := 2) (ok_d_law_dates X) (hr.mono (by decide)) tk (by rfl) X.g_d_law_dates X.F_d_law_dates.kp (bd_d_law_dates X) (an_cons (an_cons an_nil)) (ca_cons (ce_v 1) (ca_cons (ce_call (n := 2) (ok_d_law_often_end X) (hr.mono (by decide)) tk (by rfl) X.g_d_law_often_end X.F_d_law_often_end.kp (bd_d_law_often_end X) (an_cons (an_cons an_nil)) (ca_cons (ce_v 1) (ca_cons (ce_int) (ca_nil)))) (ca_nil)))))
    (css_cons (cs_set (j := 3) sc_law.nd rfl (Or.inl rfl) (ce_call (n := 2) (ok_d_law_dates X) (hr.mono (by decide)) tk (by rfl) X.g_d_law_dates X.F_d_law_dates.kp (bd_d_law_dates X) (an_cons (an_cons an_nil)) (ca_cons (ce_v 1) (ca_cons (ce_op op_addA ops_add (ce_int) (ce_call (n := 2) (ok_d_law_often_end X) (hr.mono (by decide)) tk (by rfl) X.g_d_law_often_end X.F_d_law_often_end.kp (bd_d_law_often_end X) (an_cons (an_cons an_nil)) (ca_cons (ce_v 1) (ca_cons (ce_int) (ca_nil))))) (ca_nil)))))
    (css_cons (cs_set (j := 4) sc_law.nd rfl (Or.inl rfl) (ce_call (n := 2) (ok_d_law_years X) (hr.mono (by decide)) tk (by rfl) X.g_d_law_years X.F_d_law_years.kp (bd_d_law_years X) (an_cons (an_cons an_nil)) (ca_cons (ce_v 1) (ca_cons (ce_op op_addA ops_add (ce_v 2) (ce_v 3)) (ca_nil)))))
    (css_cons (cs_for (passes_of rfl) rfl (ci_seq (ce_lst (ca_cons (ce_v 2) (ca_cons (ce_v 3) (ca_cons (ce_tup (ca_nil)) (ca_nil)))))) (cg_name (i := 5) sc_law.nd rfl (by first | exact Or.inl rfl | exact Or.inr rfl)) (css_one (cs_if (ct_not (ct_v (ce_call (n := 1) (ok_d_law_counts_right X) (hr.mono (by decide)) tk (by rfl) X.g_d_law_counts_right X.F_d_law_counts_right.kp (bd_d_law_counts_right X) (an_cons an_nil) (ca_cons (ce_v 5) (ca_nil))))) (css_one (cs_ret (ce_bl))) (css_nil))))
    (css_cons (cs_for (passes_of rfl) rfl (ci_seq (ce_v 4)) (cg_name (i := 6) sc_law.nd rfl (by first | exact Or.inl rfl | exact Or.inr rfl)) (css_one (cs_if (PW.pt (cw_or (ct_not (ct_v (ce_call (n := 2) (ok_d_law_year_right X) (hr.mono (by decide)) tk (by rfl) X.g_d_law_year_right X.F_d_law_year_right.kp (bd_d_law_year_right X) (an_cons (an_cons an_nil)) (ca_cons (ce_v 2) (ca_cons (ce_v 6) (ca_nil)))))) (cw_or1 (ct_not (ct_v (ce_call (n := 2) (ok_d_law_year_right X) (hr.mono (by decide)) tk (by rfl) X.g_d_law_year_right X.F_d_law_year_right.kp (bd_d_law_year_right X) (an_cons (an_cons an_nil)) (ca_cons (ce_v 3) (ca_cons (ce_v 6) (ca_nil))))))))) (css_one (cs_ret (ce_bl))) (css_nil))))
    (css_cons (cs_set (j := 7) sc_law.nd rfl (Or.inl rfl) (ce_ix ix_seq ops_ix (ce_ix ix_seq ops_ix (ce_v 3) (ce_int) (fun _ _ => rfl)) (ce_int) (fun _ _ => rfl)))
    (css_cons (cs_set (j := 8) sc_law.nd rfl (Or.inl rfl) (ce_ix ix_seq ops_ix (ce_ix ix_seq ops_ix (ce_v 3) (ce_op op_sub ops_sub (ce_callB call_len fns_len (by rfl) X.b_len (by decide +kernel) (ca_cons (ce_v 3) (ca_nil))) (ce_int)) (fun _ _ => rfl)) (ce_int) (fun _ _ => rfl)))
    (css_cons (cs_if (PW.pt (cw_or (ct_cmp opA_isnot ops_isnot (ce_call (n := 2) (ok_has_year X) (hr.mono (by decide)) tk (by rfl) X.g_has_year X.F_has_year.kp (bd_has_year X) (an_cons (an_cons an_nil)) (ca_cons (ce_v 3) (ca_cons (ce_v 7) (ca_nil)))) (ce_bl) (nomark _)) (cw_or1 (ct_cmp opA_isnot ops_isnot (ce_call (n := 2) (ok_has_year X) (hr.mono (by decide)) tk (by rfl) X.g_has_year X.F_has_year.kp (bd_has_year X) (an_cons (an_cons an_nil)) (ca_cons (ce_tup (ca_nil)) (ca_cons (ce_v 7) (ca_nil)))) (ce_bl) (nomark _))))) (css_one (cs_ret (ce_bl))) (css_nil))
    (css_cons (cs_if (PW.pt (cw_and (ct_cmp opA_gt ops_gt (ce_v 7) (ce_un un_neg uns_neg (ce_int)) (nomark _)) (cw_and1 (PW.pt (cw_or (ct_cmp opA_isnot ops_isnot (ce_call (n := 2) (ok_fall_to X) (hr.mono (by decide)) tk (by rfl) X.g_fall_to X.F_fall_to.kp (bd_fall_to X) (an_cons (an_cons an_nil)) (ca_cons (ce_v 3) (ca_cons (ce_op op_sub ops_sub (ce_v 7) (ce_int)) (ca_nil)))) (ce_non) (nomark _)) (cw_or1 (ct_not (ct_v (ce_call (n := 2) (ok_d_law_same X) (hr.mono (by decide)) tk (by rfl) X.g_d_law_same X.F_d_law_same.kp (bd_d_law_same X) (an_cons (an_cons an_nil)) (ca_cons (ce_call (n := 2) (ok_rise_to X) (hr.mono (by decide)) tk (by rfl) X.g_rise_to X.F_rise_to.kp (bd_rise_to X) (an_cons (an_cons an_nil)) (ca_cons (ce_v 3) (ca_cons (ce_op op_sub ops_sub (ce_v 7) (ce_int)) (ca_nil)))) (ca_cons (ce_v 7) (ca_nil)))))))))))) (css_one (cs_ret (ce_bl))) (css_nil))
    (css_cons (cs_if (PW.pt (cw_and (ct_cmp opA_lt ops_lt (ce_v 8) (ce_int) (nomark _)) (cw_and1 (PW.pt (cw_or (ct_cmp opA_isnot ops_isnot (ce_call (n := 2) (ok_rise_to X) (hr.mono (by decide)) tk (by rfl) X.g_rise_to X.F_rise_to.kp (bd_rise_to X) (an_cons (an_cons an_nil)) (ca_cons (ce_v 3) (ca_cons (ce_op op_addA ops_add (ce_v 8) (ce_int)) (ca_nil)))) (ce_non) (nomark _)) (cw_or1 (ct_not (ct_v (ce_call (n := 2) (ok_d_law_same X) (hr.mono (by decide)) tk (by rfl) X.g_d_law_same X.F_d_law_same.kp (bd_d_law_same X) (an_cons (an_cons an_nil)) (ca_cons (ce_call (n := 2) (ok_fall_to X) (hr.mono (by decide)) tk (by rfl) X.g_fall_to X.F_fall_to.kp (bd_fall_to X) (an_cons (an_cons an_nil)) (ca_cons (ce_v 3) (ca_cons (ce_op op_addA ops_add (ce_v 8) (ce_int)) (ca_nil)))) (ca_cons (ce_v 8) (ca_nil)))))))))))) (css_one (cs_ret (ce_bl))) (css_nil))
    (css_cons (cs_if (PW.pt (cw_or (ct_cmp opA_isnot ops_isnot (ce_call (n := 2) (ok_fall_to X) (hr.mono (by decide)) tk (by rfl) X.g_fall_to X.F_fall_to.kp (bd_fall_to X) (an_cons (an_cons an_nil)) (ca_cons (ce_tup (ca_nil)) (ca_cons (ce_v 7) (ca_nil)))) (ce_non) (nomark _)) (cw_or1 (ct_cmp opA_isnot ops_isnot (ce_call (n := 2) (ok_rise_to X) (hr.mono (by decide)) tk (by rfl) X.g_rise_to X.F_rise_to.kp (bd_rise_to X) (an_cons (an_cons an_nil)) (ca_cons (ce_tup (ca_nil)) (ca_cons (ce_v 7) (ca_nil)))) (ce_non) (nomark _))))) (css_one (cs_ret (ce_bl))) (css_nil))
    (css_one (cs_ret (ce_and (ce_call (n := 2) (ok_d_law_year_right X) (hr.mono (by decide)) tk (by rfl) X.g_d_law_year_right X.F_d_law_year_right.kp (bd_d_law_year_right X) (an_cons (an_cons an_nil)) (ca_cons (ce_v 2) (ca_cons (ce_ix ix_seq ops_ix (ce_v 4) (ce_int) (fun _ _ => rfl)) (ca_nil)))) (ce_one (ce_call (n := 1) (ok_d_law_counts_right X) (hr.mono (by decide)) tk (by rfl) X.g_d_law_counts_right X.F_d_law_counts_right.kp (bd_d_law_counts_right X) (an_cons an_nil) (ca_cons (ce_v 2) (ca_nil)))))))))))))))))) :
      PSs _ _ (Ts _ _ _ b_law))
end Law
namespace Law
open PySem PySem.Spec PyProof.Rows L2 Mi
/-- the pool: a list of ints, not empty -/
def Pool (p : Nat) (s : Store) : Prop := ∃ x xs, s[p]? = some (.lst (.int x :: xs)) ∧ Ints xs ∧ xs.length ≤ 100
theorem draw_spec {p : Nat} {s : Store} (h : Pool p s) {many : Int} (h0 : 0 < many) (h1 : many < 1073741824) :
    ∃ k s', m_d_law_draw [.loc p, .int many] s = .ok (.int k) s' ∧ 0 ≤ k ∧ k < many ∧ Pool p s' ∧ Kp p s s' := by
  obtain ⟨x, xs, hs, ⟨ns, hx⟩, hl⟩ := h
  cases hn : ns.reverse with
  | nil =>
    have e : ns = [] := by simpa using hn
    subst e
    subst hx
    have hs' : s[p]? = some (.lst [.int x]) := hs
    simp [m_d_law_draw, b_d_law_draw, dLen_loc hs, dIx_loc hs', pList_zero hs', dIx_loc (get_set hs'), h0]
    exact ⟨_, _, ⟨rfl, rfl⟩, Int.emod_nonneg _ (by omega), Int.emod_lt_of_pos _ h0, ⟨_, [], get_set hs', ⟨[], rfl⟩, by simp⟩, Kp.set _ _ _⟩
  | cons y r =>
    have e : ns = r.reverse ++ [y] := by rw [← List.reverse_reverse ns, hn, List.reverse_cons]
    subst e
    obtain ⟨L, hL⟩ : ∃ L, L = D.int x :: r.reverse.map D.int := ⟨_, rfl⟩
    have hs' : s[p]? = some (.lst (L ++ [.int y])) := by rw [hs, hx, hL]; simp
    have hl2 : L.length ≤ 100 := by
      rw [hx] at hl
      rw [hL]
      simp at hl ⊢
      omega
    have h3 : (1 : Int) < L.length + 1 := by
      rw [hL]
      simp
      omega
    have w1 := dPop_loc hs'
    have g1 := get_set (c' := .lst L) hs'
    have w2 := dAppend_loc g1 (by omega)
    have fin : ∀ s', s'[p]? = some (.lst L) → Pool p s' := fun s' h => ⟨x, r.reverse.map D.int, by rw [h, hL], ⟨_, rfl⟩, by rw [hL] at hl2; simp at hl2 ⊢; omega⟩
    by_cases hy : many ≤ y
    · simp [m_d_law_draw, b_d_law_draw, dLen_loc hs', tyOk_list hs', w1, w2, tyOk_list g1, hy, h0, h1, h3]
      refine ⟨_, _, ⟨rfl, rfl⟩, Int.emod_nonneg _ (by omega), Int.emod_lt_of_pos _ h0, ⟨x, r.reverse.map D.int ++ [.int (y / many)], ?_, ⟨r.reverse ++ [y / many], by simp⟩, by rw [hL] at hl2; simp at hl2 ⊢; omega⟩, Kp.set _ _ _⟩
      rw [get_set hs', hL]
      rfl
    · simp [m_d_law_draw, b_d_law_draw, dLen_loc hs', tyOk_list hs', w1, hy, h0, h1, h3]
      exact ⟨_, _, ⟨rfl, rfl⟩, Int.emod_nonneg _ (by omega), Int.emod_lt_of_pos _ h0, fin _ (get_set hs'), Kp.set _ _ _⟩
theorem often_spec {p : Nat} {s : Store} (h : Pool p s) {many : Int} (h0 : 0 < many) (h1 : many < 1073741824) :
    ∃ k s', m_d_law_often_end [.loc p, .int many] s = .ok (.int k) s' ∧ 0 ≤ k ∧ k < many ∧ Pool p s' ∧ Kp p s s' := by
  obtain ⟨k, s1, e1, k0, k1, h', kp⟩ := draw_spec h (many := 7) (by omega) (by omega)
  obtain ⟨k2, s2, e2, k20, k21, h2, kp2⟩ := draw_spec h' h0 h1
  by_cases c0 : k = 0
  · simp [m_d_law_often_end, b_d_law_often_end, e1, c0]
    exact ⟨_, _, ⟨rfl, rfl⟩, by omega, h0, h', kp⟩
  · by_cases c1 : k = 1
    · simp [m_d_law_often_end, b_d_law_often_end, e1, c1]
      exact ⟨_, _, ⟨rfl, rfl⟩, by omega, by omega, h', kp⟩
    · simp [m_d_law_often_end, b_d_law_often_end, e1, c0, c1, e2]
      exact ⟨_, _, ⟨rfl, rfl⟩, k20, k21, h2, kp.trans kp2⟩
end Law
namespace Law
open PySem Mi
def PoolI (ns ms : List Int) (rest : List D) (env : Sl) (s : Store) : Prop := ∃ m o3 o4 gs, env = [some (.fl (ns.map D.int)), some (.int m), some (.loc 0), o3, o4] ∧ s = [.lst gs, .lst (ms.map D.int)] ∧ Ints gs ∧ gs.length + rest.length ≤ 63 ∧ Ints rest
theorem pool_spec (ns : List Int) (hn : ns.length ≤ 63) : ∃ p s, m_d_law_pool [.fl (ns.map D.int)] [] = .ok (.loc p) s ∧ Pool p s := by
  simp [m_d_law_pool, b_d_law_pool, dSl]
  have hc := cut_ints ⟨ns, rfl⟩ none (some 63)
  have hl := cut_len (ns.map D.int) none (some 63)
  generalize Mi.cutD (ns.map D.int) none (some 63) = cs at hc hl
  simp at hl
  obtain ⟨ms, rfl⟩ := hc
  simp at hl
  obtain ⟨env', s', e, m, o3, o4, gs, rfl, rfl, hg1, hg2, _⟩ := forL_thru (gd := fun s2 => s2[1]? = some (Cell.lst (ms.map D.int))) (g := gN 3) (b := bl_d_law_pool_1) (PoolI ns ms)
    (xs := ms.map D.int) (env := [some (.fl (ns.map D.int)), some (.int 70001), some (.loc 0), none, none]) (s := [.lst [], .lst (ms.map D.int)])
    (fun xs env s ⟨m, o3, o4, gs, h1, h2, _⟩ => by subst h2; rfl)
    (fun x xs env s ⟨m, o3, o4, gs, h1, h2, h3, h4, h5⟩ => by
      subst h1 h2
      obtain ⟨ks, hk⟩ := h5
      cases ks with
      | nil => cases hk
      | cons k ks =>
        obtain ⟨rfl, rfl⟩ := List.cons.inj hk
        obtain ⟨gn, rfl⟩ := h3
        simp at h4
        have w := dAppend_loc (s := [.lst (gn.map D.int), .lst (ms.map D.int)]) (l := 0) rfl (by simp; omega)
        have more : ∀ m o3 o4 z, PoolI ns ms (ks.map D.int) [some (.fl (ns.map D.int)), some (.int m), some (.loc 0), o3, o4] [.lst (gn.map D.int ++ [.int z]), .lst (ms.map D.int)] := fun m o3 o4 z =>
          ⟨_, _, _, _, rfl, rfl, ⟨gn ++ [z], by rw [List.map_append]; rfl⟩, by simp; omega, ⟨ks, rfl⟩⟩
        have same : ∀ m o3 o4, PoolI ns ms (ks.map D.int) [some (.fl (ns.map D.int)), some (.int m), some (.loc 0), o3, o4] [.lst (gn.map D.int), .lst (ms.map D.int)] := fun m o3 o4 =>
          ⟨_, _, _, _, rfl, rfl, ⟨gn, rfl⟩, by simp; omega, ⟨ks, rfl⟩⟩
        by_cases c1 : k < 0
        · by_cases c2 : (1000000000000000000 : Int) ≤ 11 - 2 * k <;> simp [bl_d_law_pool_1, c1, c2, tyOk, w, dMul_l, more, same]
        · by_cases c2 : (1000000000000000000 : Int) ≤ k <;> simp [bl_d_law_pool_1, c1, c2, tyOk, w, dMul_l, more, same])
    ⟨_, _, _, _, rfl, rfl, ⟨[], rfl⟩, by simp; omega, ⟨ms, rfl⟩⟩
  rw [e]
  obtain ⟨gn, rfl⟩ := hg1
  simp at hg2
  have w := dAdd_loc (s := [.lst (gn.map D.int), .lst (ms.map D.int), .lst [.int m]]) (l := 2) (k := 0) rfl rfl (by simp; omega)
  simp [w]
  exact ⟨_, _, ⟨rfl, rfl⟩, m, gn.map D.int, rfl, ⟨gn, rfl⟩, by simp; omega⟩
/-- a pair of ints -/
def pr (x : Int × Int) : D := .tup [.int x.1, .int x.2]
/-- stretches, ascending behind lo -/
def Gd : Int → List (Int × Int) → Prop
  | _, [] => True
  | lo, x :: r => lo + 2 ≤ x.1 ∧ x.1 ≤ x.2 ∧ x.2 ≤ x.1 + 1000 ∧ Gd x.2 r
def lastOf : Int → List (Int × Int) → Int
  | lo, [] => lo
  | _, x :: r => lastOf x.2 r
theorem Gd.app {x : Int × Int} : ∀ {ps : List (Int × Int)} {lo : Int}, Gd lo ps → lastOf lo ps + 2 ≤ x.1 → x.1 ≤ x.2 → x.2 ≤ x.1 + 1000 → Gd lo (ps ++ [x]) ∧ lastOf lo (ps ++ [x]) = x.2
  | [], lo, _, h1, h2, h3 => ⟨⟨h1, h2, h3, trivial⟩, rfl⟩
  | y :: r, lo, ⟨a, b, c, d⟩, h1, h2, h3 => by
    obtain ⟨q1, q2⟩ := Gd.app d h1 h2 h3
    exact ⟨⟨a, b, c, q1⟩, q2⟩
def Good (ps : List (Int × Int)) : Prop := ∃ lo, Gd lo ps
theorem Gd.each : ∀ {ps : List (Int × Int)} {lo : Int}, Gd lo ps → ∀ x ∈ ps, lo < x.1 ∧ x.1 ≤ x.2 ∧ x.2 ≤ x.1 + 1000
  | [], _, _, x, h => by cases h
  | y :: r, lo, ⟨a, b, c, d⟩, x, h => by
    rcases List.mem_cons.mp h with rfl | h
    · exact ⟨by omega, b, c⟩
    · obtain ⟨q1, q2, q3⟩ := Gd.each d x h
      exact ⟨by omega, q2, q3⟩
theorem getD_int {zs : List Int} {i : Nat} (h : i < zs.length) : L2.atI (zs.map D.int) (i : Int) = some (.int zs[i]) := atI_ofNat _ _ _ (by simp [h])
/-- ints between bounds -/
def Btw (lo hi : Int) (zs : List Int) : Prop := ∀ z ∈ zs, lo ≤ z ∧ z ≤ hi
theorem Btw.sum {lo hi : Int} : ∀ {zs : List Int}, Btw lo hi zs → lo * zs.length ≤ zs.sum ∧ zs.sum ≤ hi * zs.length
  | [], _ => by simp
  | z :: zs, h => by
    have h1 := h z (by simp)
    have h2 := Btw.sum (zs := zs) fun y hy => h y (by simp [hy])
    have e1 : lo * ((zs.length : Int) + 1) = lo * zs.length + lo := by rw [Int.mul_add, Int.mul_one]
    have e2 : hi * ((zs.length : Int) + 1) = hi * zs.length + hi := by rw [Int.mul_add, Int.mul_one]
    simp only [List.length_cons, List.sum_cons, Int.natCast_add, Int.natCast_one, e1, e2]
    omega
/-- the draws of sizes -/
def LcI (p : Nat) (s0 : Store) (lo hi : Int) (i : Nat) (acc : List D) (s : Store) : Prop := ∃ zs : List Int, acc = zs.map D.int ∧ zs.length = i ∧ Btw lo hi zs ∧ Pool p s ∧ Kp p s0 s
theorem Btw.snoc {lo hi z : Int} {zs : List Int} (h : Btw lo hi zs) (h1 : lo ≤ z) (h2 : z ≤ hi) : Btw lo hi (zs ++ [z]) := fun y hy => by
  rcases List.mem_append.mp hy with q | q
  · exact h y q
  · rw [List.mem_singleton.mp q]; exact ⟨h1, h2⟩
theorem Pool.app {p : Nat} {s : Store} (h : Pool p s) (r : Store) : Pool p (s ++ r) := by
  obtain ⟨x, xs, hs, q⟩ := h
  exact ⟨x, xs, by rw [List.getElem?_append_left (lt_of_get hs)]; exact hs, q⟩
theorem Pool.set {p l : Nat} {s : Store} (h : Pool p s) (n : l ≠ p) (c : Cell) : Pool p (s.set l c) := by
  obtain ⟨x, xs, hs, q⟩ := h
  exact ⟨x, xs, by rw [List.getElem?_set_ne n]; exact hs, q⟩
theorem Pool.lt {p : Nat} {s : Store} (h : Pool p s) : p < s.length := let ⟨_, _, hs, _⟩ := h; lt_of_get hs
def DatesI (p : Nat) (s0 : Store) (n : Nat) (w r t o9 : Option D) (ls lh ld : Nat) (zs hs : List Int) (i : Nat) (env : Sl) (s : Store) : Prop :=
  ∃ (o3 : Option D) (y lo : Int) (ps : List (Int × Int)), env = [some (.loc p), some (.int n), w, o3, some (.loc ls), some (.loc lh), r, some (.int y), t, o9, some (.loc ld)] ∧
    s[ls]? = some (.lst (zs.map D.int)) ∧ s[lh]? = some (.lst (hs.map D.int)) ∧ s[ld]? = some (.lst (ps.map pr)) ∧ ps.length = i ∧ Gd lo ps ∧ (0 < i → y = lastOf lo ps) ∧ Pool p s ∧ Kp p s0 s
theorem sizes_spec {p : Nat} {s : Store} (h : Pool p s) {wide : Int} (w0 : 0 < wide) (w1 : wide ≤ 750) (n : Nat) (hn : n ≤ 100) (r : Sl) :
    ∃ acc s', lcL always (gN 3) tT le_d_law_dates_3 (some (.loc p) :: some (.int n) :: some (.int wide) :: none :: r) (rng n) [] s = .ok acc s' ∧ LcI p s 0 749 n acc s' := by
  refine lcL_range n (LcI p s 0 749) (fun _ _ _ _ _ => trivial) (fun i acc s1 hi ⟨zs, h1, h2, h3, h4, h5⟩ => ?_) ⟨[], rfl, rfl, (fun _ hh => by cases hh), h, Kp.refl _ _⟩
  obtain ⟨k, s2, e, k0, k1, h', kp⟩ := often_spec h4 w0 (by omega)
  simp [le_d_law_dates_3, e]
  subst h1
  exact ⟨by simp; omega, zs ++ [k], by simp, by simp [h2], h3.snoc k0 (by omega), h', h5.trans kp⟩
theorem holes_spec {p : Nat} {s : Store} (h : Pool p s) {wide : Int} (w0 : 0 < wide) (w1 : wide ≤ 750) (n : Nat) (hn : n ≤ 100) (r : Sl) :
    ∃ acc s', lcL always (gN 3) tT le_d_law_dates_2 (some (.loc p) :: some (.int n) :: some (.int wide) :: none :: r) (rng n) [] s = .ok acc s' ∧ LcI p s 2 751 n acc s' := by
  refine lcL_range n (LcI p s 2 751) (fun _ _ _ _ _ => trivial) (fun i acc s1 hi ⟨zs, h1, h2, h3, h4, h5⟩ => ?_) ⟨[], rfl, rfl, (fun _ hh => by cases hh), h, Kp.refl _ _⟩
  obtain ⟨k, s2, e, k0, k1, h', kp⟩ := often_spec h4 w0 (by omega)
  simp [le_d_law_dates_2, e]
  subst h1
  exact ⟨by simp; omega, zs ++ [2 + k], by simp, by simp [h2], h3.snoc (by omega) (by omega), h', h5.trans kp⟩
theorem dates_loop {p : Nat} {s0 s : Store} (h : Pool p s) (kp : Kp p s0 s) {n : Nat} (hn : n ≤ 100) {w o3 r t o9 : Option D} {y : Int} {ls lh ld : Nat} {zs hs : List Int} (h1 : s[ls]? = some (.lst (zs.map D.int))) (h2 : s[lh]? = some (.lst (hs.map D.int))) (h3 : s[ld]? = some (.lst []))
    (n1 : ls ≠ ld) (n2 : lh ≠ ld) (n3 : ld ≠ p) (n4 : s0.length ≤ ld) (l1 : zs.length = n) (l2 : hs.length = n) (b1 : Btw 0 749 zs) (b2 : Btw 2 751 hs) :
    ∃ env' s', forL always (gN 3) bl_d_law_dates_1 (rng n) [some (.loc p), some (.int n), w, o3, some (.loc ls), some (.loc lh), r, some (.int y), t, o9, some (.loc ld)] s = .nx env' s' ∧ DatesI p s0 n w r t o9 ls lh ld zs hs n env' s' := by
  refine forL_rangeT n (DatesI p s0 n w r t o9 ls lh ld zs hs) (fun _ _ _ _ _ => trivial) (fun i env s1 hi ⟨o3, y, lo, ps, e, q1, q2, q3, q4, q5, q6, q7, q8⟩ => ?_) ⟨o3, y, 0, [], rfl, h1, h2, h3, rfl, trivial, fun z => absurd z (by omega), h, kp⟩
  subst e
  have z1 : dIx (.loc ls) (.int (i : Nat)) s1 = some (.int (zs[i]'(by omega)), s1) := by rw [dIx_loc q1, getD_int (by omega)]; rfl
  have z2 : dIx (.loc lh) (.int (i : Nat)) s1 = some (.int (hs[i]'(by omega)), s1) := by rw [dIx_loc q2, getD_int (by omega)]; rfl
  have z3 : ∀ c, dIx (.loc ls) (.int (i : Nat)) (s1.set ld c) = some (.int (zs[i]'(by omega)), s1.set ld c) := fun c => by
    rw [dIx_loc (xs := zs.map D.int) (by rw [List.getElem?_set_ne (Ne.symm n1)]; exact q1), getD_int (by omega)]; rfl
  have hz := b1 (zs[i]'(by omega)) (List.getElem_mem _)
  have hh := b2 (hs[i]'(by omega)) (List.getElem_mem _)
  generalize (zs[i]'(by omega)) = z at z1 z3 hz
  generalize (hs[i]'(by omega)) = hh' at z2 hh
  have w1 := fun d => dAppend_loc q3 (by simp; omega) d
  have end_ : ∀ y' lo' : Int, Gd lo' (ps ++ [(y', y' + z)]) → lastOf lo' (ps ++ [(y', y' + z)]) = y' + z →
      DatesI p s0 n w r t o9 ls lh ld zs hs (i + 1) [some (.loc p), some (.int n), w, some (.int (i : Nat)), some (.loc ls), some (.loc lh), r, some (.int (y' + z)), t, o9, some (.loc ld)] (s1.set ld (.lst (ps.map pr ++ [.tup [.int y', .int (y' + z)]]))) := fun y' lo' g1 g2 =>
    ⟨_, y' + z, lo', ps ++ [(y', y' + z)], rfl, by rw [List.getElem?_set_ne (Ne.symm n1)]; exact q1, by rw [List.getElem?_set_ne (Ne.symm n2)]; exact q2, by rw [get_set q3]; simp [pr], by simp [q4], g1, fun _ => g2.symm, q7.set n3 _,
      ⟨by simp; exact q8.1, fun l hl hn => by rw [List.getElem?_set_ne (by omega)]; exact q8.2 l hl hn⟩⟩
  by_cases c : i = 0
  · subst c
    have e : ps = [] := List.length_eq_zero_iff.mp q4
    subst e
    have w1 : ∀ d, dAppend (.loc ld) [d] s1 = some (.non, s1.set ld (.lst [d])) := w1
    have z1 : dIx (.loc ls) (.int 0) s1 = some (.int z, s1) := z1
    have z3 : ∀ c, dIx (.loc ls) (.int 0) (s1.set ld c) = some (.int z, s1.set ld c) := z3
    simp [bl_d_law_dates_1, z1, z3, w1, tyOk_list q3]
    exact end_ y (y - 2) ⟨by show y - 2 + 2 ≤ y; omega, by show y ≤ y + z; omega, by show y + z ≤ y + 1000; omega, trivial⟩ rfl
  · have c' : 0 < i := by omega
    simp [bl_d_law_dates_1, z1, z2, z3, w1, tyOk_list q3, c']
    obtain ⟨g1, g2⟩ := Gd.app (x := (y + hh', y + hh' + z)) q5 (by show lastOf lo ps + 2 ≤ y + hh'; rw [← q6 c']; omega) (by show y + hh' ≤ y + hh' + z; omega) (by show y + hh' + z ≤ y + hh' + 1000; omega)
    exact end_ (y + hh') lo g1 g2
theorem dates_spec {p : Nat} {s : Store} (h : Pool p s) {n : Nat} (hn : n ≤ 12) :
    Rets (fun d s' => ∃ ps, d = .tup (ps.map pr) ∧ Good ps ∧ ps.length = n ∧ Pool p s' ∧ Kp p s s') (m_d_law_dates [.loc p, .int n] s) := by
  obtain ⟨k1, s1, e1, k10, k11, h1, kp1⟩ := draw_spec (h.app [.lst [.int 1, .int 2, .int 9, .int 750]]) (many := 4) (by omega) (by omega)
  have kpa := (Kp.app p s [.lst [.int 1, .int 2, .int 9, .int 750]]).trans kp1
  have hl1 : s1[s.length]? = some (.lst [.int 1, .int 2, .int 9, .int 750]) := kp1.get (get_new _ _) (Nat.ne_of_gt h.lt)
  obtain ⟨wide, w0, w1, hw⟩ : ∃ wide : Int, 0 < wide ∧ wide ≤ 750 ∧ dIx (.loc s.length) (.int k1) s1 = some (.int wide, s1) := by
    rw [dIx_loc hl1]
    rcases (by omega : k1 = 0 ∨ k1 = 1 ∨ k1 = 2 ∨ k1 = 3) with rfl | rfl | rfl | rfl
    · exact ⟨1, by omega, by omega, by simp⟩
    · exact ⟨2, by omega, by omega, by simp⟩
    · exact ⟨9, by omega, by omega, by simp⟩
    · exact ⟨750, by omega, by omega, by simp⟩
  have hr : (n : Int) ≤ 1000000000 := by omega
  obtain ⟨a1, s2, e2, zs, rfl, l1, b1, h2, kp2⟩ := sizes_spec h1 w0 w1 n (by omega) [none, none, none, none, none, none, none]
  have g2 : (s2 ++ [Cell.lst (zs.map D.int)])[s2.length]? = some (.lst (zs.map D.int)) := get_new _ _
  have h2' := h2.app [.lst (zs.map D.int)]
  obtain ⟨a2, s3, e3, hs, rfl, l2, b2, h3, kp3⟩ := holes_spec h2' w0 w1 n (by omega) [some (.loc s2.length), none, none, none, none, none, none]
  have g3 := kp3.get g2 (Nat.ne_of_gt h2.lt)
  have g4 : (s3 ++ [Cell.lst (hs.map D.int)])[s3.length]? = some (.lst (hs.map D.int)) := get_new _ _
  have g5 : (s3 ++ [Cell.lst (hs.map D.int)])[s2.length]? = some (.lst (zs.map D.int)) := by rw [List.getElem?_append_left (lt_of_get g3)]; exact g3
  have h3' := h3.app [.lst (hs.map D.int)]
  have sb1 := b1.sum
  have sb2 := b2.sum
  obtain ⟨k4, s4, e4, k40, k41, h4, kp4⟩ := often_spec h3' (many := 9999 + (9999 - zs.sum - hs.sum)) (by omega) (by omega)
  obtain ⟨k5, s5, e5, k50, k51, h5, kp5⟩ := draw_spec h4 (many := 4) (by omega) (by omega)
  have k13 := Kp.trans (Kp.trans kp2 (Kp.app p s2 _)) (Kp.trans kp3 (Kp.app p s3 [.lst (hs.map D.int)]))
  have k05 : Kp p s s5 := kpa.trans (k13.trans (kp4.trans kp5))
  have g6 := kp4.get g4 (Nat.ne_of_gt h3.lt)
  have g7 := kp4.get g5 (Nat.ne_of_gt h2.lt)
  have g8 := kp5.get g6 (Nat.ne_of_gt h3.lt)
  have g9 := kp5.get g7 (Nat.ne_of_gt h2.lt)
  have go : ∀ (S : Store) (y : Int) (w o3 r t o9 : Option D), Pool p S → Kp p s S → S[s2.length]? = some (.lst (zs.map D.int)) → S[s3.length]? = some (.lst (hs.map D.int)) →
      ∃ env' s', forL always (gN 3) bl_d_law_dates_1 (rng n) [some (.loc p), some (.int n), w, o3, some (.loc s2.length), some (.loc s3.length), r, some (.int y), t, o9, some (.loc S.length)] (S ++ [.lst []]) = .nx env' s' ∧
        DatesI p s n w r t o9 s2.length s3.length S.length zs hs n env' s' := fun S y w o3 r t o9 hp hk q1 q2 =>
    dates_loop (hp.app _) (hk.trans (Kp.app p S _)) (by omega) (by rw [List.getElem?_append_left (lt_of_get q1)]; exact q1) (by rw [List.getElem?_append_left (lt_of_get q2)]; exact q2) (get_new _ _)
      (Nat.ne_of_lt (lt_of_get q1)) (Nat.ne_of_lt (lt_of_get q2)) (Nat.ne_of_gt hp.lt) hk.1 l1 l2 b1 b2
  have fin : ∀ (S : Store) (y : Int) (w o3 r t o9 : Option D), Pool p S → Kp p s S → S[s2.length]? = some (.lst (zs.map D.int)) → S[s3.length]? = some (.lst (hs.map D.int)) →
      Rets (fun d s' => ∃ ps, d = .tup (ps.map pr) ∧ Good ps ∧ ps.length = n ∧ Pool p s' ∧ Kp p s s')
        (match ((forL always (gN 3) bl_d_law_dates_1 (rng n) [some (.loc p), some (.int n), w, o3, some (.loc s2.length), some (.loc s3.length), r, some (.int y), t, o9, some (.loc S.length)] (S ++ [.lst []])).bind (sRet (eFn dTuple (aCons (eV 10) aNil)))) with
        | .rt d s => .ok d s
        | .nx _ s => .ok .non s
        | .ex e _ s => .ex e s
        | _ => .no) := by
    intro S y w o3 r t o9 hp hk q1 q2
    obtain ⟨env', s', e, o3', y', lo, ps, rfl, r1, r2, r3, r4, r5, r6, r7, r8⟩ := go S y w o3 r t o9 hp hk q1 q2
    simp [e, dTuple_loc r3]
    exact ⟨ps, rfl, ⟨lo, r5⟩, r4, r7, r8⟩
  rcases Nat.eq_zero_or_pos n with c | c
  · have c' : ¬ 0 < n := by omega
    clear c
    simp [m_d_law_dates, b_d_law_dates, e1, hw, hr, e2, e3, dSum_loc g4, dSum_loc g5, e4, e5, c']
    exact fin s5 _ _ _ _ _ _ h5 k05 g9 g8
  · rcases (by omega : k5 = 0 ∨ k5 = 1 ∨ 1 < k5) with c5 | c5 | c5
    · have w8 : dIx (.loc s3.length) (.int 0) s5 = some (.int (hs[0]'(by omega)), s5) := by
        have w := getD_int (zs := hs) (i := 0) (by omega)
        rw [dIx_loc g8]
        rw [show ((0 : Nat) : Int) = 0 from rfl] at w
        rw [w]; rfl
      simp [m_d_law_dates, b_d_law_dates, e1, hw, hr, e2, e3, dSum_loc g4, dSum_loc g5, e4, e5, c5, c, w8]
      exact fin s5 _ _ _ _ _ _ h5 k05 g9 g8
    · simp [m_d_law_dates, b_d_law_dates, e1, hw, hr, e2, e3, dSum_loc g4, dSum_loc g5, e4, e5, c5, c]
      exact fin s5 _ _ _ _ _ _ h5 k05 g9 g8
    · have c5' : ¬ k5 = 0 := by omega
      obtain ⟨k6, s6, e6, k60, k61, h6, kp6⟩ := draw_spec h5 (many := n) (by omega) (by omega)
      have g10 := kp6.get g8 (Nat.ne_of_gt h3.lt)
      have g11 := kp6.get g9 (Nat.ne_of_gt h2.lt)
      obtain ⟨us, hu⟩ := cut_ints ⟨zs, rfl⟩ none (some k6)
      obtain ⟨vs, hv⟩ := cut_ints ⟨hs, rfl⟩ (some 1) (some (k6 + 1))
      have w1 : dSl (.loc s2.length) none (some k6) s6 = some (.loc s6.length, s6 ++ [.lst (us.map D.int)]) := by simp [dSl, lstOf_loc g11, hu]
      have x1 : (s6 ++ [Cell.lst (us.map D.int)])[s6.length]? = some (.lst (us.map D.int)) := get_new _ _
      have g12 : (s6 ++ [Cell.lst (us.map D.int)])[s3.length]? = some (.lst (hs.map D.int)) := by rw [List.getElem?_append_left (lt_of_get g10)]; exact g10
      have g13 : (s6 ++ [Cell.lst (us.map D.int)])[s2.length]? = some (.lst (zs.map D.int)) := by rw [List.getElem?_append_left (lt_of_get g11)]; exact g11
      have w2 : dSl (.loc s3.length) (some 1) (some (k6 + 1)) (s6 ++ [.lst (us.map D.int)]) = some (.loc (s6.length + 1), s6 ++ [.lst (us.map D.int)] ++ [.lst (vs.map D.int)]) := by simp [dSl, lstOf_loc g12, hv]
      have x2 : (s6 ++ [Cell.lst (us.map D.int)] ++ [Cell.lst (vs.map D.int)])[s6.length + 1]? = some (.lst (vs.map D.int)) := by
        have q := get_new (s6 ++ [Cell.lst (us.map D.int)]) (.lst (vs.map D.int))
        simpa using q
      have g14 : (s6 ++ [Cell.lst (us.map D.int)] ++ [Cell.lst (vs.map D.int)])[s3.length]? = some (.lst (hs.map D.int)) := by rw [List.getElem?_append_left (lt_of_get g12)]; exact g12
      have g15 : (s6 ++ [Cell.lst (us.map D.int)] ++ [Cell.lst (vs.map D.int)])[s2.length]? = some (.lst (zs.map D.int)) := by rw [List.getElem?_append_left (lt_of_get g13)]; exact g13
      obtain ⟨j, rfl⟩ : ∃ j : Nat, k6 = j := ⟨k6.toNat, by omega⟩
      have w3 : dIx (.loc s2.length) (.int (j : Nat)) (s6 ++ [.lst (us.map D.int)] ++ [.lst (vs.map D.int)]) = some (.int (zs[j]'(by omega)), s6 ++ [.lst (us.map D.int)] ++ [.lst (vs.map D.int)]) := by
        rw [dIx_loc g15, getD_int (by omega)]; rfl
      generalize (zs[j]'(by omega)) = z at w3
      have h7 := (h6.app [.lst (us.map D.int)]).app [.lst (vs.map D.int)]
      obtain ⟨k8, s8, e8, k80, k81, h8, kp8⟩ := draw_spec h7 (many := 2) (by omega) (by omega)
      have hm := fun s => dMul_r z k8 s ⟨by omega, by omega⟩
      have g16 := kp8.get g14 (Nat.ne_of_gt h3.lt)
      have g17 := kp8.get g15 (Nat.ne_of_gt h2.lt)
      have x3 := dSum_loc x1
      have x4 := dSum_loc x2
      simp only [List.append_assoc, List.cons_append, List.nil_append] at w2 w3 e8 x4
      simp [m_d_law_dates, b_d_law_dates, e1, hw, hr, e2, e3, dSum_loc g4, dSum_loc g5, e4, e5, c5, c5', c, e6, w1, x3, w2, x4, w3, e8, hm]
      exact fin s8 _ _ _ _ _ _ h8 (k05.trans (kp6.trans (((Kp.app p s6 _).trans (Kp.app p _ _)).trans kp8))) g17 g16
end Law
namespace Law
open PySem Mi
/-- None or an int -/
def od : Option Int → D
  | none => .non
  | some i => .int i
@[simp] theorem same_spec (x y : Option Int) (s : Store) : m_d_law_same [od x, od y] s = .ok (.bl (decide (x = y))) s := by
  cases x with
  | none => cases y <;> simp [m_d_law_same, b_d_law_same, m_d_law_is_integer, b_d_law_is_integer, od]
  | some x => cases y <;> simp [m_d_law_same, b_d_law_same, m_d_law_is_integer, b_d_law_is_integer, od]
def hasY (y : Int) (ps : List (Int × Int)) : Bool := ps.any fun x => decide (x.1 ≤ y) && decide (y ≤ x.2)
theorem has_spec (ps : List (Int × Int)) (y : Int) (s : Store) : m_has_year [.tup (ps.map pr), .int y] s = .ok (.bl (hasY y ps)) s := by
  have key : ∀ (ps : List (Int × Int)) (a b : Option D) (d : D), (forL always (gT 2 (gsC (gN 2) (gsC (gN 3) gsN))) bl_has_year_1 (ps.map pr) [some d, some (.int y), a, b] s).bind (sRet (eC (.bl false))) = .rt (.bl (hasY y ps)) s := by
    intro ps
    induction ps with
    | nil => intro a b d; simp [hasY]
    | cons x r ih =>
      intro a b d
      rw [List.map_cons, forL_cons_always]
      by_cases c : x.1 ≤ y
      · by_cases c2 : y ≤ x.2
        · simp [pr, bl_has_year_1, c, c2, hasY]
        · simp [pr, bl_has_year_1, c, c2, hasY]
          exact ih _ _ _
      · simp [pr, bl_has_year_1, c, hasY]
        exact ih _ _ _
  simp [m_has_year, b_has_year, key]
/-- the greatest year at most y, from f on -/
def fallF (y : Int) : Option Int → List (Int × Int) → Option Int
  | f, [] => f
  | f, x :: r => if x.1 ≤ y then fallF y (some (min y x.2)) r else fallF y f r
theorem fallF_high (y : Int) : ∀ (ps : List (Int × Int)) (f : Option Int) (lo : Int), Gd lo ps → y ≤ lo → fallF y f ps = f
  | [], _, _, _, _ => rfl
  | x :: r, f, lo, ⟨a, b, c, d⟩, h => by
    unfold fallF
    rw [if_neg (by omega)]
    exact fallF_high y r f x.2 d (by omega)
theorem fall_spec (ps : List (Int × Int)) (hg : Good ps) (y : Int) (s : Store) : m_fall_to [.tup (ps.map pr), .int y] s = .ok (od (fallF y none ps)) s := by
  have key : ∀ (ps : List (Int × Int)) (lo : Int) (f : Option Int) (a b : Option D) (d : D), Gd lo ps → (forL always (gT 2 (gsC (gN 3) (gsC (gN 4) gsN))) bl_fall_to_1 (ps.map pr) [some d, some (.int y), some (od f), a, b] s).bind (sRet (eV 2)) = .rt (od (fallF y f ps)) s := by
    intro ps
    induction ps with
    | nil => intro lo f a b d _; simp [fallF]
    | cons x r ih =>
      intro lo f a b d hg
      rw [List.map_cons, forL_cons_always]
      by_cases c : y < x.1
      · rw [show fallF y f (x :: r) = f by
          unfold fallF
          rw [if_neg (by omega)]
          exact fallF_high y r f x.2 hg.2.2.2 (by have := hg.2.1; omega)]
        simp [pr, bl_fall_to_1, c]
      · have c2 : x.1 ≤ y := by omega
        have := ih x.2 (some (min x.2 y)) (some (.int x.1)) (some (.int x.2)) d hg.2.2.2
        rw [show fallF y f (x :: r) = fallF y (some (min x.2 y)) r by
          conv => lhs; unfold fallF
          rw [if_pos c2, Int.min_comm]]
        simpa [pr, bl_fall_to_1, c, od] using this
  obtain ⟨lo, hg⟩ := hg
  have := key ps lo none none none (.tup (ps.map pr)) hg
  rw [show od none = D.non from rfl] at this
  simp [m_fall_to, b_fall_to, this]
theorem lfall_spec (ps : List (Int × Int)) (y : Int) (s : Store) : m_d_law_fall [.tup (ps.map pr), .int y] s = .ok (od (fallF y none ps)) s := by
  have key : ∀ (ps : List (Int × Int)) (f : Option Int) (a : Option D) (d : D), (forL always (gN 3) bl_d_law_fall_1 (ps.map pr) [some d, some (.int y), some (od f), a] s).bind (sRet (eV 2)) = .rt (od (fallF y f ps)) s := by
    intro ps
    induction ps with
    | nil => intro f a d; simp [fallF]
    | cons x r ih =>
      intro f a d
      rw [List.map_cons, forL_cons_always]
      by_cases c : x.1 ≤ y
      · have := ih (some (min y x.2)) (some (pr x)) d
        simpa [pr, bl_d_law_fall_1, c, od, dIx_tup, fallF] using this
      · have := ih f (some (pr x)) d
        simpa [pr, bl_d_law_fall_1, c, od, dIx_tup, fallF] using this
  have := key ps none none (.tup (ps.map pr))
  rw [show od none = D.non from rfl] at this
  simp [m_d_law_fall, b_d_law_fall, this]
def riseF (y : Int) : List (Int × Int) → Option Int
  | [] => none
  | x :: r => if y ≤ x.2 then some (max x.1 y) else riseF y r
theorem rise_spec (ps : List (Int × Int)) (y : Int) (s : Store) : m_rise_to [.tup (ps.map pr), .int y] s = .ok (od (riseF y ps)) s := by
  have key : ∀ (ps : List (Int × Int)) (a b : Option D) (d : D), (forL always (gT 2 (gsC (gN 2) (gsC (gN 3) gsN))) bl_rise_to_1 (ps.map pr) [some d, some (.int y), a, b] s).bind (sRet (eC .non)) = .rt (od (riseF y ps)) s := by
    intro ps
    induction ps with
    | nil => intro a b d; simp [riseF, od]
    | cons x r ih =>
      intro a b d
      rw [List.map_cons, forL_cons_always]
      by_cases c : y ≤ x.2
      · simp [pr, bl_rise_to_1, c, riseF, od]
      · simp [pr, bl_rise_to_1, c, riseF]
        exact ih _ _ _
  simp [m_rise_to, b_rise_to, key]
theorem lrise_spec (ps : List (Int × Int)) (y : Int) (s : Store) : m_d_law_rise [.tup (ps.map pr), .int y] s = .ok (od (riseF y ps)) s := by
  have key : ∀ (ps : List (Int × Int)) (a : Option D) (d : D), (forL always (gN 2) bl_d_law_rise_1 (ps.map pr) [some d, some (.int y), a] s).bind (sRet (eC .non)) = .rt (od (riseF y ps)) s := by
    intro ps
    induction ps with
    | nil => intro a d; simp [riseF, od]
    | cons x r ih =>
      intro a d
      rw [List.map_cons, forL_cons_always]
      by_cases c : y ≤ x.2
      · simp [pr, bl_d_law_rise_1, c, riseF, od, dIx_tup, Int.max_comm]
      · simp [pr, bl_d_law_rise_1, c, riseF, dIx_tup]
        exact ih _ _
  simp [m_d_law_rise, b_d_law_rise, key]
theorem year_right (ps : List (Int × Int)) (hg : Good ps) (y : Int) (s : Store) : m_d_law_year_right [.tup (ps.map pr), .int y] s = .ok (.bl true) s := by
  have key : ∀ (ps : List (Int × Int)) (k : Bool) (a b : Option D) (d : D), ∃ a', forL always (gN 3) bl_d_law_year_right_1 (ps.map pr) [some d, some (.int y), some (.bl k), a, b] s = .nx [some d, some (.int y), some (.bl (k || hasY y ps)), a', b] s := by
    intro ps
    induction ps with
    | nil => intro k a b d; exact ⟨a, by simp [hasY]⟩
    | cons x r ih =>
      intro k a b d
      rw [List.map_cons, forL_cons_always]
      by_cases c : x.1 ≤ y
      · by_cases c2 : y ≤ x.2
        · obtain ⟨a', e⟩ := ih true (some (pr x)) b d
          refine ⟨a', ?_⟩
          simpa [pr, bl_d_law_year_right_1, c, c2, hasY, dIx_tup] using e
        · obtain ⟨a', e⟩ := ih k (some (pr x)) b d
          refine ⟨a', ?_⟩
          simpa [pr, bl_d_law_year_right_1, c, c2, hasY, dIx_tup] using e
      · obtain ⟨a', e⟩ := ih k (some (pr x)) b d
        refine ⟨a', ?_⟩
        simpa [pr, bl_d_law_year_right_1, c, hasY, dIx_tup] using e
  obtain ⟨a', e⟩ := key ps false none none (.tup (ps.map pr))
  simp [m_d_law_year_right, b_d_law_year_right, e, has_spec, fall_spec ps hg, lfall_spec, rise_spec, lrise_spec]
/-- how many years -/
def countY (ps : List (Int × Int)) : List Int := ps.map fun x => x.2 - x.1 + 1
theorem years_in_spec (ps : List (Int × Int)) (hl : ps.length ≤ 1000) (s : Store) : ∃ r, m_years_in [.tup (ps.map pr)] s = .ok (.int (countY ps).sum) (s ++ r) := by
  have e := lcL_map (gd := always) (g := gT 2 (gsC (gN 1) (gsC (gN 2) gsN))) (t := tT) (e := le_years_in_1) (env := [some (.tup (ps.map pr)), none, none]) (s := s) trivial pr (fun x => .int (x.2 - x.1 + 1)) ps (fun x _ => by simp [pr, le_years_in_1]) (by omega)
  have e2 : (ps.map fun x => D.int (x.2 - x.1 + 1)) = (countY ps).map D.int := by simp [countY]
  rw [e2] at e
  have w := dSum_loc (get_new s (.lst ((countY ps).map D.int)))
  simp [m_years_in, b_years_in, e, w]
theorem counts_spec (ps : List (Int × Int)) (hl : ps.length ≤ 1000) (s : Store) : ∃ r, m_d_law_counts_right [.tup (ps.map pr)] s = .ok (.bl true) (s ++ r) := by
  have e := lcL_map (gd := always) (g := gN 2) (t := tT) (e := le_d_law_counts_right_1) (env := [some (.tup (ps.map pr)), none, none]) (s := s) trivial pr (fun x => .int (x.2 - x.1 + 1)) ps (fun x _ => by simp [pr, le_d_law_counts_right_1, dIx_tup]; omega) (by omega)
  have e2 : (ps.map fun x => D.int (x.2 - x.1 + 1)) = (countY ps).map D.int := by simp [countY]
  rw [e2] at e
  have w := dSum_loc (get_new s (.lst ((countY ps).map D.int)))
  obtain ⟨r, er⟩ := years_in_spec ps hl (s ++ [.lst ((countY ps).map D.int)])
  have ww := same_spec (some (countY ps).sum) (some (countY ps).sum) (s ++ ([Cell.lst ((countY ps).map D.int)] ++ r))
  have w3 := same_spec (some (max 0 ((ps.length : Int) - 1))) (some (max 0 ((ps.length : Int) - 1))) (s ++ ([Cell.lst ((countY ps).map D.int)] ++ r))
  simp [od] at ww w3 er
  simp [m_d_law_counts_right, b_d_law_counts_right, e, w, er, ww, m_holes_in, b_holes_in, w3]
/-- pairs that are no wider than 1,000 -/
def Fit (ps : List (Int × Int)) : Prop := ∀ x ∈ ps, x.1 ≤ x.2 ∧ x.2 ≤ x.1 + 1000
def YearsI (p : Nat) (s0 : Store) (ps : List (Int × Int)) (rest : List D) (env : Sl) (s : Store) : Prop := ∃ (rs : List (Int × Int)) (o : Option D) (l : Nat) (ys : List Int), rest = rs.map pr ∧ Fit rs ∧
  env = [some (.loc p), some (.tup (ps.map pr)), some (.loc l), o, none] ∧ s[l]? = some (.lst (((-9999) :: ys : List Int).map D.int)) ∧ l ≠ p ∧ ys.length + 6 * rs.length ≤ 1000 ∧ Pool p s ∧ Kp p s0 s
theorem fm_filter (p : Int → Prop) [DecidablePred p] : ∀ ys : List Int, (ys.filterMap fun y => if p y then some (D.int y) else none) = (ys.filter fun y => decide (p y)).map D.int
  | [] => rfl
  | y :: ys => by
    by_cases c : p y
    · rw [List.filterMap_cons_some (b := .int y) (by simp [c]), List.filter_cons_of_pos (by simp [c]), fm_filter p ys, List.map_cons]
    · rw [List.filterMap_cons_none (by simp [c]), List.filter_cons_of_neg (by simp [c]), fm_filter p ys]
theorem years_spec {p : Nat} {s : Store} (h : Pool p s) (ps : List (Int × Int)) (hf : Fit ps) (hl : ps.length ≤ 100) :
    Rets (fun d s' => ∃ l ys, d = .loc l ∧ s'[l]? = some (.lst (((-9999) :: ys : List Int).map D.int)) ∧ l ≠ p ∧ Pool p s' ∧ Kp p s s') (m_d_law_years [.loc p, .tup (ps.map pr)] s) := by
  obtain ⟨k1, s1, e1, k10, k11, h1, kp1⟩ := draw_spec h (many := 19999) (by omega) (by omega)
  obtain ⟨env', s', e, rs, o, l, ys, hr, _, rfl, q1, q2, q3, q4, q5⟩ := forL_thru (gd := always) (g := gN 3) (b := bl_d_law_years_3) (YearsI p s ps) (fun _ _ _ _ => trivial) (xs := ps.map pr)
    (env := [some (.loc p), some (.tup (ps.map pr)), some (.loc s1.length), none, none]) (s := s1 ++ [.lst [.int (-9999), .int 9999, .int 0, .int (k1 - 9999)]]) (fun x xs env s2 hI => by
      obtain ⟨rs, o, l, ys, hr, hf, rfl, q1, q2, q3, q4, q5⟩ := hI
      cases rs with
      | nil => cases hr
      | cons r rs =>
        obtain ⟨rfl, rfl⟩ := List.cons.inj hr
        obtain ⟨f1, f2⟩ := hf r (by simp)
        have hf' : Fit rs := fun x hx => hf x (by simp [hx])
        have q3' : ys.length + 6 * (rs.length + 1) ≤ 1000 := by simpa using q3
        obtain ⟨new, hnew⟩ : ∃ new : List D, new = [.int (r.1 - 1), .int r.1, .int r.2, .int (r.2 + 1)] := ⟨_, rfl⟩
        obtain ⟨old, hold⟩ : ∃ old : List D, old = ((-9999) :: ys : List Int).map D.int := ⟨_, rfl⟩
        rw [← hold] at q1
        have hlen : old.length = ys.length + 1 := by rw [hold]; simp
        have hnl : new.length = 4 := by rw [hnew]; rfl
        have w1 : dAdd (.loc l) (.loc s2.length) (s2 ++ [.lst new]) = some (.loc (s2.length + 1), s2 ++ [.lst new] ++ [.lst (old ++ new)]) := by
          have w := dAdd_loc (s := s2 ++ [.lst new]) (l := l) (k := s2.length) (by rw [List.getElem?_append_left (lt_of_get q1)]; exact q1) (get_new _ _) (by omega)
          simpa using w
        have h3 := (q4.app [.lst new]).app [.lst (old ++ new)]
        have kp3 := (q5.trans (Kp.app p s2 [.lst new])).trans (Kp.app p (s2 ++ [.lst new]) [.lst (old ++ new)])
        have g3 : (s2 ++ [Cell.lst new] ++ [Cell.lst (old ++ new)])[s2.length + 1]? = some (.lst (old ++ new)) := by
          have q := get_new (s2 ++ [Cell.lst new]) (.lst (old ++ new))
          simpa using q
        have np : s2.length + 1 ≠ p := by have := q4.lt; omega
        obtain ⟨k4, s4, e4, k40, k41, h4, kp4⟩ := draw_spec h3 (many := 1 + r.2 - r.1) (by omega) (by omega)
        have g4 := kp4.get g3 np
        have w4 := dAppend_loc g4 (by simp; omega) (.int (r.1 + k4))
        have t4 := tyOk_list g3
        have h5 := h4.set np (.lst (old ++ new ++ [.int (r.1 + k4)]))
        have kp5 : Kp p s (s4.set (s2.length + 1) (.lst (old ++ new ++ [.int (r.1 + k4)]))) := by
          have k := kp3.trans kp4
          have z := q5.1
          exact ⟨by simpa using k.1, fun j hj hn => by rw [List.getElem?_set_ne (by omega)]; exact k.2 j hj hn⟩
        have g5 := get_set (c' := .lst (old ++ new ++ [.int (r.1 + k4)])) g4
        have t5 := tyOk_list g5
        obtain ⟨k6, s6, e6, k60, k61, h6, kp6⟩ := draw_spec h5 (many := 800) (by omega) (by omega)
        have g6 := kp6.get g5 np
        have w6 := dAppend_loc g6 (by simp; omega) (.int (r.2 + 1 + k6))
        subst hnew
        simp only [List.append_assoc, List.cons_append, List.nil_append] at w1 e4 t4 w4 e6 t5 w6 g6 h6 kp6 kp5 g5
        simp [bl_d_law_years_3, pr, dIx_tup, w1, e4, t4, w4, t5, e6, w6]
        refine ⟨rs, _, s2.length + 1, ys ++ [r.1 - 1, r.1, r.2, r.2 + 1, r.1 + k4, r.2 + 1 + k6], rfl, hf', rfl, ?_, np, by simp; omega, h6.set np _, ?_⟩
        · rw [get_set g6, hold]
          simp
        · have k := kp5.trans kp6
          have z := q5.1
          exact ⟨by simpa using k.1, fun j hj hn => by rw [List.getElem?_set_ne (by omega)]; exact k.2 j hj hn⟩)
    ⟨ps, none, s1.length, [9999, 0, k1 - 9999], rfl, hf, rfl, get_new _ _, Nat.ne_of_gt h1.lt, by simp; omega, h1.app _, kp1.trans (Kp.app p s1 _)⟩
  have e2 := lcL_fm (gd := fun s2 => s2[l]? = some (Cell.lst (((-9999) :: ys : List Int).map D.int))) (g := gN 4) (t := lt_d_law_years_1) (e := le_d_law_years_2) (env := [some (.loc p), some (.tup (ps.map pr)), some (.loc l), o, none]) (s := s') q1
    D.int (fun y => if -9999 ≤ y ∧ y ≤ 9999 then some (.int y) else none) ((-9999) :: ys) [] (fun y _ => by
      by_cases c1 : -9999 ≤ y
      · by_cases c2 : y ≤ 9999 <;> simp [lt_d_law_years_1, le_d_law_years_2, c1, c2]
      · simp [lt_d_law_years_1, le_d_law_years_2, c1]) (by simp; omega)
  rw [fm_filter, List.filter_cons_of_pos (by simp)] at e2
  simp only [List.map_cons, List.nil_append] at e2 q1
  simp [m_d_law_years, b_d_law_years, e1, e, q1, e2]
  exact ⟨⟨_, rfl⟩, Nat.ne_of_gt q4.lt, q4.app _, q5.trans (Kp.app p s' _)⟩
end Law
namespace Law
open PySem Mi
theorem fall_last {z : Int × Int} : ∀ {ps : List (Int × Int)} {lo : Int} (f : Option Int), Gd lo (ps ++ [z]) → fallF (z.2 + 1) f (ps ++ [z]) = some z.2
  | [], lo, f, ⟨a, b, c, d⟩ => by
    show fallF (z.2 + 1) f [z] = _
    unfold fallF
    rw [if_pos (by omega)]
    unfold fallF
    rw [show min (z.2 + 1) z.2 = z.2 by omega]
  | x :: r, lo, f, ⟨a, b, c, d⟩ => by
    show fallF (z.2 + 1) f (x :: (r ++ [z])) = _
    unfold fallF
    split
    · exact fall_last _ d
    · exact fall_last _ d
theorem rise_last {z : Int × Int} : ∀ {ps : List (Int × Int)} {lo : Int}, Gd lo (ps ++ [z]) → riseF (z.2 + 1) (ps ++ [z]) = none
  | [], lo, ⟨a, b, c, d⟩ => by
    show riseF (z.2 + 1) [z] = _
    unfold riseF
    rw [if_neg (by omega)]
    rfl
  | x :: r, lo, ⟨a, b, c, d⟩ => by
    show riseF (z.2 + 1) (x :: (r ++ [z])) = _
    have h := d.each z (by simp)
    unfold riseF
    rw [if_neg (by omega)]
    exact rise_last d
/-- the three that are counted -/
def OnesI (p : Nat) (dl dr : D) (l ly : Nat) (ys : List D) (r : Sl) (rest : List D) (env : Sl) (s : Store) : Prop := ∃ (qs : List (List (Int × Int))) (o : Option D) (c : D),
  rest = qs.map (fun q => .tup (q.map pr)) ∧ (∀ q ∈ qs, q.length ≤ 1000) ∧ env = some c :: some (.loc p) :: some dl :: some dr :: some (.loc ly) :: o :: r ∧ s[ly]? = some (.lst ys) ∧ ∃ zs, s[l]? = some (.lst zs)
theorem law_true (ns : List Int) (hn : ns.length ≤ 63) : ∃ s, m_law [.fl (ns.map D.int)] [] = .ok (.bl true) s := by
  obtain ⟨p, s1, e1, h1⟩ := pool_spec ns hn
  obtain ⟨k2, s2, e2, k20, k21, h2, kp2⟩ := often_spec h1 (many := 13) (by omega) (by omega)
  obtain ⟨n2, rfl⟩ := Int.eq_ofNat_of_zero_le k20
  obtain ⟨_, s3, e3, ps, rfl, g3, l3, h3, kp3⟩ := (dates_spec h2 (n := n2) (by omega)).out
  obtain ⟨k4, s4, e4, k40, k41, h4, kp4⟩ := often_spec h3 (many := 4) (by omega) (by omega)
  obtain ⟨n4, rfl⟩ := Int.eq_ofNat_of_zero_le k40
  obtain ⟨_, s5, e5, qs, rfl, g5, l5, h5, kp5⟩ := (dates_spec h4 (n := 1 + n4) (by omega)).out
  have ft : Fit (ps ++ qs) := fun x hx => by
    rcases List.mem_append.mp hx with q | q
    · obtain ⟨lo, g⟩ := g3
      exact (g.each x q).2
    · obtain ⟨lo, g⟩ := g5
      exact (g.each x q).2
  obtain ⟨_, s6, e6, ly, ys, rfl, g6, np, h6, kp6⟩ := (years_spec h5 (ps ++ qs) ft (by simp; omega)).out
  have w6 := dAdd_tup (s := s5) (xs := ps.map pr) (ys := qs.map pr) (by simp; omega)
  rw [← List.map_append] at w6
  rw [show ((1 + n4 : Nat) : Int) = 1 + (n4 : Int) by omega] at e5
  generalize hg6 : ((-9999 : Int) :: ys).map D.int = ds at g6
  obtain ⟨env7, s7, e7, ⟨qs7, o7, c7, hr7, _, rfl, g7, _⟩, _⟩ := forL_thru (gd := fun s2 => s2[s6.length]? = some (Cell.lst [.tup (ps.map pr), .tup (qs.map pr), .tup []])) (g := gN 5) (b := bl_law_2) (fun rest env s => OnesI p (.tup (ps.map pr)) (.tup (qs.map pr)) s6.length ly ds [none, none, none] rest env s ∧ s[s6.length]? = some (Cell.lst [.tup (ps.map pr), .tup (qs.map pr), .tup []]))
    (fun _ _ _ h => h.2) (fun x xs env s ⟨⟨qs', o, c, hr, hq, he, hs1, _⟩, hs2⟩ => by
      subst he
      cases qs' with
      | nil => cases hr
      | cons q qs' =>
        obtain ⟨rfl, rfl⟩ := List.cons.inj hr
        obtain ⟨r, er⟩ := counts_spec q (hq q (by simp)) s
        simp [bl_law_2, er]
        have a1 : (s ++ r)[s6.length]? = some (Cell.lst [.tup (ps.map pr), .tup (qs.map pr), .tup []]) := by rw [List.getElem?_append_left (lt_of_get hs2)]; exact hs2
        exact ⟨⟨qs', _, _, rfl, (fun z hz => hq z (by simp [hz])), rfl, by rw [List.getElem?_append_left (lt_of_get hs1)]; exact hs1, _, a1⟩, a1⟩)
    (xs := [.tup (ps.map pr), .tup (qs.map pr), .tup []]) (env := [some (.fl (ns.map D.int)), some (.loc p), some (.tup (ps.map pr)), some (.tup (qs.map pr)), some (.loc ly), none, none, none, none]) (s := s6 ++ [.lst [.tup (ps.map pr), .tup (qs.map pr), .tup []]])
    ⟨⟨[ps, qs, []], none, _, rfl, (fun q hq => by simp at hq; rcases hq with rfl | rfl | rfl <;> (try simp) <;> omega), rfl, by rw [List.getElem?_append_left (lt_of_get g6)]; exact g6, _, get_new _ _⟩, get_new _ _⟩
  obtain ⟨env8, s8, e8, zs8, o8, hr8, rfl, rfl⟩ := forL_thru (gd := fun s2 => s2[ly]? = some (Cell.lst ds)) (g := gN 6) (b := bl_law_1) (fun rest env s => ∃ (zs : List Int) (o : Option D), rest = zs.map D.int ∧ env = [some c7, some (.loc p), some (.tup (ps.map pr)), some (.tup (qs.map pr)), some (.loc ly), o7, o, none, none] ∧ s7 = s)
    (fun _ _ _ ⟨_, _, _, _, h⟩ => by subst h; exact g7) (fun x xs env s ⟨zs, o, hr, he, hs⟩ => by
      subst he hs
      cases zs with
      | nil => cases hr
      | cons y zs =>
        obtain ⟨rfl, rfl⟩ := List.cons.inj hr
        simp [bl_law_1, year_right ps g3, year_right qs g5]
        exact ⟨_, rfl⟩)
    (xs := ds) (env := [some c7, some (.loc p), some (.tup (ps.map pr)), some (.tup (qs.map pr)), some (.loc ly), o7, none, none, none]) (s := s7) ⟨_, _, hg6.symm, rfl, rfl⟩
  have w8 : dIx (.loc ly) (.int 0) s7 = some (.int (-9999), s7) := by
    rw [dIx_loc g7, ← hg6]
    simp
  obtain ⟨r9, er9⟩ := counts_spec ps (by omega) s7
  have q1 := year_right ps g3 (-9999) s7
  obtain ⟨lo, g5⟩ := g5
  cases qs with
  | nil => simp at l5; omega
  | cons x r =>
    have f1 : fallF (x.1 - 1) none (x :: r) = none := by
      unfold fallF
      rw [if_neg (by omega)]
      exact fallF_high _ r none x.2 g5.2.2.2 (by have := g5.2.1; omega)
    have f2 : riseF (x.1 - 1) (x :: r) = some x.1 := by
      unfold riseF
      rw [if_pos (by have := g5.2.1; omega), show max x.1 (x.1 - 1) = x.1 by omega]
    have f3 : hasY x.1 (x :: r) = true := by
      have := g5.2.1
      simp [hasY, this]
    obtain ⟨init, z, hz⟩ : ∃ init z, x :: r = init ++ [z] := ⟨_, _, (List.dropLast_concat_getLast (l := x :: r) (by simp)).symm⟩
    have hx : dIx (.tup ((x :: r).map pr)) (.int 0) s7 = some (pr x, s7) := by simp [dIx_tup]
    have a1 := has_spec (x :: r) x.1 s7
    have a2 := fall_spec (x :: r) ⟨_, g5⟩ (x.1 - 1) s7
    have a3 := rise_spec (x :: r) (x.1 - 1) s7
    have a4 := fall_spec (x :: r) ⟨_, g5⟩ (z.2 + 1) s7
    have a5 := rise_spec (x :: r) (z.2 + 1) s7
    have a6 := has_spec [] x.1 s7
    have a7 := fall_spec [] ⟨0, trivial⟩ x.1 s7
    have a8 := rise_spec [] x.1 s7
    have b1 := same_spec (some x.1) (some x.1) s7
    have b2 := same_spec (some z.2) (some z.2) s7
    rw [f3] at a1
    rw [f1] at a2
    rw [f2] at a3
    rw [hz] at g5
    rw [show fallF (z.2 + 1) none (x :: r) = some z.2 by rw [hz]; exact fall_last none g5] at a4
    rw [show riseF (z.2 + 1) (x :: r) = none by rw [hz]; exact rise_last g5] at a5
    have hl : dIx (.tup ((x :: r).map pr)) (.int ((((x :: r).map pr).length : Int) - 1)) s7 = some (pr z, s7) := by
      rw [hz, dIx_tup, show ((((init ++ [z]).map pr).length : Int) - 1) = (init.length : Nat) by simp, atI_ofNat _ _ (pr z) (by simp)]
      rfl
    have p0 : ∀ (a b : D) (s : Store), dIx (.tup [a, b]) (.int 0) s = some (a, s) := fun a b s => by simp [dIx_tup]
    have p1 : ∀ (a b : D) (s : Store), dIx (.tup [a, b]) (.int 1) s = some (b, s) := fun a b s => by simp [dIx_tup]
    generalize hfs : (ps ++ (x :: r)).map pr = fs at w6 e6
    generalize hds : (x :: r).map pr = es at *
    simp only [od, hasY, fallF, riseF, List.any_nil, List.map_nil] at a1 a2 a3 a4 a5 a6 a7 a8 b1 b2
    simp [m_law, b_law, e1, e2, e3, e4, e5, w6, e6, e7, g7, e8, p0, p1, hx, hl, pr, a1, a2, a3, a4, a5, a6, a7, a8, b1, b2, w8, q1, er9]
end Law
namespace Law
open PySem PySem.Spec PyProof.Rows L2 Mi
theorem all_mk {P : Program} {w : World} {K : PySem.W.Frag} {h : Heap} {mg : Str → Option Value} {fa : Addr} (X : K.In h) (G : h.Ns mainGlobals mg) (hfa : mg "law" = some (.ref fa))
  {f_has_year : Addr} {od_has_year an_has_year : Option Addr} {sl_has_year : Array (Option Value)} {oc_has_year kV_has_year dc_has_year pm_has_year cd_has_year ct_has_year : Value} (a_has_year : PySem.W.nsIn K mainGlobals "has_year" = some (some (.ref f_has_year))) (l_has_year : K.lookup f_has_year = some ⟨oc_has_year, od_has_year, .func (PySem.W.fnOf "has_year" "has_year" (defArgs s_has_year) (defBody s_has_year) (defScope s_has_year) .none kV_has_year dc_has_year pm_has_year an_has_year cd_has_year ct_has_year), sl_has_year⟩) (c_has_year : PySem.W.codeIn K cd_has_year "has_year" = true) (k_has_year : PySem.W.keepIn K (.ref f_has_year) = true)
  {f_fall_to : Addr} {od_fall_to an_fall_to : Option Addr} {sl_fall_to : Array (Option Value)} {oc_fall_to kV_fall_to dc_fall_to pm_fall_to cd_fall_to ct_fall_to : Value} (a_fall_to : PySem.W.nsIn K mainGlobals "fall_to" = some (some (.ref f_fall_to))) (l_fall_to : K.lookup f_fall_to = some ⟨oc_fall_to, od_fall_to, .func (PySem.W.fnOf "fall_to" "fall_to" (defArgs s_fall_to) (defBody s_fall_to) (defScope s_fall_to) .none kV_fall_to dc_fall_to pm_fall_to an_fall_to cd_fall_to ct_fall_to), sl_fall_to⟩) (c_fall_to : PySem.W.codeIn K cd_fall_to "fall_to" = true) (k_fall_to : PySem.W.keepIn K (.ref f_fall_to) = true)
  {f_rise_to : Addr} {od_rise_to an_rise_to : Option Addr} {sl_rise_to : Array (Option Value)} {oc_rise_to kV_rise_to dc_rise_to pm_rise_to cd_rise_to ct_rise_to : Value} (a_rise_to : PySem.W.nsIn K mainGlobals "rise_to" = some (some (.ref f_rise_to))) (l_rise_to : K.lookup f_rise_to = some ⟨oc_rise_to, od_rise_to, .func (PySem.W.fnOf "rise_to" "rise_to" (defArgs s_rise_to) (defBody s_rise_to) (defScope s_rise_to) .none kV_rise_to dc_rise_to pm_rise_to an_rise_to cd_rise_to ct_rise_to), sl_rise_to⟩) (c_rise_to : PySem.W.codeIn K cd_rise_to "rise_to" = true) (k_rise_to : PySem.W.keepIn K (.ref f_rise_to) = true)
  {f_years_in : Addr} {od_years_in an_years_in : Option Addr} {sl_years_in : Array (Option Value)} {oc_years_in kV_years_in dc_years_in pm_years_in cd_years_in ct_years_in : Value} (a_years_in : PySem.W.nsIn K mainGlobals "years_in" = some (some (.ref f_years_in))) (l_years_in : K.lookup f_years_in = some ⟨oc_years_in, od_years_in, .func (PySem.W.fnOf "years_in" "years_in" (defArgs s_years_in) (defBody s_years_in) (defScope s_years_in) .none kV_years_in dc_years_in pm_years_in an_years_in cd_years_in ct_years_in), sl_years_in⟩) (c_years_in : PySem.W.codeIn K cd_years_in "years_in" = true) (k_years_in : PySem.W.keepIn K (.ref f_years_in) = true)
  {f_holes_in : Addr} {od_holes_in an_holes_in : Option Addr} {sl_holes_in : Array (Option Value)} {oc_holes_in kV_holes_in dc_holes_in pm_holes_in cd_holes_in ct_holes_in : Value} (a_holes_in : PySem.W.nsIn K mainGlobals "holes_in" = some (some (.ref f_holes_in))) (l_holes_in : K.lookup f_holes_in = some ⟨oc_holes_in, od_holes_in, .func (PySem.W.fnOf "holes_in" "holes_in" (defArgs s_holes_in) (defBody s_holes_in) (defScope s_holes_in) .none kV_holes_in dc_holes_in pm_holes_in an_holes_in cd_holes_in ct_holes_in), sl_holes_in⟩) (c_holes_in : PySem.W.codeIn K cd_holes_in "holes_in" = true) (k_holes_in : PySem.W.keepIn K (.ref f_holes_in) = true)
  {f_d_law_pool : Addr} {od_d_law_pool an_d_law_pool : Option Addr} {sl_d_law_pool : Array (Option Value)} {oc_d_law_pool kV_d_law_pool dc_d_law_pool pm_d_law_pool cd_d_law_pool ct_d_law_pool : Value} (a_d_law_pool : PySem.W.nsIn K mainGlobals "_law_pool" = some (some (.ref f_d_law_pool))) (l_d_law_pool : K.lookup f_d_law_pool = some ⟨oc_d_law_pool, od_d_law_pool, .func (PySem.W.fnOf "_law_pool" "_law_pool" (defArgs s_d_law_pool) (defBody s_d_law_pool) (defScope s_d_law_pool) .none kV_d_law_pool dc_d_law_pool pm_d_law_pool an_d_law_pool cd_d_law_pool ct_d_law_pool), sl_d_law_pool⟩) (c_d_law_pool : PySem.W.codeIn K cd_d_law_pool "_law_pool" = true) (k_d_law_pool : PySem.W.keepIn K (.ref f_d_law_pool) = true)
  {f_d_law_draw : Addr} {od_d_law_draw an_d_law_draw : Option Addr} {sl_d_law_draw : Array (Option Value)} {oc_d_law_draw kV_d_law_draw dc_d_law_draw pm_d_law_draw cd_d_law_draw ct_d_law_draw : Value} (a_d_law_draw : PySem.W.nsIn K mainGlobals "_law_draw" = some (some (.ref f_d_law_draw))) (l_d_law_draw : K.lookup f_d_law_draw = some ⟨oc_d_law_draw, od_d_law_draw, .func (PySem.W.fnOf "_law_draw" "_law_draw" (defArgs s_d_law_draw) (defBody s_d_law_draw) (defScope s_d_law_draw) .none kV_d_law_draw dc_d_law_draw pm_d_law_draw an_d_law_draw cd_d_law_draw ct_d_law_draw), sl_d_law_draw⟩) (c_d_law_draw : PySem.W.codeIn K cd_d_law_draw "_law_draw" = true) (k_d_law_draw : PySem.W.keepIn K (.ref f_d_law_draw) = true)
  {f_d_law_often_end : Addr} {od_d_law_often_end an_d_law_often_end : Option Addr} {sl_d_law_often_end : Array (Option Value)} {oc_d_law_often_end kV_d_law_often_end dc_d_law_often_end pm_d_law_often_end cd_d_law_often_end ct_d_law_often_end : Value} (a_d_law_often_end : PySem.W.nsIn K mainGlobals "_law_often_end" = some (some (.ref f_d_law_often_end))) (l_d_law_often_end : K.lookup f_d_law_often_end = some ⟨oc_d_law_often_end, od_d_law_often_end, .func (PySem.W.fnOf "_law_often_end" "_law_often_end" (defArgs s_d_law_often_end) (defBody s_d_law_often_end) (defScope s_d_law_often_end) .none kV_d_law_often_end dc_d_law_often_end pm_d_law_often_end an_d_law_often_end cd_d_law_often_end ct_d_law_often_end), sl_d_law_often_end⟩) (c_d_law_often_end : PySem.W.codeIn K cd_d_law_often_end "_law_often_end" = true) (k_d_law_often_end : PySem.W.keepIn K (.ref f_d_law_often_end) = true)
  {f_d_law_is_integer : Addr} {od_d_law_is_integer an_d_law_is_integer : Option Addr} {sl_d_law_is_integer : Array (Option Value)} {oc_d_law_is_integer kV_d_law_is_integer dc_d_law_is_integer pm_d_law_is_integer cd_d_law_is_integer ct_d_law_is_integer : Value} (a_d_law_is_integer : PySem.W.nsIn K mainGlobals "_law_is_integer" = some (some (.ref f_d_law_is_integer))) (l_d_law_is_integer : K.lookup f_d_law_is_integer = some ⟨oc_d_law_is_integer, od_d_law_is_integer, .func (PySem.W.fnOf "_law_is_integer" "_law_is_integer" (defArgs s_d_law_is_integer) (defBody s_d_law_is_integer) (defScope s_d_law_is_integer) .none kV_d_law_is_integer dc_d_law_is_integer pm_d_law_is_integer an_d_law_is_integer cd_d_law_is_integer ct_d_law_is_integer), sl_d_law_is_integer⟩) (c_d_law_is_integer : PySem.W.codeIn K cd_d_law_is_integer "_law_is_integer" = true) (k_d_law_is_integer : PySem.W.keepIn K (.ref f_d_law_is_integer) = true)
  {f_d_law_dates : Addr} {od_d_law_dates an_d_law_dates : Option Addr} {sl_d_law_dates : Array (Option Value)} {oc_d_law_dates kV_d_law_dates dc_d_law_dates pm_d_law_dates cd_d_law_dates ct_d_law_dates : Value} (a_d_law_dates : PySem.W.nsIn K mainGlobals "_law_dates" = some (some (.ref f_d_law_dates))) (l_d_law_dates : K.lookup f_d_law_dates = some ⟨oc_d_law_dates, od_d_law_dates, .func (PySem.W.fnOf "_law_dates" "_law_dates" (defArgs s_d_law_dates) (defBody s_d_law_dates) (defScope s_d_law_dates) .none kV_d_law_dates dc_d_law_dates pm_d_law_dates an_d_law_dates cd_d_law_dates ct_d_law_dates), sl_d_law_dates⟩) (c_d_law_dates : PySem.W.codeIn K cd_d_law_dates "_law_dates" = true) (k_d_law_dates : PySem.W.keepIn K (.ref f_d_law_dates) = true)
  {f_d_law_fall : Addr} {od_d_law_fall an_d_law_fall : Option Addr} {sl_d_law_fall : Array (Option Value)} {oc_d_law_fall kV_d_law_fall dc_d_law_fall pm_d_law_fall cd_d_law_fall ct_d_law_fall : Value} (a_d_law_fall : PySem.W.nsIn K mainGlobals "_law_fall" = some (some (.ref f_d_law_fall))) (l_d_law_fall : K.lookup f_d_law_fall = some ⟨oc_d_law_fall, od_d_law_fall, .func (PySem.W.fnOf "_law_fall" "_law_fall" (defArgs s_d_law_fall) (defBody s_d_law_fall) (defScope s_d_law_fall) .none kV_d_law_fall dc_d_law_fall pm_d_law_fall an_d_law_fall cd_d_law_fall ct_d_law_fall), sl_d_law_fall⟩) (c_d_law_fall : PySem.W.codeIn K cd_d_law_fall "_law_fall" = true) (k_d_law_fall : PySem.W.keepIn K (.ref f_d_law_fall) = true)
  {f_d_law_rise : Addr} {od_d_law_rise an_d_law_rise : Option Addr} {sl_d_law_rise : Array (Option Value)} {oc_d_law_rise kV_d_law_rise dc_d_law_rise pm_d_law_rise cd_d_law_rise ct_d_law_rise : Value} (a_d_law_rise : PySem.W.nsIn K mainGlobals "_law_rise" = some (some (.ref f_d_law_rise))) (l_d_law_rise : K.lookup f_d_law_rise = some ⟨oc_d_law_rise, od_d_law_rise, .func (PySem.W.fnOf "_law_rise" "_law_rise" (defArgs s_d_law_rise) (defBody s_d_law_rise) (defScope s_d_law_rise) .none kV_d_law_rise dc_d_law_rise pm_d_law_rise an_d_law_rise cd_d_law_rise ct_d_law_rise), sl_d_law_rise⟩) (c_d_law_rise : PySem.W.codeIn K cd_d_law_rise "_law_rise" = true) (k_d_law_rise : PySem.W.keepIn K (.ref f_d_law_rise) = true)
  {f_d_law_same : Addr} {od_d_law_same an_d_law_same : Option Addr} {sl_d_law_same : Array (Option Value)} {oc_d_law_same kV_d_law_same dc_d_law_same pm_d_law_same cd_d_law_same ct_d_law_same : Value} (a_d_law_same : PySem.W.nsIn K mainGlobals "_law_same" = some (some (.ref f_d_law_same))) (l_d_law_same : K.lookup f_d_law_same = some ⟨oc_d_law_same, od_d_law_same, .func (PySem.W.fnOf "_law_same" "_law_same" (defArgs s_d_law_same) (defBody s_d_law_same) (defScope s_d_law_same) .none kV_d_law_same dc_d_law_same pm_d_law_same an_d_law_same cd_d_law_same ct_d_law_same), sl_d_law_same⟩) (c_d_law_same : PySem.W.codeIn K cd_d_law_same "_law_same" = true) (k_d_law_same : PySem.W.keepIn K (.ref f_d_law_same) = true)
  {f_d_law_year_right : Addr} {od_d_law_year_right an_d_law_year_right : Option Addr} {sl_d_law_year_right : Array (Option Value)} {oc_d_law_year_right kV_d_law_year_right dc_d_law_year_right pm_d_law_year_right cd_d_law_year_right ct_d_law_year_right : Value} (a_d_law_year_right : PySem.W.nsIn K mainGlobals "_law_year_right" = some (some (.ref f_d_law_year_right))) (l_d_law_year_right : K.lookup f_d_law_year_right = some ⟨oc_d_law_year_right, od_d_law_year_right, .func (PySem.W.fnOf "_law_year_right" "_law_year_right" (defArgs s_d_law_year_right) (defBody s_d_law_year_right) (defScope s_d_law_year_right) .none kV_d_law_year_right dc_d_law_year_right pm_d_law_year_right an_d_law_year_right cd_d_law_year_right ct_d_law_year_right), sl_d_law_year_right⟩) (c_d_law_year_right : PySem.W.codeIn K cd_d_law_year_right "_law_year_right" = true) (k_d_law_year_right : PySem.W.keepIn K (.ref f_d_law_year_right) = true)
  {f_d_law_years : Addr} {od_d_law_years an_d_law_years : Option Addr} {sl_d_law_years : Array (Option Value)} {oc_d_law_years kV_d_law_years dc_d_law_years pm_d_law_years cd_d_law_years ct_d_law_years : Value} (a_d_law_years : PySem.W.nsIn K mainGlobals "_law_years" = some (some (.ref f_d_law_years))) (l_d_law_years : K.lookup f_d_law_years = some ⟨oc_d_law_years, od_d_law_years, .func (PySem.W.fnOf "_law_years" "_law_years" (defArgs s_d_law_years) (defBody s_d_law_years) (defScope s_d_law_years) .none kV_d_law_years dc_d_law_years pm_d_law_years an_d_law_years cd_d_law_years ct_d_law_years), sl_d_law_years⟩) (c_d_law_years : PySem.W.codeIn K cd_d_law_years "_law_years" = true) (k_d_law_years : PySem.W.keepIn K (.ref f_d_law_years) = true)
  {f_d_law_counts_right : Addr} {od_d_law_counts_right an_d_law_counts_right : Option Addr} {sl_d_law_counts_right : Array (Option Value)} {oc_d_law_counts_right kV_d_law_counts_right dc_d_law_counts_right pm_d_law_counts_right cd_d_law_counts_right ct_d_law_counts_right : Value} (a_d_law_counts_right : PySem.W.nsIn K mainGlobals "_law_counts_right" = some (some (.ref f_d_law_counts_right))) (l_d_law_counts_right : K.lookup f_d_law_counts_right = some ⟨oc_d_law_counts_right, od_d_law_counts_right, .func (PySem.W.fnOf "_law_counts_right" "_law_counts_right" (defArgs s_d_law_counts_right) (defBody s_d_law_counts_right) (defScope s_d_law_counts_right) .none kV_d_law_counts_right dc_d_law_counts_right pm_d_law_counts_right an_d_law_counts_right cd_d_law_counts_right ct_d_law_counts_right), sl_d_law_counts_right⟩) (c_d_law_counts_right : PySem.W.codeIn K cd_d_law_counts_right "_law_counts_right" = true) (k_d_law_counts_right : PySem.W.keepIn K (.ref f_d_law_counts_right) = true)
  {f_law : Addr} {od_law an_law : Option Addr} {sl_law : Array (Option Value)} {oc_law kV_law dc_law pm_law cd_law ct_law : Value} (a_law : PySem.W.nsIn K mainGlobals "law" = some (some (.ref f_law))) (l_law : K.lookup f_law = some ⟨oc_law, od_law, .func (PySem.W.fnOf "law" "law" (defArgs s_law) (defBody s_law) (defScope s_law) .none kV_law dc_law pm_law an_law cd_law ct_law), sl_law⟩) (c_law : PySem.W.codeIn K cd_law "law" = true) (k_law : PySem.W.keepIn K (.ref f_law) = true)
  (z_bool : PySem.W.nsIn K mainGlobals "bool" = some none)
  (z_int : PySem.W.nsIn K mainGlobals "int" = some none)
  (z_isinstance : PySem.W.nsIn K mainGlobals "isinstance" = some none)
  (z_len : PySem.W.nsIn K mainGlobals "len" = some none)
  (z_max : PySem.W.nsIn K mainGlobals "max" = some none)
  (z_min : PySem.W.nsIn K mainGlobals "min" = some none)
  (z_range : PySem.W.nsIn K mainGlobals "range" = some none)
  (z_sum : PySem.W.nsIn K mainGlobals "sum" = some none)
  (z_tuple : PySem.W.nsIn K mainGlobals "tuple" = some none) :
  ∃ fd : FuncData, (∀ (s : Shared) (v : Value), BindsTo s fd ⟨[v], []⟩ [("script", v)]) ∧ ∀ base : Heap, K.In base → base.Ns mainGlobals mg → FnOk P w K mg base (L2.CX P w) 4 fa fd ["script"] (spLaw K) := by
  cases hfa.symm.trans (PySem.W.mg_of X G a_law)
  have Z : ∃ Z : Fx K mg, Z.a_law = fa ∧ Z.d_law = PySem.W.fnOf "law" "law" (defArgs s_law) (defBody s_law) (defScope s_law) .none kV_law dc_law pm_law an_law cd_law ct_law := ⟨{
    a_has_year := f_has_year, d_has_year := _, F_has_year := fun_mk (st := s_has_year) l_has_year c_has_year k_has_year, g_has_year := PySem.W.mg_of X G a_has_year,
    a_fall_to := f_fall_to, d_fall_to := _, F_fall_to := fun_mk (st := s_fall_to) l_fall_to c_fall_to k_fall_to, g_fall_to := PySem.W.mg_of X G a_fall_to,
    a_rise_to := f_rise_to, d_rise_to := _, F_rise_to := fun_mk (st := s_rise_to) l_rise_to c_rise_to k_rise_to, g_rise_to := PySem.W.mg_of X G a_rise_to,
    a_years_in := f_years_in, d_years_in := _, F_years_in := fun_mk (st := s_years_in) l_years_in c_years_in k_years_in, g_years_in := PySem.W.mg_of X G a_years_in,
    a_holes_in := f_holes_in, d_holes_in := _, F_holes_in := fun_mk (st := s_holes_in) l_holes_in c_holes_in k_holes_in, g_holes_in := PySem.W.mg_of X G a_holes_in,
    a_d_law_pool := f_d_law_pool, d_d_law_pool := _, F_d_law_pool := fun_mk (st := s_d_law_pool) l_d_law_pool c_d_law_pool k_d_law_pool, g_d_law_pool := PySem.W.mg_of X G a_d_law_pool,
    a_d_law_draw := f_d_law_draw, d_d_law_draw := _, F_d_law_draw := fun_mk (st := s_d_law_draw) l_d_law_draw c_d_law_draw k_d_law_draw, g_d_law_draw := PySem.W.mg_of X G a_d_law_draw,
    a_d_law_often_end := f_d_law_often_end, d_d_law_often_end := _, F_d_law_often_end := fun_mk (st := s_d_law_often_end) l_d_law_often_end c_d_law_often_end k_d_law_often_end, g_d_law_often_end := PySem.W.mg_of X G a_d_law_often_end,
    a_d_law_is_integer := f_d_law_is_integer, d_d_law_is_integer := _, F_d_law_is_integer := fun_mk (st := s_d_law_is_integer) l_d_law_is_integer c_d_law_is_integer k_d_law_is_integer, g_d_law_is_integer := PySem.W.mg_of X G a_d_law_is_integer,
    a_d_law_dates := f_d_law_dates, d_d_law_dates := _, F_d_law_dates := fun_mk (st := s_d_law_dates) l_d_law_dates c_d_law_dates k_d_law_dates, g_d_law_dates := PySem.W.mg_of X G a_d_law_dates,
    a_d_law_fall := f_d_law_fall, d_d_law_fall := _, F_d_law_fall := fun_mk (st := s_d_law_fall) l_d_law_fall c_d_law_fall k_d_law_fall, g_d_law_fall := PySem.W.mg_of X G a_d_law_fall,
    a_d_law_rise := f_d_law_rise, d_d_law_rise := _, F_d_law_rise := fun_mk (st := s_d_law_rise) l_d_law_rise c_d_law_rise k_d_law_rise, g_d_law_rise := PySem.W.mg_of X G a_d_law_rise,
    a_d_law_same := f_d_law_same, d_d_law_same := _, F_d_law_same := fun_mk (st := s_d_law_same) l_d_law_same c_d_law_same k_d_law_same, g_d_law_same := PySem.W.mg_of X G a_d_law_same,
    a_d_law_year_right := f_d_law_year_right, d_d_law_year_right := _, F_d_law_year_right := fun_mk (st := s_d_law_year_right) l_d_law_year_right c_d_law_year_right k_d_law_year_right, g_d_law_year_right := PySem.W.mg_of X G a_d_law_year_right,
    a_d_law_years := f_d_law_years, d_d_law_years := _, F_d_law_years := fun_mk (st := s_d_law_years) l_d_law_years c_d_law_years k_d_law_years, g_d_law_years := PySem.W.mg_of X G a_d_law_years,
    a_d_law_counts_right := f_d_law_counts_right, d_d_law_counts_right := _, F_d_law_counts_right := fun_mk (st := s_d_law_counts_right) l_d_law_counts_right c_d_law_counts_right k_d_law_counts_right, g_d_law_counts_right := PySem.W.mg_of X G a_d_law_counts_right,
    a_law := fa, d_law := _, F_law := fun_mk (st := s_law) l_law c_law k_law, g_law := PySem.W.mg_of X G a_law,
    b_bool := PySem.W.mg_none_of X G z_bool,
    b_int := PySem.W.mg_none_of X G z_int,
    b_isinstance := PySem.W.mg_none_of X G z_isinstance,
    b_len := PySem.W.mg_none_of X G z_len,
    b_max := PySem.W.mg_none_of X G z_max,
    b_min := PySem.W.mg_none_of X G z_min,
    b_range := PySem.W.mg_none_of X G z_range,
    b_sum := PySem.W.mg_none_of X G z_sum,
    b_tuple := PySem.W.mg_none_of X G z_tuple
  }, rfl, rfl⟩
  obtain ⟨Z, e1, e2⟩ := Z
  rw [← e1]
  exact ⟨Z.d_law, fun s v => e2 ▸ .of_eq rfl, fun base _ _ => FnOk.imp (ok_law Z) (law_imp law_true)⟩
end Law
open PySem PySem.W PyProof.Rows
set_option maxHeartbeats 0 in
theorem PySem.Challenge.cw_beforeinall_k03_years_sought_holds : PySem.Challenge.rw_beforeinall_k03_years_sought.Holds := by
  w_on; o_law; k_head; (case hw => w_witness2)
  k_fill
  refine L2.walk_of (l := PySem.Challenge.rw_beforeinall_k03_years_sought) (n := 63) (k := 4) (x := "script") (CX := fun w => L2.CX PySem.Challenge.rw_beforeinall_k03_years_sought.prog w) (sp := fun w => Mi.spLaw _) rfl (by decide) rfl ⟨rfl, by decide, by decide⟩ (fun w h Y => PySem.W.kIn_of Y) ?F (fun _ _ a ns hl hO hS => ⟨a, ns, rfl, hS, hl, hO, fun _ => rfl⟩) (fun _ _ _ _ _ h => Mi.cx_none h)
  case F =>
    intro w mg fa h KX G hmg
    refine' Law.all_mk KX G hmg ?a_has_year ?l_has_year ?c_has_year ?k_has_year ?a_fall_to ?l_fall_to ?c_fall_to ?k_fall_to ?a_rise_to ?l_rise_to ?c_rise_to ?k_rise_to ?a_years_in ?l_years_in ?c_years_in ?k_years_in ?a_holes_in ?l_holes_in ?c_holes_in ?k_holes_in ?a_d_law_pool ?l_d_law_pool ?c_d_law_pool ?k_d_law_pool ?a_d_law_draw ?l_d_law_draw ?c_d_law_draw ?k_d_law_draw ?a_d_law_often_end ?l_d_law_often_end ?c_d_law_often_end ?k_d_law_often_end ?a_d_law_is_integer ?l_d_law_is_integer ?c_d_law_is_integer ?k_d_law_is_integer ?a_d_law_dates ?l_d_law_dates ?c_d_law_dates ?k_d_law_dates ?a_d_law_fall ?l_d_law_fall ?c_d_law_fall ?k_d_law_fall ?a_d_law_rise ?l_d_law_rise ?c_d_law_rise ?k_d_law_rise ?a_d_law_same ?l_d_law_same ?c_d_law_same ?k_d_law_same ?a_d_law_year_right ?l_d_law_year_right ?c_d_law_year_right ?k_d_law_year_right ?a_d_law_years ?l_d_law_years ?c_d_law_years ?k_d_law_years ?a_d_law_counts_right ?l_d_law_counts_right ?c_d_law_counts_right ?k_d_law_counts_right ?a_law ?l_law ?c_law ?k_law ?z_bool ?z_int ?z_isinstance ?z_len ?z_max ?z_min ?z_range ?z_sum ?z_tuple
    (case a_has_year => k_is); (case l_has_year => k_is); (case c_has_year => k_is); (case k_has_year => k_is); (case a_fall_to => k_is); (case l_fall_to => k_is); (case c_fall_to => k_is); (case k_fall_to => k_is); (case a_rise_to => k_is); (case l_rise_to => k_is); (case c_rise_to => k_is); (case k_rise_to => k_is); (case a_years_in => k_is); (case l_years_in => k_is); (case c_years_in => k_is); (case k_years_in => k_is); (case a_holes_in => k_is); (case l_holes_in => k_is); (case c_holes_in => k_is); (case k_holes_in => k_is); (case a_d_law_pool => k_is); (case l_d_law_pool => k_is); (case c_d_law_pool => k_is); (case k_d_law_pool => k_is); (case a_d_law_draw => k_is); (case l_d_law_draw => k_is); (case c_d_law_draw => k_is); (case k_d_law_draw => k_is); (case a_d_law_often_end => k_is); (case l_d_law_often_end => k_is); (case c_d_law_often_end => k_is); (case k_d_law_often_end => k_is); (case a_d_law_is_integer => k_is); (case l_d_law_is_integer => k_is); (case c_d_law_is_integer => k_is); (case k_d_law_is_integer => k_is); (case a_d_law_dates => k_is); (case l_d_law_dates => k_is); (case c_d_law_dates => k_is); (case k_d_law_dates => k_is); (case a_d_law_fall => k_is); (case l_d_law_fall => k_is); (case c_d_law_fall => k_is); (case k_d_law_fall => k_is); (case a_d_law_rise => k_is); (case l_d_law_rise => k_is); (case c_d_law_rise => k_is); (case k_d_law_rise => k_is); (case a_d_law_same => k_is); (case l_d_law_same => k_is); (case c_d_law_same => k_is); (case k_d_law_same => k_is); (case a_d_law_year_right => k_is); (case l_d_law_year_right => k_is); (case c_d_law_year_right => k_is); (case k_d_law_year_right => k_is); (case a_d_law_years => k_is); (case l_d_law_years => k_is); (case c_d_law_years => k_is); (case k_d_law_years => k_is); (case a_d_law_counts_right => k_is); (case l_d_law_counts_right => k_is); (case c_d_law_counts_right => k_is); (case k_d_law_counts_right => k_is); (case a_law => k_is); (case l_law => k_is); (case c_law => k_is); (case k_law => k_is); (case z_bool => k_is); (case z_int => k_is); (case z_isinstance => k_is); (case z_len => k_is); (case z_max => k_is); (case z_min => k_is); (case z_range => k_is); (case z_sum => k_is); (case z_tuple => k_is)
