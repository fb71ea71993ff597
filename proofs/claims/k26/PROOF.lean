import PyProof.Rows.All
import HandS.ForMost
import HandS.ForExc
import HandS.IsInst
import HandS.TupAny
import HandS.Wide
import HandS.Walk
import KE.SortData
import HandS.Style
import HandS.Flt
import HandS.ExcInit
import HandS.ExcField
import KE.GoesEnum
import HandS.Deep
import HandS.More
import HandS.RaiseMore
import PyProof.AutoSeq1
import HandS.DictComp
import HandS.TryOnly
import HandS.Strs
import HandS.Conv
import PySem.Challenge.RW_beforeinall_k26_walks_judged
set_option Elab.async false
set_option linter.all false
set_option maxRecDepth 100000
set_option maxHeartbeats 4000000
/-! Mi: mirrors of defs over pure values and a store; each combinator is held by the hand layer's judgements. -/
namespace Mi
open PySem PySem.Spec PyProof.Rows L2
/-! ### values, store, results -/
/-- a value: tuples are data; fl: a list that is never written; loc: a place of the store -/
inductive D where
  | non | bl (b : Bool) | int (i : Int) | str (x : Str)
  | tup (xs : List D) | fl (xs : List D) | loc (l : Nat) | exv (a dd : Addr) (c : Str) (fs : List (Str × D))
inductive Cell where
  | lst (xs : List D) | dic (kvs : List (Key × D)) | dct (kvs : List (List Key × D))
abbrev Store := List Cell
structure Ex where
  cls : Str
  fs : List (Str × D)
inductive R (α : Type) where
  | ok (a : α) (s : Store) | ex (e : Ex) (s : Store) | no
namespace R
def bind {α β : Type} (r : R α) (k : α → Store → R β) : R β := match r with
  | .ok a s => k a s
  | .ex e s => .ex e s
  | .no => .no
def of {α : Type} : Option (α × Store) → R α
  | some (a, s) => .ok a s
  | none => .no
@[simp] theorem bind_ok {α β : Type} (a : α) (s : Store) (k : α → Store → R β) : (R.ok a s).bind k = k a s := rfl
@[simp] theorem bind_ex {α β : Type} (e : Ex) (s : Store) (k : α → Store → R β) : (R.ex e s : R α).bind k = .ex e s := rfl
@[simp] theorem bind_no {α β : Type} (k : α → Store → R β) : (R.no : R α).bind k = .no := rfl
@[simp] theorem of_some {α : Type} (a : α) (s : Store) : R.of (some (a, s)) = .ok a s := rfl
@[simp] theorem of_none {α : Type} : (R.of none : R α) = .no := rfl
end R
/-- the slots of a def's names -/
abbrev Sl := List (Option D)
inductive RS where
  | nx (env : Sl) (s : Store) | rt (d : D) (s : Store) | bk (env : Sl) (s : Store) | ct (env : Sl) (s : Store) | ex (e : Ex) (env : Sl) (s : Store) | no
/-! ### the relation to the hand layer's heap -/
section
variable (K : PySem.W.Frag)
/-- a list that is never written: known to the object, or of the module -/
def FrL (H : Hp) (a : Addr) (vs : List V) : Prop :=
  (∃ o, H a = some (.frz o (.lst vs))) ∨
    ∃ (o : Obj) (its : Array Value) (n : Nat), K.lookup a = some o ∧ o.cls = .type "list" ∧ o.dict = none ∧ o.data = .seq its n ∧ its.size ≤ sizeLine ∧ Vals vs its.toList
theorem FrL.sq {K : PySem.W.Frag} {H : Hp} {a : Addr} {vs : List V} (h : FrL K H a vs) : SqL K H a vs := by
  rcases h with ⟨o, h⟩ | h
  · exact .inl (.inr ⟨o, h⟩)
  · exact .inr h
mutual
inductive Rep (m : List Addr) (H : Hp) : D → V → Prop where
  | non : Rep m H .non .non
  | bl (b : Bool) : Rep m H (.bl b) (.bl b)
  | int (i : Int) : Rep m H (.int i) (.int i)
  | str (x : Str) : Rep m H (.str x) (.str x)
  | tup {xs : List D} {a : Addr} {vs : List V} (h : H a = some (.tup vs)) (r : Reps m H xs vs) : Rep m H (.tup xs) (.ref a)
  | fl {xs : List D} {a : Addr} {vs : List V} (h : FrL K H a vs) (r : Reps m H xs vs) : Rep m H (.fl xs) (.ref a)
  | loc {l : Nat} {a : Addr} (h : m[l]? = some a) : Rep m H (.loc l) (.ref a)
  | exv {c : Str} {fs : List (Str × D)} {a dd : Addr} {vfs : List (Str × V)} (h : H dd = some (.xd vfs)) (n : dd ∉ m) (r : FldR m H fs vfs) : Rep m H (.exv a dd c fs) (.ref a)
inductive Reps (m : List Addr) (H : Hp) : List D → List V → Prop where
  | nil : Reps m H [] []
  | cons {x : D} {v : V} {xs : List D} {vs : List V} (h : Rep m H x v) (r : Reps m H xs vs) : Reps m H (x :: xs) (v :: vs)
inductive FldR (m : List Addr) (H : Hp) : List (Str × D) → List (Str × V) → Prop where
  | nil : FldR m H [] []
  | cons {f : Str} {x : D} {v : V} {xs : List (Str × D)} {vs : List (Str × V)} (h : Rep m H x v) (r : FldR m H xs vs) : FldR m H ((f, x) :: xs) ((f, v) :: vs)
end
inductive RepK {κ : Type} (m : List Addr) (H : Hp) : List (κ × D) → List (κ × V) → Prop where
  | nil : RepK m H [] []
  | cons {k : κ} {x : D} {v : V} {xs : List (κ × D)} {vs : List (κ × V)} (h : Rep K m H x v) (r : RepK m H xs vs) : RepK m H ((k, x) :: xs) ((k, v) :: vs)
def CellR (m : List Addr) (H : Hp) (a : Addr) : Cell → Prop
  | .lst xs => ∃ vs, H a = some (.lst vs) ∧ Reps K m H xs vs
  | .dic kvs => ∃ ws, H a = some (.dK ws) ∧ RepK K m H kvs ws
  | .dct kvs => ∃ ws, H a = some (.dT ws) ∧ RepK K m H kvs ws
structure Rel (m : List Addr) (H : Hp) (s : Store) : Prop where
  len : m.length = s.length
  nd : m.Nodup
  at_ : ∀ (l : Nat) (a : Addr) (c : Cell), m[l]? = some a → s[l]? = some c → CellR K m H a c
/-- later: what was there is there; tuples and the lists that are never written stand; what is no cell of ours stands -/
structure Le (m : List Addr) (H : Hp) (m' : List Addr) (H' : Hp) : Prop where
  pre : ∃ r, m' = m ++ r
  tup : ∀ a xs, SqT K H a xs → SqT K H' a xs
  frl : ∀ a xs, FrL K H a xs → FrL K H' a xs
  fr : ∀ b o, H b = some o → b ∉ m → H' b = some o
  nw : ∀ b, b ∈ m' → b ∈ m ∨ H b = none
  trk : ∀ a xs, H a = some (.tup xs) → H' a = some (.tup xs)
def RelE (m : List Addr) (H : Hp) (env : Sl) (σ : L2.St) : Prop :=
  env.length = σ.length ∧ ∀ (i : Nat) (d : D), env[i]? = some (some d) → ∃ v, σ[i]? = some (some v) ∧ Rep K m H d v
end
section
variable {K : PySem.W.Frag} {m m1 m2 : List Addr} {H H1 H2 : Hp} {s : Store} {a b p : Addr} {c : Cell}
theorem Le.refl : Le K m H m H := ⟨⟨[], by simp⟩, fun _ _ h => h, fun _ _ h => h, fun _ _ h _ => h, fun _ h => .inl h, fun _ _ h => h⟩
theorem Le.get (e : Le K m H m1 H1) {l : Nat} (h : m[l]? = some a) : m1[l]? = some a := by
  obtain ⟨r, rfl⟩ := e.pre
  rw [List.getElem?_append_left (by
    rcases Nat.lt_or_ge l m.length with q | q
    · exact q
    · rw [List.getElem?_eq_none q] at h; cases h)]
  exact h
theorem Le.trans (e : Le K m H m1 H1) (f : Le K m1 H1 m2 H2) : Le K m H m2 H2 := by
  refine ⟨?_, fun a xs h => f.tup a xs (e.tup a xs h), fun a xs h => f.frl a xs (e.frl a xs h), fun b o h n => ?_, fun b h => ?_, fun a xs h => f.trk a xs (e.trk a xs h)⟩
  · obtain ⟨r, rfl⟩ := e.pre
    obtain ⟨r2, rfl⟩ := f.pre
    exact ⟨r ++ r2, by simp⟩
  · refine f.fr b o (e.fr b o h n) fun z => ?_
    rcases e.nw b z with q | q
    · exact n q
    · rw [h] at q; cases q
  · by_cases z : b ∈ m
    · exact .inl z
    · rcases f.nw b h with q | q
      · exact e.nw b q
      · refine .inr ?_
        cases w : H b with
        | none => rfl
        | some o =>
          rw [e.fr b o w z] at q; cases q
mutual
theorem Rep.mono (e : Le K m H m1 H1) : ∀ {d : D} {v : V}, Rep K m H d v → Rep K m1 H1 d v
  | _, _, .non => .non
  | _, _, .bl b => .bl b
  | _, _, .int i => .int i
  | _, _, .str x => .str x
  | _, _, .tup h r => .tup (e.trk _ _ h) (Reps.mono e r)
  | _, _, .fl h r => .fl (e.frl _ _ h) (Reps.mono e r)
  | _, _, .loc h => .loc (e.get h)
  | _, _, .exv h n r => .exv (e.fr _ _ h n) (fun z => (e.nw _ z).elim n fun q => by rw [h] at q; cases q) (FldR.mono e r)
theorem Reps.mono (e : Le K m H m1 H1) : ∀ {ds : List D} {vs : List V}, Reps K m H ds vs → Reps K m1 H1 ds vs
  | _, _, .nil => .nil
  | _, _, .cons h r => .cons (Rep.mono e h) (Reps.mono e r)
theorem FldR.mono (e : Le K m H m1 H1) : ∀ {ds : List (Str × D)} {vs : List (Str × V)}, FldR K m H ds vs → FldR K m1 H1 ds vs
  | _, _, .nil => .nil
  | _, _, .cons h r => .cons (Rep.mono e h) (FldR.mono e r)
end
theorem RepK.mono {κ : Type} (e : Le K m H m1 H1) : ∀ {ds : List (κ × D)} {vs : List (κ × V)}, RepK K m H ds vs → RepK K m1 H1 ds vs
  | _, _, .nil => .nil
  | _, _, .cons h r => .cons (h.mono e) (RepK.mono e r)
theorem RelE.mono (e : Le K m H m1 H1) {env : Sl} {σ : L2.St} (h : RelE K m H env σ) : RelE K m1 H1 env σ :=
  ⟨h.1, fun i d q => let ⟨v, h1, h2⟩ := h.2 i d q; ⟨v, h1, h2.mono e⟩⟩
theorem Reps.length : ∀ {xs : List D} {vs : List V}, Reps K m H xs vs → xs.length = vs.length
  | _, _, .nil => rfl
  | _, _, .cons _ r => by simp [Reps.length r]
theorem Reps.get : ∀ {xs : List D} {vs : List V} {i : Nat} {x : D}, Reps K m H xs vs → xs[i]? = some x → ∃ v, vs[i]? = some v ∧ Rep K m H x v
  | _, _, _, _, .nil, e => by simp at e
  | _, _, 0, _, .cons h _, e => by simp at e; subst e; exact ⟨_, rfl, h⟩
  | _, _, i + 1, x, .cons _ r, e => by
    obtain ⟨v, h1, h2⟩ := Reps.get (i := i) (x := x) r (by simpa using e)
    exact ⟨v, by simpa using h1, h2⟩
theorem Reps.append : ∀ {xs ys : List D} {vs ws : List V}, Reps K m H xs vs → Reps K m H ys ws → Reps K m H (xs ++ ys) (vs ++ ws)
  | _, _, _, _, .nil, q => q
  | _, _, _, _, .cons h r, q => .cons h (Reps.append r q)
theorem Reps.take : ∀ {xs : List D} {vs : List V} (n : Nat), Reps K m H xs vs → Reps K m H (xs.take n) (vs.take n)
  | _, _, 0, _ => .nil
  | _, _, _ + 1, .nil => .nil
  | _, _, n + 1, .cons h r => .cons h (Reps.take n r)
theorem Reps.drop : ∀ {xs : List D} {vs : List V} (n : Nat), Reps K m H xs vs → Reps K m H (xs.drop n) (vs.drop n)
  | _, _, 0, r => r
  | _, _, _ + 1, .nil => .nil
  | _, _, n + 1, .cons _ r => Reps.drop n r
theorem Reps.set {x : D} {v : V} (h : Rep K m H x v) : ∀ {xs : List D} {vs : List V} (i : Nat), Reps K m H xs vs → Reps K m H (xs.set i x) (vs.set i v)
  | _, _, _, .nil => .nil
  | _, _, 0, .cons _ r => .cons h r
  | _, _, i + 1, .cons q r => .cons q (Reps.set h i r)
theorem Reps.dropLast : ∀ {xs : List D} {vs : List V}, Reps K m H xs vs → Reps K m H xs.dropLast vs.dropLast
  | _, _, .nil => .nil
  | _, _, .cons _ .nil => .nil
  | _, _, .cons h (.cons h2 r) => by
    rw [List.dropLast_cons₂, List.dropLast_cons₂]
    exact .cons h (Reps.dropLast (.cons h2 r))
theorem Reps.erase : ∀ {xs : List D} {vs : List V} (i : Nat), Reps K m H xs vs → Reps K m H (xs.eraseIdx i) (vs.eraseIdx i)
  | _, _, _, .nil => .nil
  | _, _, 0, .cons _ r => r
  | _, _, i + 1, .cons q r => .cons q (Reps.erase i r)
theorem Reps.reverse {xs : List D} {vs : List V} (h : Reps K m H xs vs) : Reps K m H xs.reverse vs.reverse := by
  induction xs generalizing vs with
  | nil => cases h; exact .nil
  | cons x xs ih =>
    cases h with
    | cons h r =>
      rw [List.reverse_cons, List.reverse_cons]
      exact (ih r).append (.cons h .nil)
theorem Reps.ints : ∀ {ns : List Int} {vs : List V}, Reps K m H (ns.map D.int) vs → vs = ns.map V.int
  | [], _, .nil => rfl
  | n :: ns, _, .cons h r => by
    cases h
    rw [List.map_cons, Reps.ints r]
theorem reps_ints (ns : List Int) : Reps K m H (ns.map D.int) (ns.map V.int) := by
  induction ns with
  | nil => exact .nil
  | cons n ns ih => exact .cons (.int n) ih
/-! ### changes of the heap -/
theorem Rel.lt (r : Rel K m H s) {l : Nat} (h : m[l]? = some a) : l < s.length := by
  rw [← r.len]
  rcases Nat.lt_or_ge l m.length with q | q
  · exact q
  · rw [List.getElem?_eq_none q] at h; cases h
theorem Rel.there (r : Rel K m H s) (h : b ∈ m) : (∃ vs, H b = some (.lst vs)) ∨ (∃ ws, H b = some (.dK ws)) ∨ ∃ ws, H b = some (.dT ws) := by
  obtain ⟨l, hl⟩ := List.getElem?_of_mem h
  have q := r.lt hl
  obtain ⟨c, hc⟩ : ∃ c, s[l]? = some c := ⟨s[l], by simp [q]⟩
  have x := r.at_ l b c hl hc
  cases c with
  | lst xs => obtain ⟨vs, e, _⟩ := x; exact .inl ⟨vs, e⟩
  | dic kvs => obtain ⟨ws, e, _⟩ := x; exact .inr (.inl ⟨ws, e⟩)
  | dct kvs => obtain ⟨ws, e, _⟩ := x; exact .inr (.inr ⟨ws, e⟩)
theorem Rel.has (r : Rel K m H s) (h : b ∈ m) : ∃ o, H b = some o ∧ (∀ xs, o ≠ .tup xs) ∧ ∀ u x, o ≠ .frz u x := by
  rcases r.there h with ⟨vs, e⟩ | ⟨ws, e⟩ | ⟨ws, e⟩
  · exact ⟨_, e, fun _ z => (by cases z), fun _ _ z => (by cases z)⟩
  · exact ⟨_, e, fun _ z => (by cases z), fun _ _ z => (by cases z)⟩
  · exact ⟨_, e, fun _ z => (by cases z), fun _ _ z => (by cases z)⟩
theorem Rel.new_notin (r : Rel K m H s) (h : H p = none) : p ∉ m := fun z => by
  obtain ⟨o, e, _⟩ := r.has z
  rw [h] at e; cases e
/-- any object laid at a free place, or written at a place that is neither tuple nor frozen -/
theorem le_upd {o : HO} (hp : ∀ u, H p = Option.some u → p ∈ m) (hm : ∀ u, H p = Option.some u → (∀ xs, u ≠ .tup xs) ∧ ∀ ob x, u ≠ .frz ob x) : Le K m H m (upd H p o) := by
  refine ⟨⟨[], by simp⟩, fun b xs h => ?_, fun b xs h => ?_, fun b u h n => ?_, fun b h => .inl h, fun b xs h => by rw [upd_ne (fun z => by subst z; exact (hm _ h).1 xs rfl)]; exact h⟩
  · rcases h with (h | ⟨ob, h⟩) | h
    · exact .inl (.inl (by rw [upd_ne (fun z => by subst z; exact (hm _ h).1 xs rfl)]; exact h))
    · exact .inl (.inr ⟨ob, by rw [upd_ne (fun z => by subst z; exact (hm _ h).2 _ _ rfl)]; exact h⟩)
    · exact .inr h
  · rcases h with ⟨ob, h⟩ | h
    · exact .inl ⟨ob, by rw [upd_ne (fun z => by subst z; exact (hm _ h).2 _ _ rfl)]; exact h⟩
    · exact .inr h
  · rw [upd_ne (fun z => by subst z; exact n (hp _ h))]; exact h
theorem le_new {o : HO} (hp : H p = none) : Le K m H m (upd H p o) :=
  le_upd (fun u h => by rw [hp] at h; cases h) (fun u h => by rw [hp] at h; cases h)
theorem le_put (r : Rel K m H s) (h : p ∈ m) {o : HO} : Le K m H m (upd H p o) :=
  le_upd (fun _ _ => h) (fun u e => by
    obtain ⟨o', e', q⟩ := r.has h
    rw [e] at e'; cases e'
    exact q)
theorem le_more (r : Rel K m H s) (hp : H p = none) {o : HO} : Le K m H (m ++ [p]) (upd H p o) := by
  have e : Le K m H m (upd H p o) := le_new hp
  refine ⟨⟨[p], rfl⟩, e.tup, e.frl, e.fr, fun b h => ?_, e.trk⟩
  rcases List.mem_append.mp h with q | q
  · exact .inl q
  · rw [List.mem_singleton.mp q]; exact .inr hp
theorem CellR.mono {m' : List Addr} {H' : Hp} (e : Le K m H m' H') (hs : H' a = H a) (h : CellR K m H a c) : CellR K m' H' a c := by
  cases c with
  | lst xs => obtain ⟨vs, h1, h2⟩ := h; exact ⟨vs, hs.trans h1, h2.mono e⟩
  | dic kvs => obtain ⟨ws, h1, h2⟩ := h; exact ⟨ws, hs.trans h1, h2.mono e⟩
  | dct kvs => obtain ⟨ws, h1, h2⟩ := h; exact ⟨ws, hs.trans h1, h2.mono e⟩
/-- an object that is no cell is laid -/
theorem Rel.tmp (r : Rel K m H s) (hp : H p = none) {o : HO} : Rel K m (upd H p o) s :=
  ⟨r.len, r.nd, fun l a c h1 h2 => (r.at_ l a c h1 h2).mono (le_new hp) (upd_ne fun z => by subst z; exact r.new_notin hp (List.mem_of_getElem? h1))⟩
theorem Rel.put (r : Rel K m H s) {l : Nat} (h : m[l]? = Option.some p) {o : HO} {c : Cell} (hc : CellR K m (upd H p o) p c) : Rel K m (upd H p o) (s.set l c) := by
  refine ⟨by rw [List.length_set]; exact r.len, r.nd, fun j b d h1 h2 => ?_⟩
  by_cases hj : j = l
  · subst hj
    rw [h] at h1; cases h1
    rw [List.getElem?_set_self (r.lt h)] at h2; cases h2
    exact hc
  · rw [List.getElem?_set_ne (Ne.symm hj)] at h2
    refine (r.at_ j b d h1 h2).mono (le_put r (List.mem_of_getElem? h)) (upd_ne fun z => hj ?_)
    subst z
    exact nd_ix r.nd h1 h
theorem Rel.new (r : Rel K m H s) (hp : H p = none) {o : HO} {c : Cell} (hc : CellR K (m ++ [p]) (upd H p o) p c) : Rel K (m ++ [p]) (upd H p o) (s ++ [c]) := by
  have hn := r.new_notin hp
  refine ⟨by simp [r.len], ?_, fun j b d h1 h2 => ?_⟩
  · rw [List.nodup_append]
    exact ⟨r.nd, by simp, fun x hx y hy => by rw [List.mem_singleton.mp hy]; exact fun z => hn (z ▸ hx)⟩
  · rcases Nat.lt_or_ge j m.length with q | q
    · rw [List.getElem?_append_left q] at h1
      rw [List.getElem?_append_left (by rw [← r.len]; exact q)] at h2
      exact (r.at_ j b d h1 h2).mono (le_more r hp) (upd_ne fun z => by subst z; exact hn (List.mem_of_getElem? h1))
    · rw [List.getElem?_append_right q] at h1
      rw [List.getElem?_append_right (by rw [← r.len]; exact q), ← r.len] at h2
      cases hk : j - m.length with
      | zero =>
        rw [hk] at h1 h2
        simp at h1 h2
        subst h1; subst h2
        exact hc
      | succ n => rw [hk] at h1; simp at h1
theorem len_get (r : Rel K m H s) : (m ++ [p])[s.length]? = some p := by
  rw [← r.len, List.getElem?_append_right (Nat.le_refl _)]; simp
/-- a new tuple -/
theorem rep_newtup {xs : List D} {vs : List V} (hp : H p = none) (h : Reps K m H xs vs) : Rep K m (upd H p (.tup vs)) (.tup xs) (.ref p) :=
  .tup upd_same (h.mono (le_new hp))
/-- a new list -/
theorem rel_newlist {xs : List D} {vs : List V} (r : Rel K m H s) (hp : H p = none) (h : Reps K m H xs vs) : Rel K (m ++ [p]) (upd H p (.lst vs)) (s ++ [.lst xs]) :=
  r.new hp ⟨vs, upd_same, h.mono (le_more r hp)⟩
theorem Rel.list (r : Rel K m H s) {l : Nat} {xs : List D} (h : m[l]? = Option.some a) (hs : s[l]? = Option.some (.lst xs)) : ∃ vs, H a = Option.some (.lst vs) ∧ Reps K m H xs vs := r.at_ l a _ h hs
end
end Mi
namespace Mi
open PySem PySem.Spec PyProof.Rows L2
/-! ### readings of mirrors -/
section
variable (K : PySem.W.Frag) (mg : Str → Option Value)
/-- an exception: its class, its own dict -/
def ExR (m : List Addr) (H : Hp) (e : Ex) (c : Value) (dd : Option Addr) : Prop :=
  mg e.cls = some c ∧ ((e.fs = [] ∧ dd = none) ∨ ∃ d vfs, dd = some d ∧ H d = some (.xd vfs) ∧ d ∉ m ∧ FldR K m H e.fs vfs)
/-- what a result is to bring about -/
def G {α β : Type} (ρ : List Addr → Hp → α → β → Prop) (W : WX) (σ : L2.St) (m : List Addr) (H : Hp) (Q : β → Hp → Prop) : R α → Prop
  | .ok a s => ∀ m' H' b, Le K m H m' H' → Rel K m' H' s → ρ m' H' a b → Q b H'
  | .ex e s => ∀ m' H' c dd, Le K m H m' H' → Rel K m' H' s → ExR K mg m' H' e c dd → W c dd σ H'
  | .no => False
def Tm {α β : Type} (ρ : List Addr → Hp → α → β → Prop) (W : WX) (f : Sl → Store → R α) : L2.St → Hp → (β → Hp → Prop) → Prop := fun σ H Q =>
  ∃ m env s, Rel K m H s ∧ RelE K m H env σ ∧ G K mg ρ W σ m H Q (f env s)
abbrev ME (α : Type) := Sl → Store → R α
/-- a test's -/
def ρB : List Addr → Hp → Bool → Bool → Prop := fun _ _ a b => a = b
abbrev Te (W : WX) (f : ME D) : TE := Tm K mg (Rep K) W f
abbrev Tt (W : WX) (f : ME Bool) : TT := Tm K mg ρB W f
abbrev Ta (W : WX) (f : ME (List D)) : TA := Tm K mg (Reps K) W f
end
section
variable {K : PySem.W.Frag} {mg : Str → Option Value} {m m1 : List Addr} {H H1 : Hp} {s : Store} {W : WX} {σ : L2.St}
section
variable {α α' β β' : Type} {ρ : List Addr → Hp → α → β → Prop} {ρ' : List Addr → Hp → α' → β' → Prop} {Q : β → Hp → Prop} {Q' : β' → Hp → Prop}
theorem G.mono (e : Le K m H m1 H1) {r : R α} (h : G K mg ρ W σ m H Q r) : G K mg ρ W σ m1 H1 Q r := by
  cases r with
  | ok a s => exact fun m' H' b l r q => h m' H' b (e.trans l) r q
  | ex x s => exact fun m' H' c d l r q => h m' H' c d (e.trans l) r q
  | no => exact h
theorem G.bind {r : R α} {k : α → Store → R α'} (h : G K mg ρ' W σ m H Q' (r.bind k))
    (q : ∀ m1 H1 a b s1, Le K m H m1 H1 → Rel K m1 H1 s1 → ρ m1 H1 a b → G K mg ρ' W σ m1 H1 Q' (k a s1) → Q b H1) : G K mg ρ W σ m H Q r := by
  cases r with
  | ok a s => exact fun m' H' b l r p => q m' H' a b s l r p (G.mono l h)
  | ex x s => exact h
  | no => exact h
theorem G.imp {r : R α} (h : G K mg ρ W σ m H Q r) {Q1 : β → Hp → Prop} (q : ∀ m' H' a b s, r = .ok a s → Le K m H m' H' → Rel K m' H' s → ρ m' H' a b → Q b H' → Q1 b H') : G K mg ρ W σ m H Q1 r := by
  cases r with
  | ok a s => exact fun m' H' b l r p => q m' H' a b s rfl l r p (h m' H' b l r p)
  | ex x s => exact h
  | no => exact h
/-- run the first part -/
theorem Tm.bind {f : Sl → Store → R α} {k : Sl → α → Store → R α'} (h : Tm K mg ρ' W (fun env s => (f env s).bind (k env)) σ H Q')
    (q : ∀ m1 H1 env a b s1, Rel K m1 H1 s1 → RelE K m1 H1 env σ → ρ m1 H1 a b → G K mg ρ' W σ m1 H1 Q' (k env a s1) → Q b H1) : Tm K mg ρ W f σ H Q := by
  obtain ⟨m, env, s, r, e, g⟩ := h
  exact ⟨m, env, s, r, e, G.bind g fun m1 H1 a b s1 l r1 p g1 => q m1 H1 env a b s1 r1 (e.mono l) p g1⟩
/-- a further part runs -/
theorem Tm.of {f : Sl → Store → R α} {env : Sl} (r : Rel K m H s) (e : RelE K m H env σ) (g : G K mg ρ W σ m H Q (f env s)) : Tm K mg ρ W f σ H Q := ⟨m, env, s, r, e, g⟩
end
/-- the end: a value that is there -/
theorem G.now {d : D} {v : V} {Q : VK} (h : G K mg (Rep K) W σ m H Q (.ok d s)) (r : Rel K m H s) (p : Rep K m H d v) : Q v H := h m H v .refl r p
theorem G.nowB {d : Bool} {Q : Bool → Hp → Prop} (h : G K mg ρB W σ m H Q (.ok d s)) (r : Rel K m H s) : Q d H := h m H d .refl r rfl
end
theorem PE.imp {X : Cx} {e : Expr} {t t' : TE} (h : PE X e t) (i : ∀ σ H Q, t' σ H Q → t σ H Q) : PE X e t' := ⟨fun pins s σ H Q I q => h.run pins s σ H Q I (i σ H Q q)⟩
theorem PT.imp {X : Cx} {e : Expr} {t t' : TT} (h : PT X e t) (i : ∀ σ H Q, t' σ H Q → t σ H Q) : PT X e t' := ⟨fun pins s σ H Q I q => h.run pins s σ H Q I (i σ H Q q)⟩
theorem PW.imp {X : Cx} {e : Expr} {t t' : TT} (h : PW X e t) (i : ∀ σ H Q, t' σ H Q → t σ H Q) : PW X e t' := ⟨fun wh pins s σ H Q I q => h.run wh pins s σ H Q I (i σ H Q q)⟩
theorem PA.imp {X : Cx} {e : List Expr} {t t' : TA} (h : PA X e t) (i : ∀ σ H Q, t' σ H Q → t σ H Q) : PA X e t' := ⟨fun pos pins s σ H Q I q => h.run pos pins s σ H Q I (i σ H Q q)⟩
theorem PS.imp {X : Cx} {e : Stmt} {t t' : TS} (h : PS X e t) (i : ∀ D σ H, t' D σ H → t D σ H) : PS X e t' := ⟨fun pins s σ H D I q => h.run pins s σ H D I (i D σ H q)⟩
theorem PSs.imp {X : Cx} {e : List Stmt} {t t' : TS} (h : PSs X e t) (i : ∀ D σ H, t' D σ H → t D σ H) : PSs X e t' := ⟨fun pins s σ H D I q => h.run pins s σ H D I (i D σ H q)⟩
/-! ### combinators: expressions -/
def eC (d : D) : ME D := fun _ s => .ok d s
def eV (i : Nat) : ME D := fun env s => match env[i]? with
  | some (some d) => .ok d s
  | _ => .no
/-- two values -/
def e2 (g : D → D → Store → Option (D × Store)) (a b : ME D) : ME D := fun env s => (a env s).bind fun x s => (b env s).bind fun y s => R.of (g x y s)
def e1 (g : D → Store → Option (D × Store)) (a : ME D) : ME D := fun env s => (a env s).bind fun x s => R.of (g x s)
def aNil : ME (List D) := fun _ s => .ok [] s
def aCons (a : ME D) (r : ME (List D)) : ME (List D) := fun env s => (a env s).bind fun x s => (r env s).bind fun xs s => .ok (x :: xs) s
def eFn (g : List D → Store → Option (D × Store)) (a : ME (List D)) : ME D := fun env s => (a env s).bind fun xs s => R.of (g xs s)
def eTup (a : ME (List D)) : ME D := fun env s => (a env s).bind fun xs s => if xs.length ≤ sizeLine then .ok (.tup xs) s else .no
def eLst (a : ME (List D)) : ME D := fun env s => (a env s).bind fun xs s => if xs.length ≤ sizeLine then .ok (.loc s.length) (s ++ [.lst xs]) else .no
def eCall (g : List D → Store → R D) (a : ME (List D)) : ME D := fun env s => (a env s).bind g
/-- a value as a test: a bool -/
def tV (a : ME D) : ME Bool := fun env s => (a env s).bind fun x s => match x with
  | .bl b => .ok b s
  | _ => .no
def tAnd (a b : ME Bool) : ME Bool := fun env s => (a env s).bind fun x s => if x then b env s else .ok false s
def tOr (a b : ME Bool) : ME Bool := fun env s => (a env s).bind fun x s => if x then .ok true s else b env s
def tNot (a : ME Bool) : ME Bool := fun env s => (a env s).bind fun x s => .ok (!x) s
def eIf (c : ME Bool) (a b : ME D) : ME D := fun env s => (c env s).bind fun x s => if x then a env s else b env s
/-- and, or, not as values (bools) -/
def eAnd (a b : ME D) : ME D := fun env s => (a env s).bind fun x s => match x with
  | .bl true => b env s
  | .bl false => .ok (.bl false) s
  | _ => .no
def eOr (a b : ME D) : ME D := fun env s => (a env s).bind fun x s => match x with
  | .bl true => .ok (.bl true) s
  | .bl false => b env s
  | _ => .no
def eNot (a : ME D) : ME D := fun env s => (a env s).bind fun x s => match x with
  | .bl c => .ok (.bl !c) s
  | _ => .no
def eChain (g g' : D → D → Store → Option (D × Store)) (a b c : ME D) : ME D := fun env s => (a env s).bind fun x s => (b env s).bind fun y s => (R.of (g x y s)).bind fun z s => match z with
  | .bl true => (c env s).bind fun w s => R.of (g' y w s)
  | .bl false => .ok (.bl false) s
  | _ => .no
section
variable {X : Cx} {W : WX} {pos : Pos} {a b c e : Expr} {es : List Expr} {fa fb fc : ME D} {ga gb : ME Bool} {fs : ME (List D)}
theorem ce_v (i : Nat) {x : Str} (hN : X.N[i]? = some x := by rfl) (hv : Vis X.env.scope x := by first | exact Or.inl rfl | exact Or.inr (Or.inl rfl) | exact Or.inr (Or.inr rfl)) (hd : (x == ("__debug__" : Str)) = false := by decide)
    (hcd : (x == ("__classdict__" : Str)) = false := by decide) : PE X (.Name x pos) (Te X.K X.mg W (eV i)) := by
  refine PE.imp (pe_var (i := i) hN hv hd hcd) fun σ H Q h => ?_
  obtain ⟨m, env, s, r, E, g⟩ := h
  unfold eV at g
  cases q : env[i]? with
  | none => rw [q] at g; exact g.elim
  | some o =>
    cases o with
    | none => rw [q] at g; exact g.elim
    | some d =>
      rw [q] at g
      obtain ⟨v, h1, h2⟩ := E.2 i d q
      exact ⟨v, h1, g.now r h2⟩
theorem ce_c {d : D} {v : V} (h : PE X e (tC v)) (r : ∀ m H, Rep X.K m H d v) : PE X e (Te X.K X.mg W (eC d)) :=
  PE.imp h fun σ H Q ⟨m, env, s, rl, E, g⟩ => g.now rl (r m H)
theorem ce_int {i j} : PE X (.Constant (.int i) j pos) (Te X.K X.mg W (eC (.int i))) := ce_c pe_int fun _ _ => .int _
theorem ce_bl {i j} : PE X (.Constant (.bool i) j pos) (Te X.K X.mg W (eC (.bl i))) := ce_c pe_bl fun _ _ => .bl _
theorem ce_non {j} : PE X (.Constant .none j pos) (Te X.K X.mg W (eC .non)) := ce_c pe_non fun _ _ => .non
theorem ce_str {x j} : PE X (.Constant (.str x) j pos) (Te X.K X.mg W (eC (.str x))) := ce_c pe_str fun _ _ => .str _
theorem ce_glob {x : Str} {d : D} {v : V} {u : Value} (hg : Gl X x) (hm : X.mg x = some u) (r : RelV v u) (q : ∀ m H, Rep X.K m H d v) (hd : (x == ("__debug__" : Str)) = false := by decide) : PE X (.Name x pos) (Te X.K X.mg W (eC d)) := ce_c (pe_glob hg hm r hd) q
/-- an operation on values, with its mirror -/
def OpS (K : PySem.W.Frag) (r : R2) (g : D → D → Store → Option (D × Store)) : Prop :=
  ∀ {mg : Str → Option Value} {W : WX} {σ : L2.St} {m : List Addr} {H : Hp} {s : Store} {x y : V} {dx dy : D} {Q : VK}, Rel K m H s → Rep K m H dx x → Rep K m H dy y → G K mg (Rep K) W σ m H Q (R.of (g dx dy s)) → r x y H Q
theorem e2_run {r : R2} {g : D → D → Store → Option (D × Store)} (hs : OpS X.K r g) : ∀ σ H Q, Te X.K X.mg W (e2 g fa fb) σ H Q → tOp r (Te X.K X.mg W fa) (Te X.K X.mg W fb) σ H Q := fun σ H Q h =>
  Tm.bind (k := fun env x s => (fb env s).bind fun y s => R.of (g x y s)) h fun m1 H1 env x v s1 r1 E1 p1 g1 =>
    ⟨m1, env, s1, r1, E1, G.bind g1 fun m2 H2 y u s2 l2 r2 p2 g2 => hs r2 (p1.mono l2) p2 g2⟩
theorem ce_op {op : Operator} {r : R2} {g : D → D → Store → Option (D × Store)} (ho : OpR X (binaryOp op) r) (hs : OpS X.K r g) (ha : PE X a (Te X.K X.mg W fa)) (hb : PE X b (Te X.K X.mg W fb)) :
    PE X (.BinOp a op b pos) (Te X.K X.mg W (e2 g fa fb)) := PE.imp (pe_op ho ha hb) (e2_run hs)
theorem ce_cmp {op : CmpOp} {r : R2} {g : D → D → Store → Option (D × Store)} (ho : OpR X (compareOp op) r) (hs : OpS X.K r g) (ha : PE X a (Te X.K X.mg W fa)) (hb : PE X b (Te X.K X.mg W fb)) (hm : behindInMarks op b = false) :
    PE X (.Compare a [op] [b] pos) (Te X.K X.mg W (e2 g fa fb)) := PE.imp (pe_cmpR ho ha hb hm) (e2_run hs)
theorem ce_ix {r : R2} {g : D → D → Store → Option (D × Store)} (ho : IxR X r) (hs : OpS X.K r g) (ha : PE X a (Te X.K X.mg W fa)) (hb : PE X b (Te X.K X.mg W fb)) (hp : PlainIx b) :
    PE X (.Subscript a b pos) (Te X.K X.mg W (e2 g fa fb)) := PE.imp (pe_ix ho ha hb hp) (e2_run hs)
/-- a test of a value that is a bool -/
theorem tv_run {t : TE} (hp : ∀ σ H Q, Te X.K X.mg W fa σ H Q → t σ H Q) : ∀ σ H Q, Tt X.K X.mg W (tV fa) σ H Q → t σ H fun x H' => ∃ k, x = .bl k ∧ Q k H' := fun σ H Q h =>
  hp σ H _ (Tm.bind (k := fun _ x s => match x with | .bl b => R.ok b s | _ => R.no) h fun m1 H1 env x v s1 r1 E1 p1 g1 => by
    cases x with
    | bl k => cases p1; exact ⟨k, rfl, g1.nowB r1⟩
    | _ => exact g1.elim)
theorem ct_v (ha : PE X a (Te X.K X.mg W fa)) (he : ∀ whole, isTrue a X.env whole = (do let v ← whole; standAt a.pos; holding [v] (truthy v)) := by intro _; rfl) : PT X a (Tt X.K X.mg W (tV fa)) :=
  PT.imp (pt_val ha he) (tv_run fun _ _ _ h => h)
theorem ct_cmp {op : CmpOp} {r : R2} {g : D → D → Store → Option (D × Store)} (ho : OpR X (compareOp op) r) (hs : OpS X.K r g) (ha : PE X a (Te X.K X.mg W fa)) (hb : PE X b (Te X.K X.mg W fb)) (hm : behindInMarks op b = false) :
    PT X (.Compare a [op] [b] pos) (Tt X.K X.mg W (tV (e2 g fa fb))) := PT.imp (pt_cmpR ho ha hb hm) (tv_run (e2_run hs))
theorem chain_run {r r' : R2} {g g' : D → D → Store → Option (D × Store)} (hs : OpS X.K r g) (hs' : OpS X.K r' g') : ∀ σ H Q, Te X.K X.mg W (eChain g g' fa fb fc) σ H Q → tChain r r' (Te X.K X.mg W fa) (Te X.K X.mg W fb) (Te X.K X.mg W fc) σ H Q := fun σ H Q h =>
  Tm.bind (k := fun env x s => (fb env s).bind fun y s => (R.of (g x y s)).bind fun z s => match z with | .bl true => (fc env s).bind fun w s => R.of (g' y w s) | .bl false => R.ok (D.bl false) s | _ => R.no) h fun m1 H1 env x v s1 r1 E1 p1 g1 =>
    ⟨m1, env, s1, r1, E1, G.bind g1 fun m2 H2 y u s2 l2 r2 p2 g2 => hs r2 (p1.mono l2) p2 (G.bind g2 fun m3 H3 z w s3 l3 r3 p3 g3 => by
      cases z with
      | bl k =>
        cases p3
        refine ⟨k, rfl, ?_⟩
        cases k with
        | true => exact iteT ⟨m3, env, s3, r3, (E1.mono l2).mono l3, G.bind g3 fun m4 H4 z w s4 l4 r4 p4 g4 => hs' r4 ((p2.mono l3).mono l4) p4 g4⟩
        | false => exact iteF (g3.now r3 (.bl false))
      | _ => exact g3.elim)⟩
theorem ce_chain {op op' : CmpOp} {r r' : R2} {g g' : D → D → Store → Option (D × Store)} (ho : OpR X (compareOp op) r) (hs : OpS X.K r g) (ho' : OpR X (compareOp op') r') (hs' : OpS X.K r' g') (ha : PE X a (Te X.K X.mg W fa)) (hb : PE X b (Te X.K X.mg W fb)) (hc : PE X c (Te X.K X.mg W fc))
    (hm : lastMarks [op, op'] [b, c] = false := by with_unfolding_all rfl) : PE X (.Compare a [op, op'] [b, c] pos) (Te X.K X.mg W (eChain g g' fa fb fc)) := PE.imp (pe_chain ho ho' ha hb hc hm) (chain_run hs hs')
theorem ct_chain {op op' : CmpOp} {r r' : R2} {g g' : D → D → Store → Option (D × Store)} (ho : OpR X (compareOp op) r) (hs : OpS X.K r g) (ho' : OpR X (compareOp op') r') (hs' : OpS X.K r' g') (ha : PE X a (Te X.K X.mg W fa)) (hb : PE X b (Te X.K X.mg W fb)) (hc : PE X c (Te X.K X.mg W fc))
    (hm : lastMarks [op, op'] [b, c] = false := by with_unfolding_all rfl) : PT X (.Compare a [op, op'] [b, c] pos) (Tt X.K X.mg W (tV (eChain g g' fa fb fc))) := PT.imp (pt_chain ho ho' ha hb hc hm) (tv_run (chain_run hs hs'))
/-! #### tests -/
theorem cw_and1 (ha : PT X a (Tt X.K X.mg W ga)) : PW X (.BoolOp .And [a] pos) (Tt X.K X.mg W ga) := pw_and1 ha
theorem cw_or1 (ha : PT X a (Tt X.K X.mg W ga)) : PW X (.BoolOp .Or [a] pos) (Tt X.K X.mg W ga) := pw_or1 ha
theorem cw_and {rest : List Expr} (ha : PT X a (Tt X.K X.mg W ga)) (hb : PW X (.BoolOp .And (b :: rest) pos) (Tt X.K X.mg W gb)) : PW X (.BoolOp .And (a :: b :: rest) pos) (Tt X.K X.mg W (tAnd ga gb)) :=
  PW.imp (pw_and ha hb) fun σ H Q h => Tm.bind (k := fun env x s => if x then gb env s else R.ok false s) h fun m1 H1 env x v s1 r1 E1 p1 g1 => by
    cases (show x = v from p1)
    cases x with
    | true => exact iteT ⟨m1, env, s1, r1, E1, g1⟩
    | false => exact iteF (G.nowB g1 r1)
theorem cw_or {rest : List Expr} (ha : PT X a (Tt X.K X.mg W ga)) (hb : PW X (.BoolOp .Or (b :: rest) pos) (Tt X.K X.mg W gb)) : PW X (.BoolOp .Or (a :: b :: rest) pos) (Tt X.K X.mg W (tOr ga gb)) :=
  PW.imp (pw_or ha hb) fun σ H Q h => Tm.bind (k := fun env x s => if x then R.ok true s else gb env s) h fun m1 H1 env x v s1 r1 E1 p1 g1 => by
    cases (show x = v from p1)
    cases x with
    | true => exact iteT (G.nowB g1 r1)
    | false => exact iteF ⟨m1, env, s1, r1, E1, g1⟩
theorem ct_not (ha : PT X a (Tt X.K X.mg W ga)) : PT X (.UnaryOp .Not a pos) (Tt X.K X.mg W (tNot ga)) :=
  PT.imp (pt_not ha) fun σ H Q h => Tm.bind (k := fun env x s => R.ok (!x) s) h fun m1 H1 env x v s1 r1 E1 p1 g1 => by
    cases (show x = v from p1)
    exact G.nowB g1 r1
theorem ce_ifExp (hc : PT X c (Tt X.K X.mg W ga)) (ha : PE X a (Te X.K X.mg W fa)) (hb : PE X b (Te X.K X.mg W fb)) : PE X (.IfExp c a b pos) (Te X.K X.mg W (eIf ga fa fb)) :=
  PE.imp (pe_ifExp hc ha hb) fun σ H Q h => Tm.bind (k := fun env x s => if x then fa env s else fb env s) h fun m1 H1 env x v s1 r1 E1 p1 g1 => by
    cases (show x = v from p1)
    cases x with
    | true => exact iteT ⟨m1, env, s1, r1, E1, g1⟩
    | false => exact iteF ⟨m1, env, s1, r1, E1, g1⟩
theorem ce_one {op} {t : TE} (h : PE X a t) : PE X (.BoolOp op [a] pos) t := pe_one h
theorem ce_and {rest : List Expr} (ha : PE X a (Te X.K X.mg W fa)) (hb : PE X (.BoolOp .And (b :: rest) pos) (Te X.K X.mg W fb)) : PE X (.BoolOp .And (a :: b :: rest) pos) (Te X.K X.mg W (eAnd fa fb)) :=
  PE.imp (pe_and ha hb) fun σ H Q h => Tm.bind (k := fun env x s => match x with | .bl true => fb env s | .bl false => R.ok (D.bl false) s | _ => R.no) h fun m1 H1 env x v s1 r1 E1 p1 g1 => by
    cases x with
    | bl k =>
      cases p1
      refine ⟨k, rfl, ?_⟩
      cases k with
      | true => exact iteT ⟨m1, env, s1, r1, E1, g1⟩
      | false => exact iteF (g1.now r1 (.bl false))
    | _ => exact g1.elim
theorem ce_or {rest : List Expr} (ha : PE X a (Te X.K X.mg W fa)) (hb : PE X (.BoolOp .Or (b :: rest) pos) (Te X.K X.mg W fb)) : PE X (.BoolOp .Or (a :: b :: rest) pos) (Te X.K X.mg W (eOr fa fb)) :=
  PE.imp (pe_or ha hb) fun σ H Q h => Tm.bind (k := fun env x s => match x with | .bl true => R.ok (D.bl true) s | .bl false => fb env s | _ => R.no) h fun m1 H1 env x v s1 r1 E1 p1 g1 => by
    cases x with
    | bl k =>
      cases p1
      refine ⟨k, rfl, ?_⟩
      cases k with
      | true => exact iteT (g1.now r1 (.bl true))
      | false => exact iteF ⟨m1, env, s1, r1, E1, g1⟩
    | _ => exact g1.elim
theorem ce_not (ha : PE X a (Te X.K X.mg W fa)) : PE X (.UnaryOp .Not a pos) (Te X.K X.mg W (eNot fa)) :=
  PE.imp (pe_not ha) fun σ H Q h => Tm.bind (k := fun env x s => match x with | .bl c => R.ok (D.bl !c) s | _ => R.no) h fun m1 H1 env x v s1 r1 E1 p1 g1 => by
    cases x with
    | bl k => cases p1; exact ⟨k, rfl, g1.now r1 (.bl _)⟩
    | _ => exact g1.elim
/-! #### argument lists, displays -/
theorem ca_nil : PA X [] (Ta X.K X.mg W aNil) := PA.imp pa_nil fun σ H Q ⟨m, env, s, r, E, g⟩ => g m H [] .refl r .nil
theorem ca_cons (ha : PE X e (Te X.K X.mg W fa)) (hr : PA X es (Ta X.K X.mg W fs)) (hs : starEach (e :: es) X.env = (false, eval e X.env) :: starEach es X.env := by rfl) : PA X (e :: es) (Ta X.K X.mg W (aCons fa fs)) :=
  PA.imp (pa_cons ha hr hs) fun σ H Q h => Tm.bind (k := fun env x s => (fs env s).bind fun xs s => R.ok (x :: xs) s) h fun m1 H1 env x v s1 r1 E1 p1 g1 =>
    ⟨m1, env, s1, r1, E1, G.bind g1 fun m2 H2 xs vs s2 l2 r2 p2 g2 => g2 m2 H2 _ .refl r2 (.cons (p1.mono l2) p2)⟩
theorem ce_tup {k : Nat} (h : PA X es (Ta X.K X.mg W fs)) : PE X (.Tuple es k pos) (Te X.K X.mg W (eTup fs)) :=
  PE.imp (pe_tup h) fun σ H Q h => Tm.bind (k := fun env xs s => if xs.length ≤ sizeLine then R.ok (D.tup xs) s else R.no) h fun m1 H1 env xs vs s1 r1 E1 p1 g1 => by
    by_cases hz : xs.length ≤ sizeLine
    · simp only [hz, if_true] at g1
      exact ⟨by rw [← p1.length]; exact hz, fun p hp => g1 m1 _ _ (le_new hp) (r1.tmp hp) (rep_newtup hp p1)⟩
    · simp only [hz, if_false] at g1
      exact g1.elim
theorem newlist {xs : List D} {vs : List V} {m : List Addr} {H : Hp} {s : Store} {σ : L2.St} {Q : VK} {mg : Str → Option Value} (r : Rel X.K m H s) (p : Reps X.K m H xs vs) (g : G X.K mg (Rep X.K) W σ m H Q (.ok (.loc s.length) (s ++ [.lst xs]))) :
    ∀ q, H q = none → Q (.ref q) (upd H q (.lst vs)) := fun q hq => g (m ++ [q]) _ _ (le_more r hq) (rel_newlist r hq p) (.loc (len_get r))
theorem ce_lst (h : PA X es (Ta X.K X.mg W fs)) : PE X (.List es pos) (Te X.K X.mg W (eLst fs)) :=
  PE.imp (pe_lst h) fun σ H Q h => Tm.bind (k := fun env xs s => if xs.length ≤ sizeLine then R.ok (D.loc s.length) (s ++ [.lst xs]) else R.no) h fun m1 H1 env xs vs s1 r1 E1 p1 g1 => by
    by_cases hz : xs.length ≤ sizeLine
    · simp only [hz, if_true] at g1
      exact ⟨by rw [← p1.length]; exact hz, newlist r1 p1 g1⟩
    · simp only [hz, if_false] at g1
      exact g1.elim
/-! #### calls of builtins, by values -/
def FnS (K : PySem.W.Frag) (r : List V → Hp → VK → Prop) (g : List D → Store → Option (D × Store)) : Prop :=
  ∀ {mg : Str → Option Value} {W : WX} {σ : L2.St} {m : List Addr} {H : Hp} {s : Store} {xs : List V} {ds : List D} {Q : VK}, Rel K m H s → Reps K m H ds xs → G K mg (Rep K) W σ m H Q (R.of (g ds s)) → r xs H Q
theorem eFn_run {r : List V → Hp → VK → Prop} {g : List D → Store → Option (D × Store)} (hs : FnS X.K r g) : ∀ σ H Q, Te X.K X.mg W (eFn g fs) σ H Q → tCB r (Ta X.K X.mg W fs) σ H Q := fun σ H Q h =>
  Tm.bind (k := fun env xs s => R.of (g xs s)) h fun m1 H1 env x v s1 r1 E1 p1 g1 => hs r1 p1 g1
theorem ce_callB {x id : String} {p : Pos} {r : List V → Hp → VK → Prop} {g : List D → Store → Option (D × Store)} (hc : CallR X (.builtin id) r) (hs : FnS X.K r g) (hg : Gl X x) (hm : X.mg x = none) (hv : bootBuiltins x = some (.builtin id)) (ha : PA X (e :: es) (Ta X.K X.mg W fs))
    (hn : (x : Str) ≠ "__name__" := by decide) (hdb : ((x : Str) == ("__debug__" : Str)) = false := by decide)
    (he : starEach (e :: es) X.env = (false, eval e X.env) :: starEach es X.env := by rfl) (hpl : (backTo pos (starEach es X.env)).any (·.1) = false := by rfl) : PE X (.Call (.Name x p) (e :: es) [] pos) (Te X.K X.mg W (eFn g fs)) :=
  PE.imp (pe_callB hc hg hm hv ha hn hdb he hpl) (eFn_run hs)
theorem ce_callTy {x id : String} {p : Pos} {r : List V → Hp → VK → Prop} {g : List D → Store → Option (D × Store)} (hc : CallR X (.type id) r) (hs : FnS X.K r g) (hg : Gl X x) (hm : X.mg x = none) (hv : bootBuiltins x = some (.type id)) (ha : PA X (e :: es) (Ta X.K X.mg W fs))
    (hn : (x : Str) ≠ "__name__" := by decide) (hdb : ((x : Str) == ("__debug__" : Str)) = false := by decide)
    (he : starEach (e :: es) X.env = (false, eval e X.env) :: starEach es X.env := by rfl) (hpl : (backTo pos (starEach es X.env)).any (·.1) = false := by rfl) : PE X (.Call (.Name x p) (e :: es) [] pos) (Te X.K X.mg W (eFn g fs)) :=
  PE.imp (pe_callTy hc hg hm hv ha hn hdb he hpl) (eFn_run hs)
/-! #### one-place -/
def UnS (K : PySem.W.Frag) (r : V → Hp → VK → Prop) (g : D → Store → Option (D × Store)) : Prop :=
  ∀ {mg : Str → Option Value} {W : WX} {σ : L2.St} {m : List Addr} {H : Hp} {s : Store} {x : V} {d : D} {Q : VK}, Rel K m H s → Rep K m H d x → G K mg (Rep K) W σ m H Q (R.of (g d s)) → r x H Q
theorem ce_un {op : UnaryOp} {r : V → Hp → VK → Prop} {g : D → Store → Option (D × Store)} (ho : UnR X (unaryOp op) r) (hs : UnS X.K r g) (ha : PE X a (Te X.K X.mg W fa)) : PE X (.UnaryOp op a pos) (Te X.K X.mg W (e1 g fa)) :=
  PE.imp (pe_un ho ha) fun σ H Q h => Tm.bind (k := fun env x s => R.of (g x s)) h fun m1 H1 env x v s1 r1 E1 p1 g1 => hs r1 p1 g1
/-! #### a def's promise: its mirror's value -/
def spM (K : PySem.W.Frag) (mg : Str → Option Value) (n : Nat) (g : List D → Store → R D) : Sp := fun vs H Q E => vs.length = n ∧
  ∃ m s ds, Rel K m H s ∧ Reps K m H ds vs ∧ G K mg (Rep K) (fun c d _ H => E c d H) [] m H Q (g ds s)
theorem ce_call {k n : Nat} {f : Addr} {fd : FuncData} {ps : List Str} {x : Str} {p : Pos} {g : List D → Store → R D} (F : FnOk X.prog X.w X.K X.mg X.base (L2.CX X.prog X.w) k f fd ps (spM X.K X.mg n g)) (hr : Room k X.A) (tk : Takes X W) (hg : Gl X x) (hm : X.mg x = some (.ref f)) (hk : PySem.W.keepIn X.K (.ref f) = true) (hb : Binds X.K fd ps [])
    (hn : ∀ xs s env, ∀ s', fs env s = .ok xs s' → xs.length = n) (ha : PA X (e :: es) (Ta X.K X.mg W fs)) (hdb : (x == ("__debug__" : Str)) = false := by decide) (he : starEach (e :: es) X.env = (false, eval e X.env) :: starEach es X.env := by rfl) (hpl : (backTo pos (starEach es X.env)).any (·.1) = false := by rfl) :
    PE X (.Call (.Name x p) (e :: es) [] pos) (Te X.K X.mg W (eCall g fs)) :=
  PE.imp (pe_callS (E := WE W) F hr hg hm hk hb (fun σ => passAt tk σ) ha hdb he hpl) fun σ H Q h => by
    obtain ⟨m, env, s, r, E, g0⟩ := h
    refine ⟨m, env, s, r, E, ?_⟩
    unfold eCall at g0
    cases hf : fs env s with
    | ok xs s1 =>
      rw [hf] at g0
      intro m1 H1 vs l1 r1 p1
      refine ⟨by rw [← p1.length]; exact hn xs s env s1 hf, m1, s1, xs, r1, p1, ?_⟩
      have g1 : G X.K X.mg (Rep X.K) W σ m H Q (g xs s1) := g0
      have g2 := g1.mono l1
      cases hgx : g xs s1 with
      | ok a s2 => rw [hgx] at g2; exact g2
      | ex x2 s2 => rw [hgx] at g2; exact g2
      | no => rw [hgx] at g2; exact g2
    | ex x s1 => rw [hf] at g0; exact g0
    | no => rw [hf] at g0; exact g0.elim
end
end Mi
namespace Mi
open PySem PySem.Spec PyProof.Rows L2
/-! ### operations on values: mirrors and their rules -/
section
variable {K : PySem.W.Frag}
theorem OpS.or {r r' : R2} {g : D → D → Store → Option (D × Store)} (h : ∀ {mg : Str → Option Value} {W : WX} {σ : L2.St} {m : List Addr} {H : Hp} {s : Store} {x y : V} {dx dy : D} {Q : VK}, Rel K m H s → Rep K m H dx x → Rep K m H dy y → G K mg (Rep K) W σ m H Q (R.of (g dx dy s)) → r x y H Q ∨ r' x y H Q) : OpS K (fun x y H Q => r x y H Q ∨ r' x y H Q) g := h
/-- two ints -/
def dI (f : Int → Int → Option D) : D → D → Store → Option (D × Store)
  | .int i, .int j, s => (f i j).map fun d => (d, s)
  | _, _, _ => none
theorem ops_dI {C : Int → Int → Prop} {gv : Int → Int → V} {f : Int → Int → Option D} (h : ∀ i j d, f i j = some d → C i j ∧ ∀ m H, Rep K m H d (gv i j)) : OpS K (rI C gv) (dI f) := by
  intro mg W σ m H s x y dx dy Q r px py g
  cases dx with
  | int i =>
    cases dy with
    | int j =>
      cases px; cases py
      cases e : f i j with
      | none => rw [show R.of (dI f (.int i) (.int j) s) = R.no by simp [dI, e]] at g; exact g.elim
      | some d =>
        rw [show R.of (dI f (.int i) (.int j) s) = .ok d s by simp [dI, e]] at g
        obtain ⟨h1, h2⟩ := h i j d e
        exact ⟨i, j, rfl, rfl, h1, g.now r (h2 m H)⟩
    | _ => exact g.elim
  | _ => exact g.elim
theorem ops_dI0 {gv : Int → Int → V} {f : Int → Int → D} (h : ∀ i j m H, Rep K m H (f i j) (gv i j)) : OpS K (rI0 gv) (dI fun i j => some (f i j)) := by
  intro mg W σ m H s x y dx dy Q r px py g
  obtain ⟨i, j, e1, e2, _, q⟩ := ops_dI (K := K) (C := fun _ _ => True) (gv := gv) (fun i j d e => ⟨trivial, by cases e; exact h i j⟩) r px py g
  exact ⟨i, j, e1, e2, q⟩
def dAdd : D → D → Store → Option (D × Store)
  | .int i, .int j, s => some (.int (i + j), s)
  | .str x, .str y, s => if x.length + y.length ≤ sizeLine then some (.str (x ++ y), s) else none
  | .tup xs, .tup ys, s => if xs.length + ys.length ≤ sizeLine then some (.tup (xs ++ ys), s) else none
  | .loc l, .loc k, s => match s[l]?, s[k]? with
    | some (.lst xs), some (.lst ys) => if xs.length + ys.length ≤ sizeLine then some (.loc s.length, s ++ [.lst (xs ++ ys)]) else none
    | _, _ => none
  | _, _, _ => none
def rAddA (K : PySem.W.Frag) : R2 := fun x y H Q => rI0 (fun i j => .int (i + j)) x y H Q ∨ (∃ i j, x = .str i ∧ y = .str j ∧ i.length + j.length ≤ sizeLine ∧ Q (.str (i ++ j)) H) ∨ rCatA K x y H Q ∨ rCat x y H Q
theorem op_addA {X : Cx} : OpR X (binaryOp .Add) (rAddA X.K) := op_add.or (op_add_str.or (op_catA.or op_cat))
theorem ops_add : OpS K (rAddA K) dAdd := by
  intro mg W σ m H s x y dx dy Q r px py g
  cases dx with
  | int i =>
    cases dy with
    | int j => cases px; cases py; exact .inl ⟨i, j, rfl, rfl, g.now r (.int _)⟩
    | _ => exact g.elim
  | str i =>
    cases dy with
    | str j =>
      cases px; cases py
      by_cases hz : i.length + j.length ≤ sizeLine
      · rw [show dAdd (.str i) (.str j) s = some (.str (i ++ j), s) by simp [dAdd, hz]] at g
        exact .inr (.inl ⟨i, j, rfl, rfl, hz, g.now r (.str _)⟩)
      · rw [show dAdd (.str i) (.str j) s = none by simp [dAdd, hz]] at g; exact g.elim
    | _ => exact g.elim
  | tup xs =>
    cases dy with
    | tup ys =>
      cases px with
      | tup h1 r1 =>
        cases py with
        | tup h2 r2 =>
          by_cases hz : xs.length + ys.length ≤ sizeLine
          · rw [show dAdd (.tup xs) (.tup ys) s = some (.tup (xs ++ ys), s) by simp [dAdd, hz]] at g
            refine .inr (.inr (.inl ⟨_, _, _, _, rfl, rfl, .inl (.inl h1), .inl (.inl h2), by rw [← r1.length, ← r2.length]; exact hz, fun e => ?_, fun _ e => ?_, fun _ _ p hp => ?_⟩))
            · subst e; cases r1; exact g.now r (.tup h2 r2)
            · subst e; cases r2; rw [List.append_nil] at g; exact g.now r (.tup h1 r1)
            · exact g m _ _ (le_new hp) (r.tmp hp) (rep_newtup hp (r1.append r2))
          · rw [show dAdd (.tup xs) (.tup ys) s = none by simp [dAdd, hz]] at g; exact g.elim
    | _ => exact g.elim
  | loc l =>
    cases dy with
    | loc k =>
      cases px with
      | loc h1 =>
        cases py with
        | loc h2 =>
          cases e1 : s[l]? with
          | none => rw [show dAdd (.loc l) (.loc k) s = none by simp [dAdd, e1]] at g; exact g.elim
          | some c1 =>
            cases c1 with
            | dic _ => rw [show dAdd (.loc l) (.loc k) s = none by simp [dAdd, e1]] at g; exact g.elim
            | dct _ => rw [show dAdd (.loc l) (.loc k) s = none by simp [dAdd, e1]] at g; exact g.elim
            | lst xs =>
              cases e2 : s[k]? with
              | none => rw [show dAdd (.loc l) (.loc k) s = none by simp [dAdd, e1, e2]] at g; exact g.elim
              | some c2 =>
                cases c2 with
                | dic _ => rw [show dAdd (.loc l) (.loc k) s = none by simp [dAdd, e1, e2]] at g; exact g.elim
                | dct _ => rw [show dAdd (.loc l) (.loc k) s = none by simp [dAdd, e1, e2]] at g; exact g.elim
                | lst ys =>
                  by_cases hz : xs.length + ys.length ≤ sizeLine
                  · rw [show dAdd (.loc l) (.loc k) s = some (.loc s.length, s ++ [.lst (xs ++ ys)]) by simp [dAdd, e1, e2, hz]] at g
                    obtain ⟨vs, q1, p1⟩ := r.list h1 e1
                    obtain ⟨ws, q2, p2⟩ := r.list h2 e2
                    refine .inr (.inr (.inr ⟨_, _, vs, ws, rfl, rfl, q1, q2, by rw [← p1.length, ← p2.length]; exact hz, fun p hp => ?_⟩))
                    exact g (m ++ [p]) _ _ (le_more r hp) (rel_newlist r hp (p1.append p2)) (.loc (len_get r))
                  · rw [show dAdd (.loc l) (.loc k) s = none by simp [dAdd, e1, e2, hz]] at g; exact g.elim
    | _ => exact g.elim
  | _ => exact g.elim
def dSub := dI fun i j => some (.int (i - j))
theorem ops_sub : OpS K (rI0 fun i j => .int (i - j)) dSub := ops_dI0 fun _ _ _ _ => .int _
noncomputable instance (i j : Int) : Decidable (CMul i j) := Classical.propDecidable _
noncomputable instance (i j : Int) : Decidable (CDiv i j) := Classical.propDecidable _
noncomputable instance (i j : Int) : Decidable (CDivN i j) := Classical.propDecidable _
noncomputable instance (i j : Int) : Decidable (CPow i j) := Classical.propDecidable _
noncomputable def dMul := dI fun i j => if CMul i j then some (.int (i * j)) else none
theorem ops_mul : OpS K (rI CMul fun i j => .int (i * j)) dMul := ops_dI fun i j d h => by
  split at h
  · cases h; exact ⟨by assumption, fun _ _ => .int _⟩
  · cases h
noncomputable def dDiv := dI fun i j => if CDiv i j then some (.int (i / j)) else none
theorem ops_div : OpS K (rI CDiv fun i j => .int (i / j)) dDiv := ops_dI fun i j d h => by
  split at h
  · cases h; exact ⟨by assumption, fun _ _ => .int _⟩
  · cases h
noncomputable def dMod := dI fun i j => if 0 < j then some (.int (i % j)) else none
theorem ops_mod : OpS K (rI (fun _ j => 0 < j) fun i j => .int (i % j)) dMod := ops_dI fun i j d h => by
  split at h
  · cases h; exact ⟨by assumption, fun _ _ => .int _⟩
  · cases h
noncomputable def dPow := dI fun i j => if CPow i j then some (.int (i ^ j.toNat)) else none
theorem ops_pow : OpS K (rI CPow fun i j => .int (i ^ j.toNat)) dPow := ops_dI fun i j d h => by
  split at h
  · cases h; exact ⟨by assumption, fun _ _ => .int _⟩
  · cases h
def dNeg : D → Store → Option (D × Store)
  | .int i, s => some (.int (-i), s)
  | _, _ => none
theorem uns_neg : UnS K (rU fun i => .int (-i)) dNeg := by
  intro mg W σ m H s x d Q r p g
  cases d with
  | int i => cases p; exact ⟨i, rfl, g.now r (.int _)⟩
  | _ => exact g.elim
/-! #### comparisons -/
def dLt : D → D → Store → Option (D × Store)
  | .int i, .int j, s => some (.bl (decide (i < j)), s)
  | .str x, .str y, s => some (.bl (decide (x.cps.toList < y.cps.toList)), s)
  | _, _, _ => none
def dLe : D → D → Store → Option (D × Store)
  | .int i, .int j, s => some (.bl (decide (i ≤ j)), s)
  | .str x, .str y, s => some (.bl (!decide (y.cps.toList < x.cps.toList)), s)
  | _, _, _ => none
def dGt : D → D → Store → Option (D × Store)
  | .int i, .int j, s => some (.bl (decide (j < i)), s)
  | .str x, .str y, s => some (.bl (decide (y.cps.toList < x.cps.toList)), s)
  | _, _, _ => none
def dGe : D → D → Store → Option (D × Store)
  | .int i, .int j, s => some (.bl (decide (j ≤ i)), s)
  | .str x, .str y, s => some (.bl (!decide (x.cps.toList < y.cps.toList)), s)
  | _, _, _ => none
def rCmpA (f : Int → Int → Bool) (k : Str → Str → Bool) : R2 := fun x y H Q => rI0 (fun i j => .bl (f i j)) x y H Q ∨ ∃ i j, x = .str i ∧ y = .str j ∧ Q (.bl (k i j)) H
theorem ops_cmp {f : Int → Int → Bool} {k : Str → Str → Bool} {g : D → D → Store → Option (D × Store)} (h1 : ∀ i j s, g (.int i) (.int j) s = some (.bl (f i j), s)) (h2 : ∀ i j s, g (.str i) (.str j) s = some (.bl (k i j), s))
    (h3 : ∀ x y s, (∀ i j, x = .int i → y = .int j → False) → (∀ i j, x = .str i → y = .str j → False) → g x y s = none) : OpS K (rCmpA f k) g := by
  intro mg W σ m H s x y dx dy Q r px py q
  by_cases ha : ∃ i j, dx = .int i ∧ dy = .int j
  · obtain ⟨i, j, rfl, rfl⟩ := ha
    cases px; cases py
    rw [h1] at q
    exact .inl ⟨i, j, rfl, rfl, q.now r (.bl _)⟩
  · by_cases hb : ∃ i j, dx = .str i ∧ dy = .str j
    · obtain ⟨i, j, rfl, rfl⟩ := hb
      cases px; cases py
      rw [h2] at q
      exact .inr ⟨i, j, rfl, rfl, q.now r (.bl _)⟩
    · rw [h3 dx dy s (fun i j e1 e2 => ha ⟨i, j, e1, e2⟩) (fun i j e1 e2 => hb ⟨i, j, e1, e2⟩)] at q
      exact q.elim
theorem ops_lt : OpS K (rCmpA (fun i j => decide (i < j)) fun x y => decide (x.cps.toList < y.cps.toList)) dLt :=
  ops_cmp (fun _ _ _ => rfl) (fun _ _ _ => rfl) fun x y s h1 h2 => by cases x <;> cases y <;> first | rfl | exact (h1 _ _ rfl rfl).elim | exact (h2 _ _ rfl rfl).elim
theorem ops_le : OpS K (rCmpA (fun i j => decide (i ≤ j)) fun x y => !decide (y.cps.toList < x.cps.toList)) dLe :=
  ops_cmp (fun _ _ _ => rfl) (fun _ _ _ => rfl) fun x y s h1 h2 => by cases x <;> cases y <;> first | rfl | exact (h1 _ _ rfl rfl).elim | exact (h2 _ _ rfl rfl).elim
theorem ops_gt : OpS K (rCmpA (fun i j => decide (j < i)) fun x y => decide (y.cps.toList < x.cps.toList)) dGt :=
  ops_cmp (fun _ _ _ => rfl) (fun _ _ _ => rfl) fun x y s h1 h2 => by cases x <;> cases y <;> first | rfl | exact (h1 _ _ rfl rfl).elim | exact (h2 _ _ rfl rfl).elim
theorem ops_ge : OpS K (rCmpA (fun i j => decide (j ≤ i)) fun x y => !decide (x.cps.toList < y.cps.toList)) dGe :=
  ops_cmp (fun _ _ _ => rfl) (fun _ _ _ => rfl) fun x y s h1 h2 => by cases x <;> cases y <;> first | rfl | exact (h1 _ _ rfl rfl).elim | exact (h2 _ _ rfl rfl).elim
theorem opA_lt {X : Cx} : OpR X (compareOp .Lt) (rCmpA (fun i j => decide (i < j)) fun x y => decide (x.cps.toList < y.cps.toList)) := op_lt.or op_lt_str
theorem opA_le {X : Cx} : OpR X (compareOp .LtE) (rCmpA (fun i j => decide (i ≤ j)) fun x y => !decide (y.cps.toList < x.cps.toList)) := op_le.or op_le_str
theorem opA_gt {X : Cx} : OpR X (compareOp .Gt) (rCmpA (fun i j => decide (j < i)) fun x y => decide (y.cps.toList < x.cps.toList)) := op_gt.or op_gt_str
theorem opA_ge {X : Cx} : OpR X (compareOp .GtE) (rCmpA (fun i j => decide (j ≤ i)) fun x y => !decide (x.cps.toList < y.cps.toList)) := op_ge.or op_ge_str
/-! #### == and != -/
mutual
/-- data without places -/
def py0 : D → Option PyData
  | .non => some .none
  | .bl b => some (.bool b)
  | .int i => some (.int i)
  | .str x => some (.str x)
  | .tup xs => (pys0 xs).map .tuple
  | .fl xs => (pys0 xs).map .list
  | .loc _ => none
  | .exv _ _ _ _ => none
def pys0 : List D → Option (List PyData)
  | [] => some []
  | x :: xs => (py0 x).bind fun a => (pys0 xs).map fun r => a :: r
end
/-- data, a list of the store at its head -/
def py1 (s : Store) : D → Option PyData
  | .loc l => match s[l]? with
    | some (.lst xs) => (pys0 xs).map .list
    | _ => none
  | d => py0 d
mutual
theorem py0_dp {m : List Addr} {H : Hp} : ∀ {d : D} {v : V} {p : PyData}, Rep K m H d v → py0 d = some p → Dp K H v p
  | .non, _, _, .non, e => by cases e; exact .non
  | .bl b, _, _, .bl _, e => by cases e; exact .bl b
  | .int b, _, _, .int _, e => by cases e; exact .int b
  | .str b, _, _, .str _, e => by cases e; exact .str b
  | .tup xs, _, _, .tup h r, e => by
    unfold py0 at e
    cases q : pys0 xs with
    | none => rw [q] at e; cases e
    | some ps => rw [q] at e; cases e; exact .tup (.inl (.inl h)) (pys0_dp r q)
  | .fl xs, _, _, .fl h r, e => by
    unfold py0 at e
    cases q : pys0 xs with
    | none => rw [q] at e; cases e
    | some ps => rw [q] at e; cases e; exact .lst h.sq (pys0_dp r q)
  | .loc _, _, _, _, e => by cases e
  | .exv _ _ _ _, _, _, _, e => by cases e
theorem pys0_dp {m : List Addr} {H : Hp} : ∀ {ds : List D} {vs : List V} {ps : List PyData}, Reps K m H ds vs → pys0 ds = some ps → DpAll K H vs ps
  | [], _, _, .nil, e => by cases e; exact .nil
  | x :: xs, _, _, .cons h r, e => by
    unfold pys0 at e
    cases q : py0 x with
    | none => rw [q] at e; cases e
    | some a =>
      cases q2 : pys0 xs with
      | none => rw [q, q2] at e; cases e
      | some b => rw [q, q2] at e; cases e; exact .cons (py0_dp h q) (pys0_dp r q2)
end
theorem py1_dp {m : List Addr} {H : Hp} {s : Store} (r : Rel K m H s) {d : D} {v : V} {p : PyData} (h : Rep K m H d v) (e : py1 s d = some p) : Dp K H v p := by
  cases d with
  | loc l =>
    cases h with
    | loc h =>
      unfold py1 at e
      cases q : s[l]? with
      | none => simp [q] at e
      | some c =>
        cases c with
        | dic _ => simp [q] at e
        | dct _ => simp [q] at e
        | lst xs =>
          simp only [q] at e
          obtain ⟨vs, q1, p1⟩ := r.list h q
          cases q2 : pys0 xs with
          | none => rw [q2] at e; cases e
          | some ps => rw [q2] at e; cases e; exact .lst (.inl (.inl q1)) (pys0_dp p1 q2)
  | _ => exact py0_dp h e
/-- scalars that == tells apart without more -/
def dScal : D → D → Option Bool
  | .non, .non => some true
  | .non, .int _ => some false | .int _, .non => some false | .non, .bl _ => some false | .bl _, .non => some false | .non, .str _ => some false | .str _, .non => some false
  | .int i, .int j => some (decide (i = j)) | .bl i, .bl j => some (decide (i = j)) | .str i, .str j => some (decide (i = j))
  | .int _, .str _ => some false | .str _, .int _ => some false | .bl _, .str _ => some false | .str _, .bl _ => some false
  | _, _ => none
def dEqB (x y : D) (s : Store) : Option Bool := match dScal x y with
  | some b => some b
  | none => (py1 s x).bind fun a => (py1 s y).bind fun b => if SeqAt.shaped a && SeqAt.shaped b then some (PyData.eqv a b) else none
def dEq (x y : D) (s : Store) : Option (D × Store) := (dEqB x y s).map fun b => (.bl b, s)
def dNe (x y : D) (s : Store) : Option (D × Store) := (dEqB x y s).map fun b => (.bl !b, s)
def rEqA (K : PySem.W.Frag) : R2 := fun x y H Q => rEq x y H Q ∨ rEqD K x y H Q
def rNeA (K : PySem.W.Frag) : R2 := fun x y H Q => rNe x y H Q ∨ rNeD K x y H Q
theorem opA_eq {X : Cx} (hu : X.A.units + 64 < cLine) : OpR X (compareOp .Eq) (rEqA X.K) := op_eq.or (op_eqD hu)
theorem opA_ne {X : Cx} (hu : X.A.units + 64 < cLine) : OpR X (compareOp .NotEq) (rNeA X.K) := op_ne.or (op_neD hu)
theorem scal_of {m : List Addr} {H : Hp} {dx dy : D} {x y : V} {b : Bool} (px : Rep K m H dx x) (py : Rep K m H dy y) (e : dScal dx dy = some b) : scal x y = true ∧ decide (x = y) = b := by
  cases px <;> cases py <;> first | (cases e; done) | (cases e; exact ⟨rfl, by simp⟩)
theorem eqB_cases {m : List Addr} {H : Hp} {s : Store} (r : Rel K m H s) {dx dy : D} {x y : V} {b : Bool} (px : Rep K m H dx x) (py : Rep K m H dy y) (e : dEqB dx dy s = some b) :
    (scal x y = true ∧ decide (x = y) = b) ∨ ∃ d e', Dp K H x d ∧ Dp K H y e' ∧ SeqAt.shaped d = true ∧ SeqAt.shaped e' = true ∧ PyData.eqv d e' = b := by
  unfold dEqB at e
  cases q : dScal dx dy with
  | some c => rw [q] at e; cases e; exact .inl (scal_of px py q)
  | none =>
    rw [q] at e
    cases q1 : py1 s dx with
    | none => rw [q1] at e; cases e
    | some a =>
      cases q2 : py1 s dy with
      | none => rw [q1, q2] at e; cases e
      | some c =>
        rw [q1, q2] at e
        simp only [Option.bind_some] at e
        split at e
        · rename_i hs
          rw [Bool.and_eq_true] at hs
          cases e
          exact .inr ⟨a, c, py1_dp r px q1, py1_dp r py q2, hs.1, hs.2, rfl⟩
        · cases e
theorem ops_eq : OpS K (rEqA K) dEq := by
  intro mg W σ m H s x y dx dy Q r px py g
  unfold dEq at g
  cases e : dEqB dx dy s with
  | none => rw [e] at g; exact g.elim
  | some b =>
    rw [e] at g
    have q := g.now r (.bl b)
    rcases eqB_cases r px py e with ⟨h1, h2⟩ | ⟨d, e', h1, h2, h3, h4, h5⟩
    · exact .inl ⟨h1, by rw [h2]; exact q⟩
    · exact .inr ⟨d, e', h1, h2, h3, h4, by rw [h5]; exact q⟩
theorem ops_ne : OpS K (rNeA K) dNe := by
  intro mg W σ m H s x y dx dy Q r px py g
  unfold dNe at g
  cases e : dEqB dx dy s with
  | none => rw [e] at g; exact g.elim
  | some b =>
    rw [e] at g
    have q := g.now r (.bl (!b))
    rcases eqB_cases r px py e with ⟨h1, h2⟩ | ⟨d, e', h1, h2, h3, h4, h5⟩
    · exact .inl ⟨h1, by rw [h2]; exact q⟩
    · exact .inr ⟨d, e', h1, h2, h3, h4, by rw [h5]; exact q⟩
/-! #### is, is not: None, True, False -/
theorem is_bool_gen {M : Model} {A : Around} {E : Value → Shared → Prop} {s : Shared} {Q : Value → Shared → Prop} {v : Value} {b : Bool} (hn : ∀ i, v ≠ .builtin i) (h : Q (.bool (v == .bool b)) s) : wpAny M A (compareOp .Is v (.bool b)) Q E s := by
  cases v <;> first | exact wpAny_pure h | exact (hn _ rfl).elim
theorem isnot_bool_gen {M : Model} {A : Around} {E : Value → Shared → Prop} {s : Shared} {Q : Value → Shared → Prop} {v : Value} {b : Bool} (hn : ∀ i, v ≠ .builtin i) (h : Q (.bool (!(v == .bool b))) s) : wpAny M A (compareOp .IsNot v (.bool b)) Q E s := by
  cases v <;> first | exact wpAny_pure h | exact (hn _ rfl).elim
theorem relv_nb {x : V} {v : Value} (r : RelV x v) : ∀ i, v ≠ .builtin i := fun i e => by
  subst e
  cases x with
  | non => cases r
  | bl c => cases r
  | int i => obtain ⟨t, e⟩ := r; cases e
  | str i => obtain ⟨t, e⟩ := r; cases e
  | byt i => obtain ⟨t, e⟩ := r; cases e
  | flt i => obtain ⟨t, e⟩ := r; cases e
  | ref i => cases r
  | ty i => cases r
theorem relv_bool {x : V} {v : Value} {b : Bool} (r : RelV x v) : (v == .bool b) = decide (x = .bl b) := by
  cases x with
  | non => cases r; simp
  | bl c => cases r; cases c <;> cases b <;> rfl
  | int i => obtain ⟨t, rfl⟩ := r; simp
  | str i => obtain ⟨t, rfl⟩ := r; simp
  | byt i => obtain ⟨t, rfl⟩ := r; simp
  | flt i => obtain ⟨t, rfl⟩ := r; simp
  | ref i => cases r; simp
  | ty i => cases r; simp
theorem op_isB {X : Cx} : OpR X (compareOp .Is) (fun x y H Q => ∃ b, y = .bl b ∧ Q (.bl (decide (x = .bl b))) H) := by
  intro pins s σ H x y v u Q I rx ry h
  obtain ⟨b, rfl, q⟩ := h
  cases ry
  exact is_bool_gen (relv_nb rx) (fin_bl I q (relv_bool rx).symm)
theorem op_notB {X : Cx} : OpR X (compareOp .IsNot) (fun x y H Q => ∃ b, y = .bl b ∧ Q (.bl (!decide (x = .bl b))) H) := by
  intro pins s σ H x y v u Q I rx ry h
  obtain ⟨b, rfl, q⟩ := h
  cases ry
  exact isnot_bool_gen (relv_nb rx) (fin_bl I q (by rw [relv_bool rx]))
def dIsB : D → D → Option Bool
  | .non, .non => some true
  | _, .non => some false
  | .bl c, .bl b => some (decide (c = b))
  | _, .bl _ => some false
  | _, _ => none
def dIs (x y : D) (s : Store) : Option (D × Store) := (dIsB x y).map fun b => (.bl b, s)
def dIsNot (x y : D) (s : Store) : Option (D × Store) := (dIsB x y).map fun b => (.bl !b, s)
def rIsA : R2 := fun x y H Q => (y = .non ∧ Q (.bl (decide (x = .non))) H) ∨ ∃ b, y = .bl b ∧ Q (.bl (decide (x = .bl b))) H
def rNotA : R2 := fun x y H Q => (y = .non ∧ Q (.bl (!decide (x = .non))) H) ∨ ∃ b, y = .bl b ∧ Q (.bl (!decide (x = .bl b))) H
theorem opA_is {X : Cx} : OpR X (compareOp .Is) rIsA := op_isN.or op_isB
theorem opA_isnot {X : Cx} : OpR X (compareOp .IsNot) rNotA := op_notN.or op_notB
theorem isB_cases {m : List Addr} {H : Hp} {dx dy : D} {x y : V} {b : Bool} (px : Rep K m H dx x) (py : Rep K m H dy y) (e : dIsB dx dy = some b) : (y = .non ∧ decide (x = .non) = b) ∨ ∃ c, y = .bl c ∧ decide (x = .bl c) = b := by
  cases py with
  | non => refine .inl ⟨rfl, ?_⟩; cases px <;> (cases e; simp)
  | bl c => refine .inr ⟨c, rfl, ?_⟩; cases px <;> (cases e; simp)
  | _ => cases px <;> cases e
theorem ops_is : OpS K rIsA dIs := by
  intro mg W σ m H s x y dx dy Q r px py g
  unfold dIs at g
  cases e : dIsB dx dy with
  | none => rw [e] at g; exact g.elim
  | some b =>
    rw [e] at g
    have q := g.now r (.bl b)
    rcases isB_cases px py e with ⟨rfl, h⟩ | ⟨c, rfl, h⟩
    · exact .inl ⟨rfl, by rw [h]; exact q⟩
    · exact .inr ⟨c, rfl, by rw [h]; exact q⟩
theorem ops_isnot : OpS K rNotA dIsNot := by
  intro mg W σ m H s x y dx dy Q r px py g
  unfold dIsNot at g
  cases e : dIsB dx dy with
  | none => rw [e] at g; exact g.elim
  | some b =>
    rw [e] at g
    have q := g.now r (.bl (!b))
    rcases isB_cases px py e with ⟨rfl, h⟩ | ⟨c, rfl, h⟩
    · exact .inl ⟨rfl, by rw [h]; exact q⟩
    · exact .inr ⟨c, rfl, by rw [h]; exact q⟩
end
end Mi
namespace Mi
open PySem PySem.Spec PyProof.Rows L2
section
variable {K : PySem.W.Frag} {m : List Addr} {H : Hp} {s : Store}
theorem Rep.sqT {xs : List D} {v : V} (h : Rep K m H (.tup xs) v) : ∃ a vs, v = .ref a ∧ SqT K H a vs ∧ Reps K m H xs vs := by
  cases h with
  | tup h r => exact ⟨_, _, rfl, .inl (.inl h), r⟩
theorem Rep.trk {xs : List D} {v : V} (h : Rep K m H (.tup xs) v) : ∃ a vs, v = .ref a ∧ H a = some (.tup vs) ∧ Reps K m H xs vs := by
  cases h with
  | tup h r => exact ⟨_, _, rfl, h, r⟩
/-- the items of a list: of the store, or never written -/
def lstOf (s : Store) : D → Option (List D)
  | .loc l => match s[l]? with
    | some (.lst xs) => some xs
    | _ => none
  | .fl xs => some xs
  | _ => none
theorem lstOf_sq (r : Rel K m H s) {d : D} {v : V} {xs : List D} (p : Rep K m H d v) (e : lstOf s d = some xs) : ∃ a vs, v = .ref a ∧ SqL K H a vs ∧ Reps K m H xs vs := by
  cases d with
  | loc l =>
    cases p with
    | loc h =>
      unfold lstOf at e
      cases q : s[l]? with
      | none => simp [q] at e
      | some c =>
        cases c with
        | dic _ => simp [q] at e
        | dct _ => simp [q] at e
        | lst ys =>
          simp only [q] at e
          cases e
          obtain ⟨vs, h1, h2⟩ := r.list h q
          exact ⟨_, vs, rfl, .inl (.inl h1), h2⟩
  | fl ys =>
    cases e
    cases p with
    | fl h q => exact ⟨_, _, rfl, h.sq, q⟩
  | _ => cases e
/-- list or tuple -/
def seqOf (s : Store) : D → Option (List D)
  | .tup xs => some xs
  | d => lstOf s d
theorem seqOf_sq (r : Rel K m H s) {d : D} {v : V} {xs : List D} (p : Rep K m H d v) (e : seqOf s d = some xs) : ∃ a vs, v = .ref a ∧ (SqL K H a vs ∨ SqT K H a vs) ∧ Reps K m H xs vs := by
  cases d with
  | tup ys =>
    cases e
    obtain ⟨a, vs, h1, h2, h3⟩ := p.sqT
    exact ⟨a, vs, h1, .inr h2, h3⟩
  | loc l => obtain ⟨a, vs, h1, h2, h3⟩ := lstOf_sq (d := .loc l) r p e; exact ⟨a, vs, h1, .inl h2, h3⟩
  | fl l => obtain ⟨a, vs, h1, h2, h3⟩ := lstOf_sq (d := .fl l) r p e; exact ⟨a, vs, h1, .inl h2, h3⟩
  | _ => cases e
/-! #### a[i] -/
def dIx (x i : D) (s : Store) : Option (D × Store) := match i with
  | .int i => match x with
    | .str z => if z.length ≤ sizeLine then (atI z.cps.toList i).map fun c => (.str ⟨#[c]⟩, s) else none
    | x => (seqOf s x).bind fun xs => (atI xs i).map fun d => (d, s)
  | _ => none
theorem Reps.atI {xs : List D} {vs : List V} {i : Int} {d : D} (r : Reps K m H xs vs) (e : L2.atI xs i = some d) : ∃ v, L2.atI vs i = some v ∧ Rep K m H d v := by
  unfold L2.atI at e ⊢
  rw [← r.length]
  cases q : ixN xs.length i with
  | none => rw [q] at e; cases e
  | some j =>
    rw [q] at e
    exact r.get e
theorem ops_ix : OpS K (rIx K) dIx := by
  intro mg W σ m H s x y dx dy Q r px py g
  cases dy with
  | int i =>
    cases py
    have seq : ∀ xs, seqOf s dx = some xs → (∀ d, L2.atI xs i = some d → G K mg (Rep K) W σ m H Q (.ok d s)) → (L2.atI xs i).isSome → rIx K x (.int i) H Q := by
      intro xs e q hs
      obtain ⟨d, hd⟩ := Option.isSome_iff_exists.mp hs
      obtain ⟨a, vs, rfl, hq, rr⟩ := seqOf_sq r px e
      obtain ⟨v, hv, rv⟩ := rr.atI hd
      have q2 := (q d hd).now r rv
      rcases hq with hq | hq
      · exact .inl ⟨a, vs, i, v, rfl, rfl, hq, hv, q2⟩
      · exact .inr (.inl ⟨a, vs, i, v, rfl, rfl, hq, hv, q2⟩)
    have gen : (∀ z, dx ≠ .str z) → rIx K x (.int i) H Q := by
      intro hn
      have e : dIx dx (.int i) s = (seqOf s dx).bind fun xs => (L2.atI xs i).map fun d => (d, s) := by
        cases dx <;> first | rfl | exact (hn _ rfl).elim
      rw [e] at g
      cases q : seqOf s dx with
      | none => rw [q] at g; exact g.elim
      | some xs =>
        rw [q] at g
        cases q2 : L2.atI xs i with
        | none => simp [q2] at g; exact g.elim
        | some d =>
          simp [q2] at g
          exact seq xs q (fun d' h => by rw [q2] at h; cases h; exact g) (by simp [q2])
    cases dx with
    | str z =>
      cases px
      by_cases hz : z.length ≤ sizeLine
      · cases q2 : L2.atI z.cps.toList i with
        | none => simp [dIx, hz, q2] at g; exact g.elim
        | some c =>
          simp [dIx, hz, q2] at g
          exact .inr (.inr ⟨z, i, c, rfl, rfl, hz, q2, g.now r (.str _)⟩)
      · simp [dIx, hz] at g; exact g.elim
    | _ => exact gen (fun z e => by cases e)
  | _ => exact g.elim
/-! #### slices -/
def cutD (xs : List D) (lo hi : Option Int) : List D := (xs.drop (HT.sIx xs.length 0 lo)).take (HT.sIx xs.length xs.length hi - HT.sIx xs.length 0 lo)
theorem Reps.cut {xs : List D} {vs : List V} (r : Reps K m H xs vs) (lo hi : Option Int) : Reps K m H (cutD xs lo hi) (cutV vs lo hi) := by
  unfold cutD cutV
  rw [← r.length]
  exact (r.drop _).take _
def dSl (x : D) (lo hi : Option Int) (s : Store) : Option (D × Store) := match x with
  | .tup xs => some (.tup (cutD xs lo hi), s)
  | x => (lstOf s x).map fun xs => (.loc s.length, s ++ [.lst (cutD xs lo hi)])
def SlS (K : PySem.W.Frag) (r : V → Option Int → Option Int → Hp → VK → Prop) (g : D → Option Int → Option Int → Store → Option (D × Store)) : Prop :=
  ∀ {mg : Str → Option Value} {W : WX} {σ : L2.St} {m : List Addr} {H : Hp} {s : Store} {x : V} {d : D} {lo hi : Option Int} {Q : VK}, Rel K m H s → Rep K m H d x → G K mg (Rep K) W σ m H Q (R.of (g d lo hi s)) → r x lo hi H Q
def rSlS : V → Option Int → Option Int → Hp → VK → Prop := fun x lo hi H Q => ∃ z : Str, x = .str z ∧ z.length ≤ sizeLine ∧ Q (.str (cutS z lo hi)) H
def rSlLT (K : PySem.W.Frag) : V → Option Int → Option Int → Hp → VK → Prop := fun x lo hi H Q => rSlL K x lo hi H Q ∨ rSlA K x lo hi H Q
theorem sl_LT {X : Cx} : SlR X (rSlLT X.K) := sl_list.or sl_tupA
theorem sls_LT : SlS K (rSlLT K) dSl := by
  intro mg W σ m H s x d lo hi Q r p g
  have lst : ∀ xs, lstOf s d = some xs → G K mg (Rep K) W σ m H Q (.ok (.loc s.length) (s ++ [.lst (cutD xs lo hi)])) → rSlLT K x lo hi H Q := by
    intro xs e q
    obtain ⟨a, vs, rfl, hq, rr⟩ := lstOf_sq r p e
    exact .inl ⟨a, vs, rfl, hq, fun q' hq' => q (m ++ [q']) _ _ (le_more r hq') (rel_newlist r hq' (rr.cut lo hi)) (.loc (len_get r))⟩
  have gen : (∀ ys, d ≠ .tup ys) → rSlLT K x lo hi H Q := by
    intro hn
    have e : dSl d lo hi s = (lstOf s d).map fun xs => (.loc s.length, s ++ [.lst (cutD xs lo hi)]) := by
      cases d <;> first | rfl | exact (hn _ rfl).elim
    rw [e] at g
    cases q : lstOf s d with
    | none => rw [q] at g; exact g.elim
    | some xs => rw [q] at g; exact lst xs q g
  cases d with
  | tup xs =>
    obtain ⟨a, vs, rfl, hq, rr⟩ := p.sqT
    have g' : G K mg (Rep K) W σ m H Q (.ok (.tup (cutD xs lo hi)) s) := g
    refine .inr ⟨a, vs, rfl, hq, fun w => ?_, fun _ q hn => g' m _ _ (le_new hn) (r.tmp hn) (rep_newtup hn (rr.cut lo hi))⟩
    have e : cutD xs lo hi = xs := by
      unfold cutD
      rw [rr.length, w.1, w.2, ← rr.length]
      simp
    rw [e] at g'
    exact g'.now r p
  | _ => exact gen (fun z e => by cases e)
def oNone : ME (Option Int) := fun _ s => .ok none s
def oSome (a : ME D) : ME (Option Int) := fun env s => (a env s).bind fun x s => match x with
  | .int i => .ok (some i) s
  | _ => .no
def ρO : List Addr → Hp → Option Int → Option Int → Prop := fun _ _ a b => a = b
abbrev To (K : PySem.W.Frag) (mg : Str → Option Value) (W : WX) (f : ME (Option Int)) : TO := Tm K mg ρO W f
def eSl (g : D → Option Int → Option Int → Store → Option (D × Store)) (a : ME D) (lo hi : ME (Option Int)) : ME D := fun env s => (a env s).bind fun x s => (lo env s).bind fun l s => (hi env s).bind fun u s => R.of (g x l u s)
end
section
variable {X : Cx} {W : WX} {pos p2 : Pos} {a b c e : Expr} {es : List Expr} {fa fb fc : ME D} {ga gb : ME Bool} {fs : ME (List D)} {ol oh : ME (Option Int)} {lo hi : Option Expr}
theorem co_none : PO X none (To X.K X.mg W oNone) := ⟨fun pins s σ H Q I ⟨m, env, st, r, E, g⟩ => po_none.run pins s σ H Q I (g m H none .refl r rfl)⟩
theorem co_some (h : PE X e (Te X.K X.mg W fa)) : PO X (some e) (To X.K X.mg W (oSome fa)) := ⟨fun pins s σ H Q I q =>
  (po_some h).run pins s σ H Q I (Tm.bind (k := fun _ x s => match x with | .int i => R.ok (some i) s | _ => R.no) q fun m1 H1 env x v s1 r1 E1 p1 g1 => by
    cases x with
    | int i => cases p1; exact ⟨i, rfl, g1 m1 H1 (some i) .refl r1 rfl⟩
    | _ => exact g1.elim)⟩
theorem ce_sl {r : V → Option Int → Option Int → Hp → VK → Prop} {g : D → Option Int → Option Int → Store → Option (D × Store)} (hr : SlR X r) (hs : SlS X.K r g) (ha : PE X a (Te X.K X.mg W fa)) (hl : PO X lo (To X.K X.mg W ol)) (hu : PO X hi (To X.K X.mg W oh)) :
    PE X (.Subscript a (.Slice lo hi none p2) pos) (Te X.K X.mg W (eSl g fa ol oh)) :=
  PE.imp (pe_slice hr ha hl hu) fun σ H Q h => Tm.bind (k := fun env x s => (ol env s).bind fun l s => (oh env s).bind fun u s => R.of (g x l u s)) h fun m1 H1 env x v s1 r1 E1 p1 g1 =>
    ⟨m1, env, s1, r1, E1, G.bind g1 fun m2 H2 l l' s2 l2 r2 p2 g2 => ⟨m2, env, s2, r2, E1.mono l2, G.bind g2 fun m3 H3 u u' s3 l3 r3 p3 g3 => by
      cases (show l = l' from p2); cases (show u = u' from p3)
      exact hs r3 ((p1.mono l2).mono l3) g3⟩⟩
end
/-! #### calls of builtins -/
section
variable {K : PySem.W.Frag}
def dLen : List D → Store → Option (D × Store)
  | [.str z], s => if z.length ≤ sizeLine then some (.int z.length, s) else none
  | [x], s => (seqOf s x).map fun xs => (.int xs.length, s)
  | _, _ => none
theorem fns_len : FnS K (fun xs H Q => ∃ x n, xs = [x] ∧ LenV K x H n ∧ Q (.int n) H) dLen := by
  intro mg W σ m H s xs ds Q r p g
  cases p with
  | nil => exact g.elim
  | @cons d v ds2 vs2 h p =>
    cases p with
    | cons h2 p2 => cases d <;> exact g.elim
    | nil =>
      have seq : ∀ xs, seqOf s d = some xs → G K mg (Rep K) W σ m H Q (.ok (.int xs.length) s) → ∃ x n, [v] = [x] ∧ LenV K x H n ∧ Q (.int n) H := by
        intro xs e q
        obtain ⟨a, vs, rfl, hq, rr⟩ := seqOf_sq r h e
        refine ⟨.ref a, xs.length, rfl, ?_, q.now r (.int _)⟩
        rcases hq with hq | hq
        · exact .inl ⟨vs, hq, rr.length⟩
        · exact .inr ⟨vs, hq, rr.length⟩
      have gen : (∀ z, d ≠ .str z) → ∃ x n, [v] = [x] ∧ LenV K x H n ∧ Q (.int n) H := by
        intro hn
        have e : dLen [d] s = (seqOf s d).map fun xs => (.int xs.length, s) := by cases d <;> first | rfl | exact (hn _ rfl).elim
        rw [e] at g
        cases q : seqOf s d with
        | none => rw [q] at g; exact g.elim
        | some xs => rw [q] at g; exact seq xs q g
      cases d with
      | str z =>
        cases h
        by_cases hz : z.length ≤ sizeLine
        · simp [dLen, hz] at g
          exact ⟨.str z, z.length, rfl, ⟨hz, rfl⟩, g.now r (.int _)⟩
        · simp [dLen, hz] at g; exact g.elim
      | _ => exact gen (fun z e => by cases e)
def dInt : List D → Store → Option (D × Store)
  | [.int i], s => some (.int i, s)
  | [.bl k], s => some (.int (if k then 1 else 0), s)
  | _, _ => none
theorem reps1 {m : List Addr} {H : Hp} {d : D} {xs : List V} (p : Reps K m H [d] xs) : ∃ v, xs = [v] ∧ Rep K m H d v := by
  cases p with
  | cons h p => cases p; exact ⟨_, rfl, h⟩
theorem reps2 {m : List Addr} {H : Hp} {d e : D} {xs : List V} (p : Reps K m H [d, e] xs) : ∃ v w, xs = [v, w] ∧ Rep K m H d v ∧ Rep K m H e w := by
  cases p with
  | cons h p =>
    obtain ⟨w, rfl, q⟩ := reps1 p
    exact ⟨_, w, rfl, h, q⟩
theorem fns_int : FnS K (fun xs H Q => (∃ i, xs = [.int i] ∧ Q (.int i) H) ∨ ∃ k, xs = [.bl k] ∧ Q (.int (if k then 1 else 0)) H) dInt := by
  intro mg W σ m H s xs ds Q r p g
  unfold dInt at g
  split at g
  · obtain ⟨v, rfl, h⟩ := reps1 p
    cases h
    exact .inl ⟨_, rfl, g.now r (.int _)⟩
  · obtain ⟨v, rfl, h⟩ := reps1 p
    cases h
    exact .inr ⟨_, rfl, g.now r (.int _)⟩
  · exact g.elim
def dAbs : List D → Store → Option (D × Store)
  | [.int i], s => some (.int (if i < 0 then -i else i), s)
  | _, _ => none
theorem fns_abs : FnS K (fun xs H Q => ∃ i, xs = [.int i] ∧ Q (.int (if i < 0 then -i else i)) H) dAbs := by
  intro mg W σ m H s xs ds Q r p g
  unfold dAbs at g
  split at g
  · obtain ⟨v, rfl, h⟩ := reps1 p
    cases h
    exact ⟨_, rfl, g.now r (.int _)⟩
  · exact g.elim
def dMax2 : List D → Store → Option (D × Store)
  | [.int i, .int j], s => some (.int (if j > i then j else i), s)
  | _, _ => none
theorem fns_max2 : FnS K (fun xs H Q => ∃ i j, xs = [.int i, .int j] ∧ Q (.int (if j > i then j else i)) H) dMax2 := by
  intro mg W σ m H s xs ds Q r p g
  unfold dMax2 at g
  split at g
  · obtain ⟨v, w, rfl, h, h2⟩ := reps2 p
    cases h; cases h2
    exact ⟨_, _, rfl, g.now r (.int _)⟩
  · exact g.elim
def dMin2 : List D → Store → Option (D × Store)
  | [.int i, .int j], s => some (.int (if j < i then j else i), s)
  | _, _ => none
theorem fns_min2 : FnS K (fun xs H Q => ∃ i j, xs = [.int i, .int j] ∧ Q (.int (if j < i then j else i)) H) dMin2 := by
  intro mg W σ m H s xs ds Q r p g
  unfold dMin2 at g
  split at g
  · obtain ⟨v, w, rfl, h, h2⟩ := reps2 p
    cases h; cases h2
    exact ⟨_, _, rfl, g.now r (.int _)⟩
  · exact g.elim
/-- all ints -/
def intsOf : List D → Option (List Int)
  | [] => some []
  | .int i :: r => (intsOf r).map fun x => i :: x
  | _ :: _ => none
theorem intsOf_map (ns : List Int) : intsOf (ns.map D.int) = some ns := by
  induction ns with
  | nil => rfl
  | cons n ns ih => simp [intsOf, ih]
theorem of_intsOf : ∀ {ds : List D} {ns : List Int}, intsOf ds = some ns → ds = ns.map D.int
  | [], _, e => by cases e; rfl
  | d :: ds, ns, e => by
    cases d with
    | int i =>
      unfold intsOf at e
      cases q : intsOf ds with
      | none => rw [q] at e; cases e
      | some x => rw [q] at e; cases e; rw [List.map_cons, of_intsOf q]
    | _ => cases e
def dSum : List D → Store → Option (D × Store)
  | [x], s => (lstOf s x).bind fun xs => (intsOf xs).map fun ns => (.int ns.sum, s)
  | _, _ => none
theorem fns_sum : FnS K (rSum K) dSum := by
  intro mg W σ m H s xs ds Q r p g
  unfold dSum at g
  split at g
  · obtain ⟨v, rfl, h⟩ := reps1 p
    rename_i x
    cases q : lstOf s x with
    | none => rw [q] at g; exact g.elim
    | some ys =>
      rw [q] at g
      cases q2 : intsOf ys with
      | none => simp [q2] at g; exact g.elim
      | some ns =>
        simp [q2] at g
        obtain ⟨a, vs, rfl, hq, rr⟩ := lstOf_sq r h q
        rw [of_intsOf q2] at rr
        have e := rr.ints
        subst e
        exact ⟨a, ns, rfl, hq, g.now r (.int _)⟩
  · exact g.elim
def dTuple : List D → Store → Option (D × Store)
  | [x], s => (seqOf s x).map fun xs => (.tup xs, s)
  | _, _ => none
theorem fns_tuple : FnS K (fun xs H Q => ∃ p ys, xs = [.ref p] ∧ ((SqL K H p ys ∧ ∀ l, H l = none → Q (.ref l) (upd H l (.tup ys))) ∨ (SqT K H p ys ∧ Q (.ref p) H))) dTuple := by
  intro mg W σ m H s xs ds Q r p g
  unfold dTuple at g
  split at g
  · obtain ⟨v, rfl, h⟩ := reps1 p
    rename_i x
    cases q : seqOf s x with
    | none => rw [q] at g; exact g.elim
    | some ys =>
      rw [q] at g
      have g' : G K mg (Rep K) W σ m H Q (.ok (.tup ys) s) := g
      have gen : (∀ zs, x ≠ .tup zs) → ∃ p ys, [v] = [V.ref p] ∧ ((SqL K H p ys ∧ ∀ l, H l = none → Q (.ref l) (upd H l (.tup ys))) ∨ (SqT K H p ys ∧ Q (.ref p) H)) := fun hn => by
        have q' : lstOf s x = some ys := by cases x <;> first | exact q | exact (hn _ rfl).elim
        obtain ⟨a, vs, rfl, hq, rr⟩ := lstOf_sq r h q'
        exact ⟨a, vs, rfl, .inl ⟨hq, fun l hl => g' m _ _ (le_new hl) (r.tmp hl) (rep_newtup hl rr)⟩⟩
      cases x with
      | tup zs =>
        cases q
        obtain ⟨a, vs, rfl, hq, rr⟩ := h.sqT
        exact ⟨a, vs, rfl, .inr ⟨hq, g'.now r h⟩⟩
      | _ => exact gen fun _ e => by cases e
  · exact g.elim
def dList : List D → Store → Option (D × Store)
  | [x], s => (seqOf s x).map fun xs => (.loc s.length, s ++ [.lst xs])
  | _, _ => none
theorem fns_list : FnS K (fun xs H Q => ∃ p ys, xs = [.ref p] ∧ (SqL K H p ys ∨ SqT K H p ys) ∧ ∀ l, H l = none → Q (.ref l) (upd H l (.lst ys))) dList := by
  intro mg W σ m H s xs ds Q r p g
  unfold dList at g
  split at g
  · obtain ⟨v, rfl, h⟩ := reps1 p
    rename_i x
    cases q : seqOf s x with
    | none => rw [q] at g; exact g.elim
    | some ys =>
      rw [q] at g
      have g' : G K mg (Rep K) W σ m H Q (.ok (.loc s.length) (s ++ [.lst ys])) := g
      obtain ⟨a, vs, rfl, hq, rr⟩ := seqOf_sq r h q
      exact ⟨a, vs, rfl, hq, fun l hl => g' (m ++ [l]) _ _ (le_more r hl) (rel_newlist r hl rr) (.loc (len_get r))⟩
  · exact g.elim
/-! #### isinstance(x, T), T a built-in type -/
def tyN (s : Store) : D → Option String
  | .non => some "NoneType"
  | .bl _ => some "bool"
  | .int _ => some "int"
  | .str _ => some "str"
  | .tup _ => some "tuple"
  | .fl _ => some "list"
  | .loc l => match s[l]? with
    | some (.lst _) => some "list"
    | some (.dic _) => some "dict"
    | some (.dct _) => some "dict"
    | none => none
  | .exv _ _ _ _ => none
theorem tyN_tyx {m : List Addr} {H : Hp} {s : Store} (r : Rel K m H s) {d : D} {v : V} {t : String} (p : Rep K m H d v) (e : tyN s d = some t) : TyX K H v (.type t) := by
  cases p with
  | non => cases e; exact .base .non
  | bl b => cases e; exact .base (.bl b)
  | int b => cases e; exact .base (.int b)
  | str b => cases e; exact .base (.str b)
  | tup h q =>
    have e' : t = "tuple" := (Option.some.inj e).symm
    subst e'
    exact .base (.tup h)
  | fl h q =>
    cases e
    rcases h with ⟨o, h⟩ | ⟨o, _, _, h1, h2, _⟩
    · exact .base (.frz h)
    · exact .kList h1 h2
  | @loc l a h =>
    unfold tyN at e
    cases q : s[l]? with
    | none => simp [q] at e
    | some c =>
      cases c with
      | lst xs => simp [q] at e; subst e; obtain ⟨vs, h1, _⟩ := r.list h q; exact .base (.lst h1)
      | dic xs => simp [q] at e; subst e; obtain ⟨vs, h1, _⟩ := r.at_ l a _ h q; exact .base (.dK h1)
      | dct xs => simp [q] at e; subst e; obtain ⟨vs, h1, _⟩ := r.at_ l a _ h q; exact .base (.dT h1)
  | exv h n r => cases e
def dIsi (T : String) (x : D) (s : Store) : Option (D × Store) := (tyN s x).bind fun t => (kitB t T).map fun b => (.bl b, s)
end
section
variable {X : Cx} {W : WX} {pos p p2 : Pos} {a b c e : Expr} {es : List Expr} {fa fb fc : ME D} {ga gb : ME Bool} {fs : ME (List D)}
theorem ce_isi {T : String} (hg : Gl X "isinstance") (hm : X.mg "isinstance" = none) (hgT : Gl X (T : Str)) (hmT : X.mg (T : Str) = none) (hvT : bootBuiltins (T : Str) = some (.type T)) (ha : PE X a (Te X.K X.mg W fa))
    (hnT : (T : Str) ≠ "__name__" := by decide) (hdT : ((T : Str) == ("__debug__" : Str)) = false := by decide)
    (hv : bootBuiltins "isinstance" = some (.builtin "isinstance") := by decide +kernel) (he : starEach [a, .Name T p2] X.env = (false, eval a X.env) :: starEach [.Name T p2] X.env := by rfl)
    (he2 : starEach [.Name T p2] X.env = (false, eval (.Name T p2) X.env) :: starEach [] X.env := by rfl)
    (hpl : (backTo pos (starEach [.Name T p2] X.env)).any (·.1) = false := by rfl) : PE X (.Call (.Name "isinstance" p) [a, .Name T p2] [] pos) (Te X.K X.mg W (e1 (dIsi T) fa)) :=
  PE.imp (pe_callB call_isi hg hm hv (pa_cons ha (pa_cons (pe_bltn (v := .ty T) hgT hmT hvT rfl hnT hdT) pa_nil he2) he) (by decide) (by decide) he hpl) fun σ H Q h =>
    Tm.bind (k := fun _ x s => R.of (dIsi T x s)) h fun m1 H1 env x v s1 r1 E1 p1 g1 => by
      unfold dIsi at g1
      cases q : tyN s1 x with
      | none => rw [q] at g1; exact g1.elim
      | some t =>
        rw [q] at g1
        cases q2 : kitB t T with
        | none => simp [q2] at g1; exact g1.elim
        | some k =>
          simp [q2] at g1
          exact ⟨v, .ty T, .type t, .type T, k, rfl, .ty T, tyN_tyx r1 p1 q, kit_ty q2, g1.now r1 (.bl _)⟩
/-! #### methods of builtin types -/
def tyOk (T : String) (s : Store) : D → Bool
  | .str _ => T == "str"
  | .int _ => T == "int"
  | .loc l => match s[l]? with
    | some (.lst _) => T == "list"
    | some (.dic _) => T == "dict"
    | some (.dct _) => T == "dict"
    | none => false
  | .fl _ => T == "list"
  | _ => false
theorem tyOk_tyV {T : String} {m : List Addr} {H : Hp} {s : Store} {K : PySem.W.Frag} (r : Rel K m H s) {d : D} {v : V} (p : Rep K m H d v) (e : tyOk T s d = true) : tyV K T v H := by
  cases p with
  | str b => exact beq_iff_eq.mp e
  | int b => exact beq_iff_eq.mp e
  | fl h q => exact .inl ⟨beq_iff_eq.mp e, _, h.sq⟩
  | @loc l a h =>
    unfold tyOk at e
    cases q : s[l]? with
    | none => simp [q] at e
    | some c =>
      cases c with
      | lst xs => simp [q] at e; obtain ⟨vs, h1, _⟩ := r.list h q; exact .inl ⟨e, vs, .inl (.inl h1)⟩
      | dic xs => simp [q] at e; obtain ⟨vs, h1, _⟩ := r.at_ l a _ h q; exact .inr (.inr (.inl ⟨e, .inl ⟨vs, h1⟩⟩))
      | dct xs => simp [q] at e; obtain ⟨vs, h1, _⟩ := r.at_ l a _ h q; exact .inr (.inr (.inl ⟨e, .inr ⟨vs, h1⟩⟩))
  | _ => cases e
def eMt (T : String) (g : D → List D → Store → Option (D × Store)) (a : ME D) (fs : ME (List D)) : ME D := fun env s => (a env s).bind fun x s => if tyOk T s x = true then (fs env s).bind fun xs s => R.of (g x xs s) else .no
def eMt0 (T : String) (g : D → List D → Store → Option (D × Store)) (a : ME D) : ME D := fun env s => (a env s).bind fun x s => if tyOk T s x = true then R.of (g x [] s) else .no
def MtS (K : PySem.W.Frag) (r : V → List V → Hp → VK → Prop) (g : D → List D → Store → Option (D × Store)) : Prop :=
  ∀ {mg : Str → Option Value} {W : WX} {σ : L2.St} {m : List Addr} {H : Hp} {s : Store} {x : V} {d : D} {xs : List V} {ds : List D} {Q : VK}, Rel K m H s → Rep K m H d x → Reps K m H ds xs → G K mg (Rep K) W σ m H Q (R.of (g d ds s)) → r x xs H Q
variable {o : Expr} {T id : String} {name : Str} {apos cpos : Pos} {r : V → List V → Hp → VK → Prop} {g : D → List D → Store → Option (D × Store)} {fo : ME D}
theorem ce_bm0 (pa : PlainAttrs T) (slot : Slot T name id) (hty : typeOf (.builtin id) = pure (.type "method_descriptor")) (hm : MtR X id r) (hs : MtS X.K r g) (ho : PE X o (Te X.K X.mg W fo))
    (hbase : attributeBase o name X.env (eval o X.env) = eval o X.env := by rfl) (hline : (apos.endLine == cpos.line) = true := by rfl) : PE X (.Call (.Attribute o name apos) [] [] cpos) (Te X.K X.mg W (eMt0 T g fo)) :=
  PE.imp (pe_bm0 pa slot hty hm ho hbase hline) fun σ H Q h => Tm.bind (k := fun env x s => if tyOk T s x = true then R.of (g x [] s) else R.no) h fun m1 H1 env x v s1 r1 E1 p1 g1 => by
    by_cases q : tyOk T s1 x = true
    · simp only [q, if_true] at g1
      exact ⟨tyOk_tyV r1 p1 q, hs r1 p1 .nil g1⟩
    · simp only [q, if_false] at g1
      exact g1.elim
theorem ce_bm (pa : PlainAttrs T) (slot : Slot T name id) (hty : typeOf (.builtin id) = pure (.type "method_descriptor")) (hm : MtR X id r) (hs : MtS X.K r g) (ho : PE X o (Te X.K X.mg W fo)) (ha : PA X (e :: es) (Ta X.K X.mg W fs))
    (hbase : attributeBase o name X.env (eval o X.env) = eval o X.env := by rfl)
    (hfew : ((backTo cpos (starEach (e :: es) X.env)).all (fun x => !x.1) && (backToKw cpos (keywordEach [] X.env)).all (fun x => x.1.isSome)
      && decide ((e :: es).length + ([] : List Keyword).length + (if ([] : List Keyword).isEmpty then 0 else 1) < 30)) = true := by rfl)
    (hline : (apos.endLine == cpos.line) = true := by rfl) (hst : starEach (e :: es) X.env = (false, eval e X.env) :: starEach es X.env := by rfl) (hplain : (backTo cpos (starEach es X.env)).any (·.1) = false := by rfl) :
    PE X (.Call (.Attribute o name apos) (e :: es) [] cpos) (Te X.K X.mg W (eMt T g fo fs)) :=
  PE.imp (pe_bm pa slot hty hm ho ha hbase hfew hline hst hplain) fun σ H Q h => Tm.bind (k := fun env x s => if tyOk T s x = true then (fs env s).bind fun xs s => R.of (g x xs s) else R.no) h fun m1 H1 env x v s1 r1 E1 p1 g1 => by
    by_cases q : tyOk T s1 x = true
    · simp only [q, if_true] at g1
      exact ⟨tyOk_tyV r1 p1 q, ⟨m1, env, s1, r1, E1, G.bind g1 fun m2 H2 xs vs s2 l2 r2 p2 g2 => hs r2 (p1.mono l2) p2 g2⟩⟩
    · simp only [q, if_false] at g1
      exact g1.elim
end
section
variable {K : PySem.W.Frag}
theorem le_setlist {m : List Addr} {H : Hp} {s : Store} (r : Rel K m H s) {l : Nat} {a : Addr} (h : m[l]? = some a) {vs : List V} {xs : List D} (p : Reps K m H xs vs) : Le K m H m (upd H a (.lst vs)) ∧ Rel K m (upd H a (.lst vs)) (s.set l (.lst xs)) :=
  have le := le_put (o := .lst vs) r (List.mem_of_getElem? h)
  ⟨le, r.put h ⟨vs, upd_same, p.mono le⟩⟩
def dAppend (x : D) (ys : List D) (s : Store) : Option (D × Store) := match x, ys with
  | .loc l, [y] => match s[l]? with
    | some (.lst xs) => if xs.length < sizeLine then some (.non, s.set l (.lst (xs ++ [y]))) else none
    | _ => none
  | _, _ => none
theorem mts_append : MtS K rAppend dAppend := by
  intro mg W σ m H s x d xs ds Q r p ps g
  unfold dAppend at g
  split at g
  · rename_i l y
    obtain ⟨w, rfl, h⟩ := reps1 ps
    cases p with
    | loc hl =>
      split at g
      · rename_i ys q
        split at g
        · rename_i hz
          obtain ⟨vs, h1, h2⟩ := r.list hl q
          obtain ⟨le, r2⟩ := le_setlist r hl (h2.append (.cons h .nil))
          exact ⟨_, vs, w, rfl, rfl, h1, by rw [← h2.length]; exact hz, g m _ _ le r2 .non⟩
        · exact g.elim
      · exact g.elim
  · exact g.elim
def dPop (x : D) (ys : List D) (s : Store) : Option (D × Store) := match x, ys with
  | .loc l, [] => match s[l]? with
    | some (.lst xs) => (xs[xs.length - 1]?).map fun y => (y, s.set l (.lst xs.dropLast))
    | _ => none
  | _, _ => none
theorem mts_pop : MtS K rPop dPop := by
  intro mg W σ m H s x d xs ds Q r p ps g
  unfold dPop at g
  split at g
  · rename_i l
    cases ps
    cases p with
    | loc hl =>
      split at g
      · rename_i ys q
        cases q2 : ys[ys.length - 1]? with
        | none => rw [q2] at g; exact g.elim
        | some y =>
          rw [q2] at g
          obtain ⟨vs, h1, h2⟩ := r.list hl q
          obtain ⟨v, hv, rv⟩ := h2.get q2
          obtain ⟨le, r2⟩ := le_setlist r hl h2.dropLast
          exact ⟨_, vs, v, rfl, rfl, h1, by rw [← h2.length]; exact hv, g m _ _ le r2 (rv.mono le)⟩
      · exact g.elim
  · exact g.elim
end
end Mi
namespace Mi
open PySem PySem.Spec PyProof.Rows L2
/-! ### targets -/
def gN (i : Nat) : D → Sl → Option Sl := fun d env => some (env.set i (some d))
def gsN : List D → Sl → Option Sl := fun xs env => match xs with
  | [] => some env
  | _ => none
def gsC (g : D → Sl → Option Sl) (r : List D → Sl → Option Sl) : List D → Sl → Option Sl := fun xs env => match xs with
  | x :: xs => (g x env).bind (r xs)
  | [] => none
def gT (n : Nat) (r : List D → Sl → Option Sl) : D → Sl → Option Sl := fun d env => match d with
  | .tup xs => if xs.length = n then r xs env else none
  | _ => none
def GTm (K : PySem.W.Frag) (vs : List Nat) (g : D → Sl → Option Sl) : TG := fun v σ H Q =>
  ∃ m env s d env', Rel K m H s ∧ RelE K m H env σ ∧ Rep K m H d v ∧ g d env = some env' ∧ ∀ σ', RelE K m H env' σ' → (∀ i, i ∉ vs → σ'[i]? = σ[i]?) → σ'.length = σ.length → Q σ' H
def GTs (K : PySem.W.Frag) (vs : List Nat) (g : List D → Sl → Option Sl) : TGs := fun xs σ H Q =>
  ∃ m env s ds env', Rel K m H s ∧ RelE K m H env σ ∧ Reps K m H ds xs ∧ g ds env = some env' ∧ ∀ σ', RelE K m H env' σ' → (∀ i, i ∉ vs → σ'[i]? = σ[i]?) → σ'.length = σ.length → Q σ' H
theorem relE_set {K : PySem.W.Frag} {m : List Addr} {H : Hp} {env : Sl} {σ : L2.St} (E : RelE K m H env σ) {d : D} {v : V} (p : Rep K m H d v) (i : Nat) : RelE K m H (env.set i (some d)) (σ.set i (some v)) := by
  refine ⟨by simp [E.1], fun j d' h => ?_⟩
  by_cases hj : i = j
  · subst hj
    by_cases hi : i < env.length
    · rw [List.getElem?_set_self hi] at h
      cases h
      exact ⟨v, by rw [List.getElem?_set_self (by rw [← E.1]; exact hi)], p⟩
    · rw [List.getElem?_eq_none (by simpa using hi)] at h; cases h
  · rw [List.getElem?_set_ne hj] at h
    rw [List.getElem?_set_ne hj]
    exact E.2 j d' h
section
variable {X : Cx} {pos : Pos}
theorem PG.imp {e : Expr} {t t' : TG} (h : PG X e t) (i : ∀ v σ H Q, t' v σ H Q → t v σ H Q) : PG X e t' := ⟨fun pins s σ H v u Q I r q => h.run pins s σ H v u Q I r (i v σ H Q q)⟩
theorem PGs.imp {e : List Expr} {t t' : TGs} (h : PGs X e t) (i : ∀ v σ H Q, t' v σ H Q → t v σ H Q) : PGs X e t' := ⟨fun pins s σ H v u Q I r q => h.run pins s σ H v u Q I r (i v σ H Q q)⟩
theorem cg_name {i : Nat} {x : Str} (hN : X.N.Nodup) (hi : X.N[i]? = some x) (hx : Loc X.env.scope x) (hf : X.fn x = true ∨ X.env.scope.names.lookup x = some .local := by first | exact .inl rfl | exact .inr rfl | assumption) : PG X (.Name x pos) (GTm X.K [i] (gN i)) :=
  PG.imp (pg_name hN hi hx hf) fun v σ H Q ⟨m, env, s, d, env', r, E, p, e, q⟩ => by
    cases e
    exact q _ (relE_set E p i) (fun j hj => List.getElem?_set_ne (by simpa [eq_comm] using hj)) (by simp)
theorem cgs_nil {vs : List Nat} : PGs X [] (GTs X.K vs gsN) := PGs.imp pgs_nil fun v σ H Q ⟨m, env, s, ds, env', r, E, p, e, q⟩ => by
  cases ds with
  | nil => cases e; cases p; exact ⟨rfl, q σ E (fun _ _ => rfl) rfl⟩
  | cons _ _ => cases e
theorem cgs_cons {e : Expr} {es : List Expr} {g : D → Sl → Option Sl} {r : List D → Sl → Option Sl} {vs ws us : List Nat} (h1 : PG X e (GTm X.K vs g)) (h2 : PGs X es (GTs X.K ws r)) (hv : ∀ i, i ∈ vs ∨ i ∈ ws → i ∈ us := by simp)
    (hs : (assignEach (e :: es) X.env).map (·.2) = assign e X.env :: (assignEach es X.env).map (·.2) := by rfl) : PGs X (e :: es) (GTs X.K us (gsC g r)) :=
  PGs.imp (pgs_cons h1 h2 hs) fun v σ H Q ⟨m, env, s, ds, env', rl, E, p, e, q⟩ => by
    cases ds with
    | nil => cases e
    | cons d ds =>
      cases p with
      | cons pd p =>
        have e : (g d env).bind (r ds) = some env' := e
        cases q1 : g d env with
        | none => rw [q1] at e; cases e
        | some env1 =>
          rw [q1] at e
          refine ⟨_, _, rfl, m, env, s, d, env1, rl, E, pd, q1, fun σ1 E1 k1 n1 => ⟨m, env1, s, ds, env', rl, E1, p, e, fun σ2 E2 k2 n2 => q σ2 E2 (fun i hi => ?_) (n2.trans n1)⟩⟩
          rw [k2 i (fun z => hi (hv i (.inr z))), k1 i (fun z => hi (hv i (.inl z)))]
theorem cg_tup {es : List Expr} {k n : Nat} {r : List D → Sl → Option Sl} {vs : List Nat} (hc : X.calm = true) (h : PGs X es (GTs X.K vs r)) (hn : (assignEach es X.env).length = n := by rfl) (hst : (assignEach es X.env).findIdx? (·.1) = none := by rfl) :
    PG X (.Tuple es k pos) (GTm X.K vs (gT n r)) := PG.imp (pg_tup (n := n) hc h hn hst) fun v σ H Q ⟨m, env, s, d, env', rl, E, p, e, q⟩ => by
  cases d with
  | tup xs =>
    obtain ⟨a, ws, rfl, hq, rr⟩ := p.sqT
    have e : (if xs.length = n then r xs env else none) = some env' := e
    split at e
    · rename_i hl
      exact ⟨a, ws, rfl, hq, by rw [← rr.length]; exact hl, m, env, s, xs, env', rl, E, rr, e, q⟩
    · cases e
  | _ => cases e
end
/-! ### statements -/
abbrev MS := Sl → Store → RS
section
variable (K : PySem.W.Frag) (mg : Str → Option Value)
def GS (W : WX) (Dn : Ends) (m : List Addr) (H : Hp) : RS → Prop
  | .nx env s => ∀ m' σ' H', Le K m H m' H' → Rel K m' H' s → RelE K m' H' env σ' → Dn.nx σ' H'
  | .rt d s => ∀ m' H' v, Le K m H m' H' → Rel K m' H' s → Rep K m' H' d v → Dn.rt v H'
  | .bk env s => ∀ m' σ' H', Le K m H m' H' → Rel K m' H' s → RelE K m' H' env σ' → Dn.bk σ' H'
  | .ct env s => ∀ m' σ' H', Le K m H m' H' → Rel K m' H' s → RelE K m' H' env σ' → Dn.ct σ' H'
  | .ex e env s => ∀ m' σ' H' c dd, Le K m H m' H' → Rel K m' H' s → RelE K m' H' env σ' → ExR K mg m' H' e c dd → W c dd σ' H'
  | .no => False
def Ts (W : WX) (f : MS) : TS := fun Dn σ H => ∃ m env s, Rel K m H s ∧ RelE K m H env σ ∧ GS K mg W Dn m H (f env s)
end
def RS.bind (r : RS) (k : Sl → Store → RS) : RS := match r with
  | .nx env s => k env s
  | r => r
/-- behind an expression -/
def R.then {α : Type} (r : R α) (env : Sl) (k : α → Store → RS) : RS := match r with
  | .ok a s => k a s
  | .ex e s => .ex e env s
  | .no => .no
@[simp] theorem RS.bind_nx (env : Sl) (s : Store) (k : Sl → Store → RS) : (RS.nx env s).bind k = k env s := rfl
@[simp] theorem RS.bind_rt (d : D) (s : Store) (k : Sl → Store → RS) : (RS.rt d s).bind k = .rt d s := rfl
@[simp] theorem RS.bind_bk (env : Sl) (s : Store) (k : Sl → Store → RS) : (RS.bk env s).bind k = .bk env s := rfl
@[simp] theorem RS.bind_ct (env : Sl) (s : Store) (k : Sl → Store → RS) : (RS.ct env s).bind k = .ct env s := rfl
@[simp] theorem RS.bind_ex (e : Ex) (env : Sl) (s : Store) (k : Sl → Store → RS) : (RS.ex e env s).bind k = .ex e env s := rfl
@[simp] theorem RS.bind_no (k : Sl → Store → RS) : (RS.no).bind k = .no := rfl
@[simp] theorem R.then_ok {α : Type} (a : α) (s : Store) (env : Sl) (k : α → Store → RS) : (R.ok a s).then env k = k a s := rfl
@[simp] theorem R.then_ex {α : Type} (e : Ex) (s : Store) (env : Sl) (k : α → Store → RS) : (R.ex e s : R α).then env k = .ex e env s := rfl
@[simp] theorem R.then_no {α : Type} (env : Sl) (k : α → Store → RS) : (R.no : R α).then env k = .no := rfl
def sNil : MS := fun env s => .nx env s
def sSeq (f g : MS) : MS := fun env s => (f env s).bind g
def sSet (i : Nat) (e : ME D) : MS := fun env s => (e env s).then env fun d s => .nx (env.set i (some d)) s
def sAsg (g : D → Sl → Option Sl) (e : ME D) : MS := fun env s => (e env s).then env fun d s => match g d env with
  | some env' => .nx env' s
  | none => .no
def sIf (c : ME Bool) (f g : MS) : MS := fun env s => (c env s).then env fun b s => if b then f env s else g env s
def sRet (e : ME D) : MS := fun env s => (e env s).then env fun d s => .rt d s
def sRetN : MS := fun _ s => .rt .non s
def sExpr (e : ME D) : MS := fun env s => (e env s).then env fun _ s => .nx env s
def sBrk : MS := fun env s => .bk env s
def sCnt : MS := fun env s => .ct env s
/-- o[i] = e: e, o, i in this sequence -/
def sPut (g : D → D → D → Store → Option Store) (o i e : ME D) : MS := fun env s => (e env s).then env fun d s => (o env s).then env fun x s => (i env s).then env fun y s => match g x y d s with
  | some s' => .nx env s'
  | none => .no
/-- name op= e -/
def sAug (i : Nat) (g : D → D → Store → Option (D × Store)) (e : ME D) : MS := fun env s => match env[i]? with
  | some (some x) => (e env s).then env fun y s => match g x y s with
    | some (z, s') => .nx (env.set i (some z)) s'
    | none => .no
  | _ => .no
structure Itm where
  xs : List D
  guard : Store → Prop
open Classical in
noncomputable def forL (guard : Store → Prop) (g : D → Sl → Option Sl) (b : MS) : List D → Sl → Store → RS
  | [], env, s => if guard s then .nx env s else .no
  | x :: xs, env, s => if guard s then (match g x env with
    | none => .no
    | some env1 => match b env1 s with
      | .nx env2 s2 => forL guard g b xs env2 s2
      | .ct env2 s2 => forL guard g b xs env2 s2
      | .bk env2 s2 => .nx env2 s2
      | .rt d s2 => .rt d s2
      | .ex e env2 s2 => .ex e env2 s2
      | .no => .no) else .no
noncomputable def sFor (it : ME Itm) (g : D → Sl → Option Sl) (b : MS) : MS := fun env s => (it env s).then env fun i s => forL i.guard g b i.xs env s
def whileN (c : ME Bool) (b : MS) : Nat → Sl → Store → RS
  | 0, _, _ => .no
  | n + 1, env, s => (c env s).then env fun k s => if k then (match b env s with
      | .nx env2 s2 => whileN c b n env2 s2
      | .ct env2 s2 => whileN c b n env2 s2
      | .bk env2 s2 => .nx env2 s2
      | .rt d s2 => .rt d s2
      | .ex e env2 s2 => .ex e env2 s2
      | .no => .no) else .nx env s
open Classical in
/-- a while: some number of turns is enough -/
noncomputable def sWhile (c : ME Bool) (b : MS) : MS := fun env s => if h : ∃ n, whileN c b n env s ≠ .no then whileN c b (Classical.choose h) env s else .no
section
variable {K : PySem.W.Frag} {mg : Str → Option Value} {m m1 : List Addr} {H H1 : Hp} {s : Store} {W : WX} {σ : L2.St} {Dn : Ends}
theorem GS.mono (e : Le K m H m1 H1) {r : RS} (h : GS K mg W Dn m H r) : GS K mg W Dn m1 H1 r := by
  cases r with
  | nx env s => exact fun m' σ' H' l => h m' σ' H' (e.trans l)
  | rt d s => exact fun m' σ' H' l => h m' σ' H' (e.trans l)
  | bk env s => exact fun m' σ' H' l => h m' σ' H' (e.trans l)
  | ct env s => exact fun m' σ' H' l => h m' σ' H' (e.trans l)
  | ex x env s => exact fun m' σ' H' c d l => h m' σ' H' c d (e.trans l)
  | no => exact h
/-- an expression first -/
theorem GS.ofE {α β : Type} {ρ : List Addr → Hp → α → β → Prop} {r : R α} {env : Sl} {k : α → Store → RS} {Q : β → Hp → Prop} (E : RelE K m H env σ) (h : GS K mg W Dn m H (r.then env k))
    (q : ∀ m1 H1 a b s1, Le K m H m1 H1 → Rel K m1 H1 s1 → ρ m1 H1 a b → GS K mg W Dn m1 H1 (k a s1) → Q b H1) : G K mg ρ W σ m H Q r := by
  cases r with
  | ok a s => exact fun m' H' b l r p => q m' H' a b s l r p (GS.mono l h)
  | ex x s => exact fun m' H' c d l r p => h m' σ H' c d l r (E.mono l) p
  | no => exact h
theorem Ts.ofE {α β : Type} {ρ : List Addr → Hp → α → β → Prop} {f : Sl → Store → R α} {k : Sl → α → Store → RS} {Q : β → Hp → Prop} (h : Ts K mg W (fun env s => (f env s).then env (k env)) Dn σ H)
    (q : ∀ m1 H1 env a b s1, Rel K m1 H1 s1 → RelE K m1 H1 env σ → ρ m1 H1 a b → GS K mg W Dn m1 H1 (k env a s1) → Q b H1) : Tm K mg ρ W f σ H Q := by
  obtain ⟨m, env, s, r, E, g⟩ := h
  exact ⟨m, env, s, r, E, GS.ofE E g fun m1 H1 a b s1 l r1 p g1 => q m1 H1 env a b s1 r1 (E.mono l) p g1⟩
end
section
variable {X : Cx} {W : WX} {pos : Pos} {e o i c tg iter : Expr} {st : Stmt} {rest body els : List Stmt} {fe fo fi : ME D} {gc : ME Bool} {f g : MS}
theorem css_nil : PSs X [] (Ts X.K X.mg W sNil) := PSs.imp pss_nil fun Dn σ H ⟨m, env, s, r, E, q⟩ => q m σ H .refl r E
theorem css_cons (h1 : PS X st (Ts X.K X.mg W f)) (h2 : PSs X rest (Ts X.K X.mg W g)) : PSs X (st :: rest) (Ts X.K X.mg W (sSeq f g)) :=
  PSs.imp (pss_cons h1 h2) fun Dn σ H ⟨m, env, s, r, E, q⟩ => by
    refine ⟨m, env, s, r, E, ?_⟩
    unfold sSeq at q
    cases hf : f env s with
    | nx env1 s1 => rw [hf] at q; exact fun m' σ' H' l r' E' => ⟨m', env1, s1, r', E', GS.mono l q⟩
    | rt d s1 => rw [hf] at q; exact q
    | bk env1 s1 => rw [hf] at q; exact q
    | ct env1 s1 => rw [hf] at q; exact q
    | ex x env1 s1 => rw [hf] at q; exact q
    | no => rw [hf] at q; exact q
theorem css_one (h1 : PS X st (Ts X.K X.mg W f)) : PSs X [st] (Ts X.K X.mg W f) := pss_one h1
theorem cs_pass : PS X (.Pass pos) (Ts X.K X.mg W sNil) := PS.imp ps_pass fun Dn σ H ⟨m, env, s, r, E, q⟩ => q m σ H .refl r E
theorem cs_doc {x j pos'} : PS X (.Expr (.Constant (.str x) j pos) pos') (Ts X.K X.mg W sNil) := PS.imp ps_doc fun Dn σ H ⟨m, env, s, r, E, q⟩ => q m σ H .refl r E
theorem cs_break : PS X (.Break pos) (Ts X.K X.mg W sBrk) := PS.imp ps_break fun Dn σ H ⟨m, env, s, r, E, q⟩ => q m σ H .refl r E
theorem cs_cont : PS X (.Continue pos) (Ts X.K X.mg W sCnt) := PS.imp ps_continue fun Dn σ H ⟨m, env, s, r, E, q⟩ => q m σ H .refl r E
theorem cs_set {j : Nat} {x : Str} {pos' : Pos} (hN : X.N.Nodup) (hi : X.N[j]? = some x) (hx : Loc X.env.scope x) (he : PE X e (Te X.K X.mg W fe)) (hs : swapsWith e (some (.Name x pos')) pos.line X.env = pure false := by rfl) (hf : X.fn x = true ∨ X.env.scope.names.lookup x = some .local := by first | exact .inl rfl | exact .inr rfl | assumption) :
    PS X (.Assign [.Name x pos'] e pos) (Ts X.K X.mg W (sSet j fe)) := PS.imp (ps_set (i := j) hN hi hx he hs hf) fun Dn σ H h =>
  Ts.ofE (k := fun env d s => .nx (env.set j (some d)) s) h fun m1 H1 env d v s1 r1 E1 p1 g1 => g1 m1 _ H1 .refl r1 (relE_set E1 p1 j)
theorem cs_asg {vs : List Nat} {g : D → Sl → Option Sl} (he : PE X e (Te X.K X.mg W fe)) (hg : PG X tg (GTm X.K vs g)) (hs : swapsWithSole [tg] e pos.line X.env = pure false := by rfl) (hw : swappedStores [tg] e X.env = pure none := by rfl)
    (h1 : (assignEach [tg] X.env).map (·.2) = [assign tg X.env] := by rfl) : PS X (.Assign [tg] e pos) (Ts X.K X.mg W (sAsg g fe)) := PS.imp (ps_asg he hg hs hw h1) fun Dn σ H h =>
  Ts.ofE (k := fun env d s => match g d env with | some env' => RS.nx env' s | none => RS.no) h fun m1 H1 env d v s1 r1 E1 p1 g1 => by
    cases q : g d env with
    | none => simp only [q] at g1; exact g1.elim
    | some env' =>
      simp only [q] at g1
      exact ⟨m1, env, s1, d, env', r1, E1, p1, q, fun σ' E' _ _ => g1 m1 σ' H1 .refl r1 E'⟩
theorem cs_expr (he : PE X e (Te X.K X.mg W fe)) (hs : swapsWith e none pos.line X.env = pure false := by rfl) : PS X (.Expr e pos) (Ts X.K X.mg W (sExpr fe)) := PS.imp (ps_expr he hs) fun Dn σ H h =>
  Ts.ofE (k := fun env _ s => RS.nx env s) h fun m1 H1 env d v s1 r1 E1 p1 g1 => g1 m1 σ H1 .refl r1 E1
theorem cs_ret (he : PE X e (Te X.K X.mg W fe)) : PS X (.Return (some e) pos) (Ts X.K X.mg W (sRet fe)) := PS.imp (ps_ret he) fun Dn σ H h =>
  Ts.ofE (k := fun _ d s => RS.rt d s) h fun m1 H1 env d v s1 r1 E1 p1 g1 => g1 m1 H1 v .refl r1 p1
theorem cs_retN : PS X (.Return none pos) (Ts X.K X.mg W sRetN) := PS.imp ps_retN fun Dn σ H ⟨m, env, s, r, E, q⟩ => q m H _ .refl r .non
theorem cs_if (hc : PT X c (Tt X.K X.mg W gc)) (ha : PSs X body (Ts X.K X.mg W f)) (hb : PSs X els (Ts X.K X.mg W g)) : PS X (.If c body els pos) (Ts X.K X.mg W (sIf gc f g)) := PS.imp (ps_if hc ha hb) fun Dn σ H h =>
  Ts.ofE (k := fun env (b : Bool) s => if b then f env s else g env s) h fun m1 H1 env d v s1 r1 E1 p1 g1 => by
    cases (show d = v from p1)
    cases d with
    | true => exact iteT ⟨m1, env, s1, r1, E1, g1⟩
    | false => exact iteF ⟨m1, env, s1, r1, E1, g1⟩
def PutS (K : PySem.W.Frag) (t : TSet) (g : D → D → D → Store → Option Store) : Prop :=
  ∀ {m : List Addr} {H : Hp} {s s' : Store} {x y z : V} {dx dy dz : D} {Q : Hp → Prop}, Rel K m H s → Rep K m H dx x → Rep K m H dy y → Rep K m H dz z → g dx dy dz s = some s' → (∀ H', Le K m H m H' → Rel K m H' s' → Q H') → t x y z H Q
theorem cs_put {t : TSet} {g : D → D → D → Store → Option Store} (he : PE X e (Te X.K X.mg W fe)) (ho : PE X o (Te X.K X.mg W fo)) (hi : PE X i (Te X.K X.mg W fi)) (hs : PSet X t) (hp : PutS X.K t g)
    (ha : ∀ v, assign (.Subscript o i pos) X.env v = (do
      let ov ← holding [v] (eval o X.env)
      let iv ← holding [v, ov] (eval i X.env)
      standAt pos
      holding [v, ov, iv] (setItem ov iv v)
      release [v, ov, iv] []) := by intro _; rfl) {pos' : Pos} (hs1 : swapsWithSole [.Subscript o i pos] e pos'.line X.env = pure false := by rfl) (hw : swappedStores [.Subscript o i pos] e X.env = pure none := by rfl)
    (h1 : (assignEach [.Subscript o i pos] X.env).map (·.2) = [assign (.Subscript o i pos) X.env] := by rfl) : PS X (.Assign [.Subscript o i pos] e pos') (Ts X.K X.mg W (sPut g fo fi fe)) :=
  PS.imp (ps_asg he (pg_sub ho hi hs ha) hs1 hw h1) fun Dn σ H h =>
    Ts.ofE (k := fun env d s => (fo env s).then env fun x s => (fi env s).then env fun y s => match g x y d s with | some s' => RS.nx env s' | none => RS.no) h fun m1 H1 env d v s1 r1 E1 p1 g1 =>
      ⟨m1, env, s1, r1, E1, GS.ofE E1 g1 fun m2 H2 x vx s2 l2 r2 p2 g2 => ⟨m2, env, s2, r2, E1.mono l2, GS.ofE (E1.mono l2) g2 fun m3 H3 y vy s3 l3 r3 p3 g3 => by
        cases q : g x y d s3 with
        | none => simp only [q] at g3; exact g3.elim
        | some s' =>
          simp only [q] at g3
          exact hp r3 (p2.mono l3) p3 ((p1.mono l2).mono l3) q fun H' l' r' => g3 m3 σ H' l' r' (((E1.mono l2).mono l3).mono l')⟩⟩
def IpS (K : PySem.W.Frag) (t : TIp) (g : D → D → Store → Option (D × Store)) : Prop := OpS K t g
theorem cs_aug {j : Nat} {x : Str} {op : Operator} {ti : TIp} {g : D → D → Store → Option (D × Store)} {pos' : Pos} (hN : X.N.Nodup) (hi : X.N[j]? = some x) (hx : Loc X.env.scope x) (he : PE X e (Te X.K X.mg W fe)) (ho : PIp X op ti) (hp : OpS X.K ti g) (hf : X.fn x = true ∨ X.env.scope.names.lookup x = some .local := by first | exact .inl rfl | exact .inr rfl | assumption) :
    PS X (.AugAssign (.Name x pos') op e pos) (Ts X.K X.mg W (sAug j g fe)) := PS.imp (ps_aug (i := j) hN hi hx he ho hf) fun Dn σ H ⟨m, env, s, r, E, q⟩ => by
  unfold sAug at q
  cases q1 : env[j]? with
  | none => simp only [q1] at q; exact q.elim
  | some o1 =>
    cases o1 with
    | none => simp only [q1] at q; exact q.elim
    | some d =>
      simp only [q1] at q
      obtain ⟨v, h1, h2⟩ := E.2 j d q1
      refine ⟨v, h1, m, env, s, r, E, GS.ofE E q fun m1 H1 y vy s1 l1 r1 p1 g1 => ?_⟩
      refine hp (mg := X.mg) (W := W) (σ := σ) r1 (h2.mono l1) p1 ?_
      cases q2 : g d y s1 with
      | none => simp only [q2] at g1; exact g1.elim
      | some zs =>
        obtain ⟨z, s'⟩ := zs
        simp only [q2] at g1
        exact fun m' H' b l r p => g1 m' _ H' l r (relE_set ((E.mono l1).mono l) p j)
/-! #### loops -/
def ItR (K : PySem.W.Frag) (m : List Addr) (H : Hp) (it : Itm) (J : It) : Prop := ∀ m2 H2 s2, Le K m H m2 H2 → Rel K m2 H2 s2 → it.guard s2 →
  (∀ i d, it.xs[i]? = some d → J.go i H2 ∧ ∀ v H3, J.yld i H2 v H3 → Le K m2 H2 m2 H3 ∧ Rel K m2 H3 s2 ∧ Rep K m2 H3 d v) ∧ J.stop it.xs.length H2
abbrev Ti (K : PySem.W.Frag) (mg : Str → Option Value) (W : WX) (f : ME Itm) : TI := Tm K mg (ItR K) W f
theorem cs_for {fi : ME Itm} {vs : List Nat} {gt : D → Sl → Option Sl} (hp : PassesOwn (model X.prog X.w) X.A X.env X.xe) (hc : X.calm = true) (hi : PI X tg iter (Ti X.K X.mg W fi)) (hg : PG X tg (GTm X.K vs gt)) (hb : PSs X body (Ts X.K X.mg W f))
    (hs : ∀ x, foldedSetIterable iter X.env x = pure x := by intro _; rfl) : PS X (.For tg iter body [] pos) (Ts X.K X.mg W (sFor fi gt f)) :=
  PS.imp (ps_for hp hc hi hg hb hs) fun Dn σ H h => Ts.ofE (k := fun env (i : Itm) s => forL i.guard gt f i.xs env s) h fun m1 H1 env it J s1 r1 E1 p1 g1 => by
    refine ⟨fun i k σ H => k = it.xs.length - i ∧ i ≤ it.xs.length ∧ ∃ m2 env2 s2, Le X.K m1 H1 m2 H ∧ Rel X.K m2 H s2 ∧ RelE X.K m2 H env2 σ ∧ GS X.K X.mg W Dn m2 H (forL it.guard gt f (it.xs.drop i) env2 s2),
      ⟨it.xs.length, by simp, Nat.zero_le _, m1, env, s1, .refl, r1, E1, g1⟩, ?_⟩
    rintro i k σ2 H2 ⟨rfl, hi, m2, env2, s2, l2, r2, E2, g2⟩
    by_cases hlt : i < it.xs.length
    · have hx : it.xs[i]? = some it.xs[i] := by simp [hlt]
      have hd : it.xs.drop i = it.xs[i] :: it.xs.drop (i + 1) := List.drop_eq_getElem_cons hlt
      rw [hd] at g2
      unfold forL at g2
      by_cases hgd : it.guard s2
      · simp only [hgd, if_true] at g2
        obtain ⟨hall, _⟩ := p1 m2 H2 s2 l2 r2 hgd
        obtain ⟨hgo, hy⟩ := hall i _ hx
        refine .inr ⟨hgo, fun σ' H' => ∃ m3 env3 s3, Le X.K m1 H1 m3 H' ∧ Rel X.K m3 H' s3 ∧ RelE X.K m3 H' env3 σ' ∧ GS X.K X.mg W Dn m3 H' (forL it.guard gt f (it.xs.drop (i + 1)) env3 s3),
          fun σ' H' ⟨m3, env3, s3, l3, r3, E3, g3⟩ => ⟨it.xs.length - (i + 1), by omega, rfl, hlt, m3, env3, s3, l3, r3, E3, g3⟩, fun v H3 y => ?_⟩
        obtain ⟨l3, r3, p3⟩ := hy v H3 y
        cases q : gt it.xs[i] env2 with
        | none => simp only [q] at g2; exact g2.elim
        | some env3 =>
          simp only [q] at g2
          refine ⟨m2, env2, s2, it.xs[i], env3, r3, E2.mono l3, p3, q, fun σ4 E4 _ _ => ⟨m2, env3, s2, r3, E4, ?_⟩⟩
          have g3 := GS.mono l3 g2
          have l4 := l2.trans l3
          cases hb2 : f env3 s2 with
          | nx env5 s5 => rw [hb2] at g3; exact fun m' σ' H' l r E => ⟨m', env5, s5, l4.trans l, r, E, GS.mono l g3⟩
          | ct env5 s5 => rw [hb2] at g3; exact fun m' σ' H' l r E => ⟨m', env5, s5, l4.trans l, r, E, GS.mono l g3⟩
          | bk env5 s5 => rw [hb2] at g3; exact g3
          | rt d s5 => rw [hb2] at g3; exact g3
          | ex x env5 s5 => rw [hb2] at g3; exact g3
          | no => rw [hb2] at g3; exact g3
      · simp only [hgd, if_false] at g2
        exact g2.elim
    · have e : i = it.xs.length := by omega
      subst e
      rw [List.drop_length] at g2
      unfold forL at g2
      by_cases hgd : it.guard s2
      · simp only [hgd, if_true] at g2
        exact .inl ⟨(p1 m2 H2 s2 l2 r2 hgd).2, g2 m2 σ2 H2 .refl r2 E2⟩
      · simp only [hgd, if_false] at g2
        exact g2.elim
theorem cs_while (hp : PassesOwn (model X.prog X.w) X.A X.env X.xe) (hc : PT X c (Tt X.K X.mg W gc)) (hb : PSs X body (Ts X.K X.mg W f)) : PS X (.While c body [] pos) (Ts X.K X.mg W (sWhile gc f)) :=
  PS.imp (ps_while hp hc hb) fun Dn σ H ⟨m, env, s, r, E, g⟩ => by
    unfold sWhile at g
    split at g
    · rename_i hx
      refine ⟨fun n σ H => ∃ m2 env2 s2, Rel X.K m2 H s2 ∧ RelE X.K m2 H env2 σ ∧ GS X.K X.mg W Dn m2 H (whileN gc f n env2 s2), ⟨_, m, env, s, r, E, g⟩, ?_⟩
      rintro n σ1 H1 ⟨m1, env1, s1, r1, E1, g1⟩
      cases n with
      | zero => exact g1.elim
      | succ n =>
        unfold whileN at g1
        refine ⟨m1, env1, s1, r1, E1, GS.ofE E1 g1 fun m2 H2 k kb s2 l2 r2 p2 g2 => ?_⟩
        cases (show k = kb from p2)
        cases k with
        | false => exact iteF (g2 m2 σ1 H2 .refl r2 (E1.mono l2))
        | true =>
          refine iteT ⟨fun σ' H' => ∃ m3 env3 s3, Rel X.K m3 H' s3 ∧ RelE X.K m3 H' env3 σ' ∧ GS X.K X.mg W Dn m3 H' (whileN gc f n env3 s3), fun σ' H' q => ⟨n, Nat.lt_succ_self n, q⟩, m2, env1, s2, r2, E1.mono l2, ?_⟩
          simp only [if_true] at g2
          cases hb2 : f env1 s2 with
          | nx env5 s5 => rw [hb2] at g2; exact fun m' σ' H' l r E => ⟨m', env5, s5, r, E, GS.mono l g2⟩
          | ct env5 s5 => rw [hb2] at g2; exact fun m' σ' H' l r E => ⟨m', env5, s5, r, E, GS.mono l g2⟩
          | bk env5 s5 => rw [hb2] at g2; exact g2
          | rt d s5 => rw [hb2] at g2; exact g2
          | ex x env5 s5 => rw [hb2] at g2; exact g2
          | no => rw [hb2] at g2; exact g2
    · exact g.elim
end
/-! #### what a loop walks -/
def always : Store → Prop := fun _ => True
/-- a list, a tuple, a text -/
def iSeq (a : ME D) : ME Itm := fun env s => (a env s).bind fun x s => match x with
  | .tup xs => .ok (Itm.mk (xs) (always)) s
  | .fl xs => .ok (Itm.mk (xs) (always)) s
  | .str z => .ok (Itm.mk (z.cps.toList.map fun c => .str ⟨#[c]⟩) (always)) s
  | .loc l => match s[l]? with
    | some (.lst xs) => .ok (Itm.mk (xs) (fun s2 => s2[l]? = some (.lst xs))) s
    | _ => .no
  | _ => .no
/-- a bound of a range -/
def InR (j : Int) : Prop := -(2 ^ 62) ≤ j ∧ j < 2 ^ 62
noncomputable instance (j : Int) : Decidable (InR j) := Classical.propDecidable _
noncomputable def iRange1 (a : ME (List D)) : ME Itm := fun env s => (a env s).bind fun x s => match x with
  | [.int j] => if InR j then .ok (Itm.mk ((List.range j.toNat).map fun i => .int ((0 : Int) + (i : Nat))) (always)) s else .no
  | _ => .no
noncomputable def iRange2 (a : ME (List D)) : ME Itm := fun env s => (a env s).bind fun x s => match x with
  | [.int i, .int j] => if InR i ∧ InR j then .ok (Itm.mk ((List.range (j - i).toNat).map fun k => .int (i + (k : Nat))) (always)) s else .no
  | _ => .no
section
variable {K : PySem.W.Frag} {m : List Addr} {H : Hp}
theorem itr_list {l : Nat} {xs : List D} {a : Addr} (h : m[l]? = some a) : ItR K m H ⟨xs, fun s2 => s2[l]? = some (.lst xs)⟩ (Itl K a) := fun m2 H2 s2 l2 r2 g => by
  have g' : s2[l]? = some (.lst xs) := g
  obtain ⟨vs, h1, h2⟩ := r2.list (l2.get h) g'
  have hq : SqL K H2 a vs := .inl (.inl h1)
  refine ⟨fun i d e => ?_, ⟨vs, hq, by rw [← h2.length]; exact Nat.le_refl _⟩⟩
  obtain ⟨v, hv, rv⟩ := h2.get e
  refine ⟨⟨vs, v, hq, hv⟩, fun w H3 y => ?_⟩
  obtain ⟨rfl, y⟩ := y
  have e2 := y vs hq
  rw [hv] at e2; cases e2
  exact ⟨.refl, r2, rv⟩
theorem itr_fl {xs : List D} {vs : List V} {a : Addr} (h : FrL K H a vs) (p : Reps K m H xs vs) : ItR K m H ⟨xs, always⟩ (Itl K a) := fun m2 H2 s2 l2 r2 g => by
  have hq : SqL K H2 a vs := (l2.frl a vs h).sq
  have h2 := p.mono l2
  refine ⟨fun i d e => ?_, ⟨vs, hq, by rw [← h2.length]; exact Nat.le_refl _⟩⟩
  obtain ⟨v, hv, rv⟩ := h2.get e
  refine ⟨⟨vs, v, hq, hv⟩, fun w H3 y => ?_⟩
  obtain ⟨rfl, y⟩ := y
  have e2 := y vs hq
  rw [hv] at e2; cases e2
  exact ⟨.refl, r2, rv⟩
theorem itr_tup {xs : List D} {vs : List V} {a : Addr} (h : SqT K H a vs) (p : Reps K m H xs vs) : ItR K m H ⟨xs, always⟩ (Itt K a) := fun m2 H2 s2 l2 r2 g => by
  have hq : SqT K H2 a vs := l2.tup a vs h
  have h2 := p.mono l2
  refine ⟨fun i d e => ?_, ⟨vs, hq, by rw [← h2.length]; exact Nat.le_refl _⟩⟩
  obtain ⟨v, hv, rv⟩ := h2.get e
  refine ⟨⟨vs, v, hq, hv⟩, fun w H3 y => ?_⟩
  obtain ⟨rfl, y⟩ := y
  have e2 := y vs hq
  rw [hv] at e2; cases e2
  exact ⟨.refl, r2, rv⟩
theorem itr_str {z : Str} : ItR K m H ⟨z.cps.toList.map fun c => .str ⟨#[c]⟩, always⟩ (Its z) := fun m2 H2 s2 l2 r2 g => by
  have w := walk_str (z := z)
  refine ⟨fun i d e => ?_, by
    have q := w.stops H2 trivial
    show (Its z).stop (List.map _ z.cps.toList).length H2
    rw [List.length_map, Array.length_toList]
    exact q⟩
  rw [List.getElem?_map, Array.getElem?_toList] at e
  cases hc : z.cps[i]? with
  | none => rw [hc] at e; cases e
  | some c =>
    rw [hc] at e; cases e
    have hi : i < z.cps.size := (Array.getElem?_eq_some_iff.mp hc).1
    refine ⟨w.goes i H2 hi trivial, fun v H3 y => ?_⟩
    obtain ⟨rfl, c', h1, rfl⟩ := w.yields i H2 v H3 hi trivial y
    rw [hc] at h1; cases h1
    exact ⟨.refl, r2, .str _⟩
theorem itr_range {lo : Int} {n : Nat} : ItR K m H ⟨(List.range n).map fun (i : Nat) => .int (lo + (i : Int)), always⟩ (Itr lo n) := fun m2 H2 s2 l2 r2 g => by
  refine ⟨fun i d e => ?_, by show n ≤ (List.map _ (List.range n)).length; simp⟩
  rw [List.getElem?_map] at e
  by_cases hi : i < n
  · rw [List.getElem?_range hi] at e
    cases e
    refine ⟨hi, fun v H3 y => ?_⟩
    obtain ⟨rfl, rfl⟩ := y
    exact ⟨.refl, r2, .int _⟩
  · rw [List.getElem?_eq_none (by simpa using hi)] at e; cases e
end
section
variable {X : Cx} {W : WX} {tg e a b : Expr} {p pos : Pos} {fe : ME D} {fs : ME (List D)}
theorem PI.imp {e : Expr} {t t' : TI} (h : PI X tg e t) (i : ∀ σ H Q, t' σ H Q → t σ H Q) : PI X tg e t' := ⟨fun pins s σ H Q I q => h.run pins s σ H Q I (i σ H Q q)⟩
def iAny (K : PySem.W.Frag) (tl : TE) : TI := fun σ H R => tl σ H fun x H1 => (∃ a, x = .ref a ∧ ((∃ xs, SqL K H1 a xs) ∧ R (Itl K a) H1 ∨ (∃ xs, SqT K H1 a xs) ∧ R (Itt K a) H1)) ∨ ∃ z, x = .str z ∧ R (Its z) H1
theorem pi_any {tl : TE} (hl : PE X e tl) : PI X tg e (iAny X.K tl) := by
  refine ⟨fun pins s σ H R I h => ?_⟩
  refine thn (hl.run pins s σ H _ I h) fun v s1 ⟨x, H1, I1, r1, q1⟩ => ?_
  rcases q1 with ⟨a, rfl, ⟨⟨xs, hq⟩, q⟩ | ⟨⟨xs, hq⟩, q⟩⟩ | ⟨z, rfl, q⟩
  · cases r1
    obtain ⟨its, rv, p, hz⟩ := I1.list hq
    refine wpAny_pyIter_list p.isList ?_
    refine ⟨s1.heap.objs.size, [s1.heap.objs.size], _, _, H1, rfl, I1.kept (t' := s1.toks) fun b o e => Heap.get?_push_of_some _ e, turn_list a _, ⟨_, Heap.get?_push_size _ rfl, rfl, rfl⟩, fun b hb => ?_, q⟩
    have e : b = s1.heap.objs.size := by simpa using hb
    subst e
    exact I1.fpOk (Nat.le_refl _) (I1.hok.fresh (Nat.le_refl _))
  · cases r1
    obtain ⟨its, rv, p, hz⟩ := I1.tuple hq
    refine wpAny_pyIter_tuple (show s1.heap.IsTuple a its.toArray from p) ?_
    refine ⟨s1.heap.objs.size, [s1.heap.objs.size], _, _, H1, rfl, I1.kept (t' := s1.toks) fun b o e => Heap.get?_push_of_some _ e, turn_tuple a _, ⟨_, Heap.get?_push_size _ rfl, rfl, rfl⟩, fun b hb => ?_, q⟩
    have e : b = s1.heap.objs.size := by simpa using hb
    subst e
    exact I1.fpOk (Nat.le_refl _) (I1.hok.fresh (Nat.le_refl _))
  · obtain ⟨t, rfl⟩ := r1
    cases ha : z.cps.all (· < 128)
    · exact wpAny_pyIter_wide ha (pi_one (tk := s1.toks) I1 _ (turn_str _ z t "str_iterator" (.inr rfl)) ⟨_, Heap.get?_push_size _ rfl, rfl, rfl⟩ q)
    · exact wpAny_pyIter_ascii ha (pi_one (tk := s1.toks) I1 _ (turn_str _ z t "str_ascii_iterator" (.inl rfl)) ⟨_, Heap.get?_push_size _ rfl, rfl, rfl⟩ q)
theorem ci_seq (he : PE X e (Te X.K X.mg W fe)) : PI X tg e (Ti X.K X.mg W (iSeq fe)) := PI.imp (pi_any he) fun σ H Rw h =>
  Tm.bind (k := fun _ x s => match x with
  | .tup xs => R.ok (Itm.mk (xs) (always)) s
  | .fl xs => R.ok (Itm.mk (xs) (always)) s
  | .str z => R.ok (Itm.mk (z.cps.toList.map fun c => .str ⟨#[c]⟩) (always)) s
  | .loc l => match s[l]? with
    | some (.lst xs) => R.ok (Itm.mk (xs) (fun s2 => s2[l]? = some (.lst xs))) s
    | _ => R.no
  | _ => R.no) h fun m1 H1 env x v s1 r1 E1 p1 g1 => by
    cases x with
    | tup xs =>
      obtain ⟨a, vs, rfl, hq, rr⟩ := p1.sqT
      exact .inl ⟨a, rfl, .inr ⟨⟨vs, hq⟩, g1 m1 H1 _ .refl r1 (itr_tup hq rr)⟩⟩
    | fl xs =>
      cases p1 with
      | fl hq rr => exact .inl ⟨_, rfl, .inl ⟨⟨_, hq.sq⟩, g1 m1 H1 _ .refl r1 (itr_fl hq rr)⟩⟩
    | str z => cases p1; exact .inr ⟨z, rfl, g1 m1 H1 _ .refl r1 itr_str⟩
    | loc l =>
      cases p1 with
      | loc hl =>
        cases q : s1[l]? with
        | none => simp only [q] at g1; exact g1.elim
        | some c =>
          cases c with
          | dic _ => simp only [q] at g1; exact g1.elim
          | dct _ => simp only [q] at g1; exact g1.elim
          | lst xs =>
            simp only [q] at g1
            obtain ⟨vs, h1, h2⟩ := r1.list hl q
            exact .inl ⟨_, rfl, .inl ⟨⟨vs, .inl (.inl h1)⟩, g1 m1 H1 _ .refl r1 (itr_list hl)⟩⟩
    | _ => exact g1.elim
theorem ci_range1 (hg : Gl X "range") (hm : X.mg "range" = none) (ha : PA X [a] (Ta X.K X.mg W fs)) (hs : starEach [a] X.env = [(false, eval a X.env)] := by rfl) : PI X tg (.Call (.Name "range" p) [a] [] pos) (Ti X.K X.mg W (iRange1 fs)) :=
  PI.imp (pi_range1 hg hm ha hs) fun σ H Rw h => Tm.bind (k := fun _ x s => match x with
  | [.int j] => if InR j then R.ok (Itm.mk ((List.range j.toNat).map fun i => .int ((0 : Int) + (i : Nat))) (always)) s else R.no
  | _ => R.no) h fun m1 H1 env x v s1 r1 E1 p1 g1 => by
    match x, p1, g1 with
    | [.int j], p1, g1 =>
      obtain ⟨v, rfl, h⟩ := reps1 p1
      cases h
      by_cases hj : InR j
      · simp only [hj, if_true] at g1
        exact ⟨j, rfl, hj.1, hj.2, g1 m1 H1 _ .refl r1 itr_range⟩
      · simp only [hj, if_false] at g1
        exact g1.elim
    | [], _, g1 => exact g1.elim
    | [.non], _, g1 => exact g1.elim
    | [.bl _], _, g1 => exact g1.elim
    | [.str _], _, g1 => exact g1.elim
    | [.tup _], _, g1 => exact g1.elim
    | [.fl _], _, g1 => exact g1.elim
    | [.loc _], _, g1 => exact g1.elim
    | [.exv _ _ _ _], _, g1 => exact g1.elim
    | .non :: _ :: _, _, g1 => exact g1.elim
    | .bl _ :: _ :: _, _, g1 => exact g1.elim
    | .int _ :: _ :: _, _, g1 => exact g1.elim
    | .str _ :: _ :: _, _, g1 => exact g1.elim
    | .tup _ :: _ :: _, _, g1 => exact g1.elim
    | .fl _ :: _ :: _, _, g1 => exact g1.elim
    | .loc _ :: _ :: _, _, g1 => exact g1.elim
    | .exv _ _ _ _ :: _ :: _, _, g1 => exact g1.elim
theorem ci_range2 (hg : Gl X "range") (hm : X.mg "range" = none) (ha : PA X [a, b] (Ta X.K X.mg W fs)) (hs : starEach [a, b] X.env = [(false, eval a X.env), (false, eval b X.env)] := by rfl) (hs2 : starEach [b] X.env = [(false, eval b X.env)] := by rfl) :
    PI X tg (.Call (.Name "range" p) [a, b] [] pos) (Ti X.K X.mg W (iRange2 fs)) :=
  PI.imp (pi_range2 hg hm ha hs hs2) fun σ H Rw h => Tm.bind (k := fun _ x s => match x with
  | [.int i, .int j] => if InR i ∧ InR j then R.ok (Itm.mk ((List.range (j - i).toNat).map fun k => .int (i + (k : Nat))) (always)) s else R.no
  | _ => R.no) h fun m1 H1 env x v s1 r1 E1 p1 g1 => by
    split at g1
    · rename_i i j
      obtain ⟨v, w, rfl, h, h2⟩ := reps2 p1
      cases h; cases h2
      by_cases hj : InR i ∧ InR j
      · simp only [hj, and_self, if_true] at g1
        exact ⟨i, j, rfl, ⟨hj.1.1, hj.1.2, hj.2.1, hj.2.2⟩, g1 m1 H1 _ .refl r1 itr_range⟩
      · simp only [hj, if_false] at g1
        exact g1.elim
    · exact g1.elim
end
/-- o[i] = e of a list -/
def pList (x y z : D) (s : Store) : Option Store := match x, y with
  | .loc l, .int i => match s[l]? with
    | some (.lst xs) => (ixN xs.length i).map fun j => s.set l (.lst (xs.set j z))
    | _ => none
  | _, _ => none
theorem puts_list {K : PySem.W.Frag} : PutS K rSetL pList := by
  intro m H s s' x y z dx dy dz Q r px py pz e q
  unfold pList at e
  split at e
  · rename_i l i
    cases px with
    | loc hl =>
      cases py
      split at e
      · rename_i xs q1
        cases q2 : ixN xs.length i with
        | none => rw [q2] at e; cases e
        | some j =>
          rw [q2] at e
          cases e
          obtain ⟨vs, h1, h2⟩ := r.list hl q1
          obtain ⟨le, r2⟩ := le_setlist r hl (h2.set pz j)
          exact ⟨_, vs, i, j, rfl, rfl, h1, by rw [← h2.length]; exact q2, q _ le r2⟩
      · cases e
  · cases e
end Mi
namespace Mi
open PySem PySem.Spec PyProof.Rows L2
/-! ### list comprehensions -/
/-- a list that is being made is no cell yet: what a value's standing needs -/
structure Lw (K : PySem.W.Frag) (m : List Addr) (H : Hp) (m' : List Addr) (H' : Hp) : Prop where
  pre : ∃ r, m' = m ++ r
  tup : ∀ a xs, SqT K H a xs → SqT K H' a xs
  frl : ∀ a xs, FrL K H a xs → FrL K H' a xs
  xd : ∀ b vfs, H b = some (.xd vfs) → b ∉ m → H' b = some (.xd vfs) ∧ b ∉ m'
  trk : ∀ a xs, H a = some (.tup xs) → H' a = some (.tup xs)
section
variable {K : PySem.W.Frag} {mg : Str → Option Value} {m m1 m2 : List Addr} {H H1 H2 : Hp} {s : Store} {p : Addr}
theorem Le.w (e : Le K m H m1 H1) : Lw K m H m1 H1 := ⟨e.pre, e.tup, e.frl, fun b vfs h n => ⟨e.fr _ _ h n, fun z => (e.nw _ z).elim n fun q => by rw [h] at q; cases q⟩, e.trk⟩
theorem Lw.get (e : Lw K m H m1 H1) {l : Nat} {a : Addr} (h : m[l]? = some a) : m1[l]? = some a := by
  obtain ⟨r, rfl⟩ := e.pre
  rw [List.getElem?_append_left (by
    rcases Nat.lt_or_ge l m.length with q | q
    · exact q
    · rw [List.getElem?_eq_none q] at h; cases h)]
  exact h
mutual
theorem Rep.monoW (e : Lw K m H m1 H1) : ∀ {d : D} {v : V}, Rep K m H d v → Rep K m1 H1 d v
  | _, _, .non => .non
  | _, _, .bl b => .bl b
  | _, _, .int i => .int i
  | _, _, .str x => .str x
  | _, _, .tup h r => .tup (e.trk _ _ h) (Reps.monoW e r)
  | _, _, .fl h r => .fl (e.frl _ _ h) (Reps.monoW e r)
  | _, _, .loc h => .loc (e.get h)
  | _, _, .exv h n r => .exv (e.xd _ _ h n).1 (e.xd _ _ h n).2 (FldR.monoW e r)
theorem Reps.monoW (e : Lw K m H m1 H1) : ∀ {ds : List D} {vs : List V}, Reps K m H ds vs → Reps K m1 H1 ds vs
  | _, _, .nil => .nil
  | _, _, .cons h r => .cons (Rep.monoW e h) (Reps.monoW e r)
theorem FldR.monoW (e : Lw K m H m1 H1) : ∀ {ds : List (Str × D)} {vs : List (Str × V)}, FldR K m H ds vs → FldR K m1 H1 ds vs
  | _, _, .nil => .nil
  | _, _, .cons h r => .cons (Rep.monoW e h) (FldR.monoW e r)
end
theorem RepK.monoW {κ : Type} (e : Lw K m H m1 H1) : ∀ {ds : List (κ × D)} {vs : List (κ × V)}, RepK K m H ds vs → RepK K m1 H1 ds vs
  | _, _, .nil => .nil
  | _, _, .cons h r => .cons (h.monoW e) (RepK.monoW e r)
theorem RelE.monoW (e : Lw K m H m1 H1) {env : Sl} {σ : L2.St} (h : RelE K m H env σ) : RelE K m1 H1 env σ :=
  ⟨h.1, fun i d q => let ⟨v, h1, h2⟩ := h.2 i d q; ⟨v, h1, h2.monoW e⟩⟩
theorem CellR.monoW {c : Cell} {a : Addr} (e : Lw K m H m1 H1) (hs : H1 a = H a) (h : CellR K m H a c) : CellR K m1 H1 a c := by
  cases c with
  | lst xs => obtain ⟨vs, h1, h2⟩ := h; exact ⟨vs, hs.trans h1, h2.monoW e⟩
  | dic kvs => obtain ⟨ws, h1, h2⟩ := h; exact ⟨ws, hs.trans h1, h2.monoW e⟩
  | dct kvs => obtain ⟨ws, h1, h2⟩ := h; exact ⟨ws, hs.trans h1, h2.monoW e⟩
/-- a list of ours that is no cell is written -/
theorem lw_side {vs ws : List V} (h : H p = some (.lst vs)) : Lw K m H m (upd H p (HO.lst ws)) :=
  ⟨⟨[], by simp⟩, fun b xs q => by
    rcases q with (q | ⟨ob, q⟩) | q
    · exact .inl (.inl (by rw [upd_ne (fun z => by subst z; rw [h] at q; cases q)]; exact q))
    · exact .inl (.inr ⟨ob, by rw [upd_ne (fun z => by subst z; rw [h] at q; cases q)]; exact q⟩)
    · exact .inr q, fun b xs q => by
    rcases q with ⟨ob, q⟩ | q
    · exact .inl ⟨ob, by rw [upd_ne (fun z => by subst z; rw [h] at q; cases q)]; exact q⟩
    · exact .inr q, fun b vfs q n => ⟨by rw [upd_ne (fun z => by subst z; rw [h] at q; cases q)]; exact q, n⟩, fun b xs q => by rw [upd_ne (fun z => by subst z; rw [h] at q; cases q)]; exact q⟩
theorem Rel.side (r : Rel K m H s) {vs ws : List V} (h : H p = some (.lst vs)) (n : p ∉ m) : Rel K m (upd H p (HO.lst ws)) s :=
  ⟨r.len, r.nd, fun l a c h1 h2 => (r.at_ l a c h1 h2).monoW (lw_side h) (upd_ne fun z => by subst z; exact n (List.mem_of_getElem? h1))⟩
theorem Le.side (e : Le K m H m1 H1) {vs ws : List V} (h0 : H p = none) (h : H1 p = some (.lst vs)) : Le K m H m1 (upd H1 p (HO.lst ws)) :=
  ⟨e.pre, fun a xs q => (lw_side (m := m1) h).tup a xs (e.tup a xs q), fun a xs q => (lw_side (m := m1) h).frl a xs (e.frl a xs q), fun b o q n => by
    rw [upd_ne (fun z => by subst z; rw [h0] at q; cases q)]; exact e.fr b o q n, e.nw, fun a xs q => (lw_side (K := K) (m := m1) h).trk a xs (e.trk a xs q)⟩
theorem lw_adopt {vs : List V} (h : H p = some (.lst vs)) : Lw K m H (m ++ [p]) H := ⟨⟨[p], rfl⟩, fun _ _ q => q, fun _ _ q => q, fun b vfs q n => ⟨q, fun z => by
    rcases List.mem_append.mp z with z | z
    · exact n z
    · rw [List.mem_singleton.mp z, h] at q; cases q⟩, fun _ _ q => q⟩
theorem Rel.adopt (r : Rel K m H s) {xs : List D} {vs : List V} (n : p ∉ m) (h : H p = some (.lst vs)) (q : Reps K m H xs vs) : Rel K (m ++ [p]) H (s ++ [Cell.lst xs]) := by
  refine ⟨by simp [r.len], ?_, fun j b d h1 h2 => ?_⟩
  · rw [List.nodup_append]
    exact ⟨r.nd, by simp, fun x hx y hy => by rw [List.mem_singleton.mp hy]; exact fun z => n (z ▸ hx)⟩
  · rcases Nat.lt_or_ge j m.length with w | w
    · rw [List.getElem?_append_left w] at h1
      rw [List.getElem?_append_left (by rw [← r.len]; exact w)] at h2
      exact (r.at_ j b d h1 h2).monoW (lw_adopt h) rfl
    · rw [List.getElem?_append_right w] at h1
      rw [List.getElem?_append_right (by rw [← r.len]; exact w), ← r.len] at h2
      cases hk : j - m.length with
      | zero =>
        rw [hk] at h1 h2
        simp at h1 h2
        subst h1; subst h2
        exact ⟨vs, h, q.monoW (lw_adopt h)⟩
      | succ n => rw [hk] at h1; simp at h1
theorem Le.adopt (e : Le K m H m1 H1) (h0 : H p = none) : Le K m H (m1 ++ [p]) H1 := by
  refine ⟨?_, e.tup, e.frl, e.fr, fun b h => ?_, e.trk⟩
  · obtain ⟨r, rfl⟩ := e.pre
    exact ⟨r ++ [p], by simp⟩
  · rcases List.mem_append.mp h with q | q
    · exact e.nw b q
    · rw [List.mem_singleton.mp q]; exact .inr h0
end
def wipeE (env : Sl) : List Nat → Sl
  | [] => env
  | v :: vs => (wipeE env vs).set v none
theorem wipeE_length (env : Sl) : ∀ vs : List Nat, (wipeE env vs).length = env.length
  | [] => rfl
  | v :: vs => by unfold wipeE; rw [List.length_set, wipeE_length env vs]
theorem wipeE_some {env : Sl} {i : Nat} {x : D} : ∀ {vs : List Nat}, (wipeE env vs)[i]? = some (some x) → env[i]? = some (some x) ∧ i ∉ vs
  | [], h => ⟨h, by simp⟩
  | v :: vs, h => by
    unfold wipeE at h
    by_cases hi : v = i
    · subst hi
      by_cases hv : v < (wipeE env vs).length
      · rw [List.getElem?_set_self hv] at h; cases h
      · rw [List.getElem?_eq_none (by simpa using hv)] at h; cases h
    · rw [List.getElem?_set_ne hi] at h
      obtain ⟨h1, h2⟩ := wipeE_some h
      exact ⟨h1, by simp only [List.mem_cons, not_or]; exact ⟨fun e => hi e.symm, h2⟩⟩
theorem relE_wipe {K : PySem.W.Frag} {m : List Addr} {H : Hp} {env : Sl} {σ : L2.St} (E : RelE K m H env σ) (vs : List Nat) : RelE K m H (wipeE env vs) (wipe σ vs) := by
  refine ⟨by rw [wipeE_length, wipe_length]; exact E.1, fun i d h => ?_⟩
  obtain ⟨h1, h2⟩ := wipeE_some h
  obtain ⟨v, h3, h4⟩ := E.2 i d h1
  exact ⟨v, by rw [wipe_out h2]; exact h3, h4⟩
theorem wipe_in {σ : L2.St} {i : Nat} : ∀ {vs : List Nat}, i ∈ vs → i < σ.length → (wipe σ vs)[i]? = some none
  | v :: vs, h, hl => by
    unfold wipe
    by_cases hv : v = i
    · subst hv
      rw [List.getElem?_set_self (by rw [wipe_length]; exact hl)]
    · rw [List.getElem?_set_ne hv]
      exact wipe_in (by rcases List.mem_cons.mp h with e | e; exact absurd e.symm hv; exact e) hl
theorem wipe_congr {σ σ' : L2.St} {vs : List Nat} (hl : σ'.length = σ.length) (h : ∀ i, i ∉ vs → σ'[i]? = σ[i]?) : wipe σ' vs = wipe σ vs := by
  apply List.ext_getElem?
  intro i
  by_cases hi : i ∈ vs
  · by_cases hn : i < σ.length
    · rw [wipe_in hi (by rw [hl]; exact hn), wipe_in hi hn]
    · rw [List.getElem?_eq_none (by rw [wipe_length, hl]; omega), List.getElem?_eq_none (by rw [wipe_length]; omega)]
  · rw [wipe_out hi, wipe_out hi, h i hi]
theorem wipe_wipe (σ : L2.St) (vs : List Nat) : wipe (wipe σ vs) vs = wipe σ vs := wipe_congr (wipe_length σ vs) fun i hi => wipe_out hi
/-- nothing is raised within a comprehension -/
def noX {α : Type} : R α → R α
  | .ok a s => .ok a s
  | _ => .no
open Classical in
noncomputable def lcL (guard : Store → Prop) (g : D → Sl → Option Sl) (t : ME Bool) (e : ME D) (env : Sl) : List D → List D → Store → R (List D)
  | [], acc, s => if guard s then .ok acc s else .no
  | x :: xs, acc, s => if guard s then (match g x env with
    | none => .no
    | some env1 => match t env1 s with
      | .ok b s1 => if b then (match e env1 s1 with
        | .ok y s2 => if acc.length < sizeLine then lcL guard g t e env xs (acc ++ [y]) s2 else .no
        | _ => .no) else lcL guard g t e env xs acc s1
      | _ => .no) else .no
noncomputable def eLc (it : ME Itm) (vs : List Nat) (g : D → Sl → Option Sl) (t : ME Bool) (e : ME D) : ME D := fun env s => (it env s).bind fun i s => (lcL i.guard g t e (wipeE env vs) i.xs [] s).bind fun acc s => .ok (.loc s.length) (s ++ [.lst acc])
def tT : ME Bool := fun _ s => .ok true s
abbrev WF : WX := fun _ _ _ _ => False
section
variable {X : Cx} {W : WX}
theorem lc_run {fi : ME Itm} {vs : List Nat} {gt : D → Sl → Option Sl} {ft : ME Bool} {fe : ME D} : ∀ σ H Q, Te X.K X.mg W (eLc fi vs gt ft fe) σ H Q →
    tLc (Ti X.K X.mg W fi) (GTm X.K vs gt) (Tt X.K X.mg WF ft) (Te X.K X.mg WF fe) vs σ H Q := fun σ H Q h =>
  Tm.bind (k := fun env (i : Itm) s => (lcL i.guard gt ft fe (wipeE env vs) i.xs [] s).bind fun acc s => R.ok (D.loc s.length) (s ++ [Cell.lst acc])) h fun m1 H1 env it J s1 r1 E1 p1 g1 => by
    intro P hP
    refine ⟨fun i k H => k = it.xs.length - i ∧ i ≤ it.xs.length ∧ ∃ m2 s2 acc accV, Le X.K m1 H1 m2 H ∧ Rel X.K m2 H s2 ∧ H P = some (.lst accV) ∧ P ∉ m2 ∧ Reps X.K m2 H acc accV ∧
        G X.K X.mg (Rep X.K) W σ m1 H1 Q ((lcL it.guard gt ft fe (wipeE env vs) (it.xs.drop i) acc s2).bind fun acc s => R.ok (D.loc s.length) (s ++ [Cell.lst acc])),
      ⟨it.xs.length, by simp, Nat.zero_le _, m1, s1, [], [], le_new hP, r1.tmp hP, upd_same, r1.new_notin hP, .nil, g1⟩, ?_⟩
    rintro i k H2 ⟨rfl, hi, m2, s2, acc, accV, l2, r2, hD, nD, pA, g2⟩
    by_cases hlt : i < it.xs.length
    · have hx : it.xs[i]? = some it.xs[i] := by simp [hlt]
      have hd : it.xs.drop i = it.xs[i] :: it.xs.drop (i + 1) := List.drop_eq_getElem_cons hlt
      rw [hd] at g2
      unfold lcL at g2
      by_cases hgd : it.guard s2
      · simp only [hgd, if_true] at g2
        obtain ⟨hall, _⟩ := p1 m2 H2 s2 l2 r2 hgd
        obtain ⟨hgo, hy⟩ := hall i _ hx
        refine .inr ⟨hgo, fun H' => ∃ m2 s2 acc accV, Le X.K m1 H1 m2 H' ∧ Rel X.K m2 H' s2 ∧ H' P = some (.lst accV) ∧ P ∉ m2 ∧ Reps X.K m2 H' acc accV ∧
          G X.K X.mg (Rep X.K) W σ m1 H1 Q ((lcL it.guard gt ft fe (wipeE env vs) (it.xs.drop (i + 1)) acc s2).bind fun acc s => R.ok (D.loc s.length) (s ++ [Cell.lst acc])),
          fun H' q => ⟨it.xs.length - (i + 1), by omega, rfl, hlt, q⟩, fun v H3 y => ?_⟩
        obtain ⟨l3, r3, p3⟩ := hy v H3 y
        cases q : gt it.xs[i] (wipeE env vs) with
        | none => simp only [q] at g2; exact g2.elim
        | some env3 =>
          simp only [q] at g2
          have l13 := l2.trans l3
          have hD3 := l3.fr P _ hD nD
          refine ⟨m2, wipeE env vs, s2, it.xs[i], env3, r3, relE_wipe (E1.mono l13) vs, p3, q, fun σ4 E4 k4 n4 => ⟨by rw [wipe_congr n4 k4, wipe_wipe], m2, env3, s2, r3, E4, ?_⟩⟩
          cases ht : ft env3 s2 with
          | no => rw [ht] at g2; exact g2.elim
          | ex x s4 => rw [ht] at g2; exact g2.elim
          | ok b s4 =>
            simp only [ht] at g2
            intro m5 H5 b' l5 r5 eb
            cases (show b = b' from eb)
            have hD5 := l5.fr P _ hD3 nD
            have nD5 : P ∉ m5 := fun z => by
              rcases l5.nw P z with w | w
              · exact nD w
              · rw [hD3] at w; cases w
            have l15 := l13.trans l5
            cases b with
            | false =>
              refine iteF ⟨m5, s4, acc, accV, l15, r5, hD5, nD5, (pA.mono l3).mono l5, ?_⟩
              simpa using g2
            | true =>
              simp only [if_true] at g2
              refine iteT ⟨m5, env3, s4, r5, E4.mono l5, ?_⟩
              cases he : fe env3 s4 with
              | no => rw [he] at g2; exact g2.elim
              | ex x s6 => rw [he] at g2; exact g2.elim
              | ok y s6 =>
                simp only [he] at g2
                by_cases hz : acc.length < sizeLine
                · simp only [hz, if_true] at g2
                  intro m7 H7 yv l7 r7 p7
                  have hD7 := l7.fr P _ hD5 nD5
                  have nD7 : P ∉ m7 := fun z => by
                    rcases l7.nw P z with w | w
                    · exact nD5 w
                    · rw [hD5] at w; cases w
                  have pA7 := ((pA.mono l3).mono l5).mono l7
                  exact ⟨accV, hD7, by rw [← pA.length]; exact hz, m7, s6, acc ++ [y], accV ++ [yv], (l15.trans l7).side hP hD7, r7.side hD7 nD7, upd_same, nD7,
                    (pA7.monoW (lw_side hD7)).append (.cons (p7.monoW (lw_side hD7)) .nil), g2⟩
                · simp only [hz, if_false] at g2
                  exact g2.elim
      · simp only [hgd, if_false] at g2
        exact g2.elim
    · have e : i = it.xs.length := by omega
      subst e
      rw [List.drop_length] at g2
      unfold lcL at g2
      by_cases hgd : it.guard s2
      · simp only [hgd, if_true] at g2
        refine .inl ⟨(p1 m2 H2 s2 l2 r2 hgd).2, ?_⟩
        exact g2 (m2 ++ [P]) H2 (.ref P) (l2.adopt hP) (r2.adopt nD hD pA) (.loc (len_get r2))
      · simp only [hgd, if_false] at g2
        exact g2.elim
variable {elt tg iter c : Expr} {ifs : List Expr} {scope : Scope} {own : List (Str × Nat)} {pos : Pos} {fi : ME Itm} {gt : D → Sl → Option Sl} {ft : ME Bool} {fe : ME D}
theorem cts_nil : PTs X [] (Tt X.K X.mg W tT) := ⟨fun pins s σ H Q I ⟨m, env, st, r, E, g⟩ => pts_nil.run pins s σ H Q I (g.nowB r)⟩
theorem cts_one (h : PT X c (Tt X.K X.mg W ft)) : PTs X [c] (Tt X.K X.mg W ft) := pts_one h
theorem ce_lc (hc : X.calm = true) (hN : X.N.Nodup) (hi : PI X tg iter (Ti X.K X.mg W fi)) (ok : BlkOk X.N X.env.scope scope own)
    (hg : ∀ (s : Shared) (H : Hp) (C : Addr) (cl : List (Str × Addr)) (fp : List Addr), PG (X.blk s H scope (compEnvC scope cl C X.env) fp) tg (GTm X.K (own.map (·.2)) gt)) (ht : ∀ (s : Shared) (H : Hp) (C : Addr) (cl : List (Str × Addr)) (fp : List Addr), PTs (X.blk s H scope (compEnvC scope cl C X.env) fp) ifs (Tt X.K X.mg WF ft))
    (he : ∀ (s : Shared) (H : Hp) (C : Addr) (cl : List (Str × Addr)) (fp : List Addr), PE (X.blk s H scope (compEnvC scope cl C X.env) fp) elt (Te X.K X.mg WF fe)) (hs : ∀ x, foldedSetIterable iter X.env x = pure x := by intro _; rfl) :
    PE X (.ListComp elt [⟨tg, iter, ifs, 0⟩] scope pos) (Te X.K X.mg W (eLc fi (own.map (·.2)) gt ft fe)) := PE.imp (pe_lc hc hN hi ok hg ht he hs) lc_run
theorem cs_setLc {i : Nat} {y : Str} {py spos : Pos} (hc : X.calm = true) (hN : X.N.Nodup) (hy : X.N[i]? = some y) (hyl : X.env.scope.names.lookup y = some .local)
    (hsw : swapsWith (.ListComp elt [⟨tg, iter, ifs, 0⟩] scope pos) (some (.Name y py)) spos.line X.env = pure true) (hi : PI X tg iter (Ti X.K X.mg W fi)) (ok : BlkOk X.N X.env.scope scope own)
    (hg : ∀ (s : Shared) (H : Hp) (C : Addr) (cl : List (Str × Addr)) (fp : List Addr), PG (X.blk s H scope (compEnvC scope cl C X.env) fp) tg (GTm X.K (own.map (·.2)) gt)) (ht : ∀ (s : Shared) (H : Hp) (C : Addr) (cl : List (Str × Addr)) (fp : List Addr), PTs (X.blk s H scope (compEnvC scope cl C X.env) fp) ifs (Tt X.K X.mg WF ft))
    (he : ∀ (s : Shared) (H : Hp) (C : Addr) (cl : List (Str × Addr)) (fp : List Addr), PE (X.blk s H scope (compEnvC scope cl C X.env) fp) elt (Te X.K X.mg WF fe)) (hs : ∀ x, foldedSetIterable iter X.env x = pure x := by intro _; rfl) :
    PS X (.Assign [.Name y py] (.ListComp elt [⟨tg, iter, ifs, 0⟩] scope pos) spos) (Ts X.K X.mg W (sSet i (eLc fi (own.map (·.2)) gt ft fe))) := PS.imp (ps_setLc (i := i) hc hN hy hyl hsw hi ok hg ht he hs) fun Dn σ H h =>
  lc_run σ H _ (Ts.ofE (k := fun env d s => RS.nx (env.set i (some d)) s) h fun m1 H1 env d v s1 r1 E1 p1 g1 => g1 m1 _ H1 .refl r1 (relE_set E1 p1 i))
end
/-! ### a def -/
/-- the mirror of a def: N names, n of them parameters -/
def fnM (N n : Nat) (b : MS) : List D → Store → R D := fun ds s => match b (ds.map some ++ List.replicate (N - n) none) s with
  | .rt d s => .ok d s
  | .nx _ s => .ok .non s
  | .ex e _ s => .ex e s
  | _ => .no
theorem relE_start {K : PySem.W.Frag} {m : List Addr} {H : Hp} {N : List Str} {ds : List D} {vs : List V} (p : Reps K m H ds vs) : RelE K m H (ds.map some ++ List.replicate (N.length - ds.length) none) (L2.start N vs) := by
  have hl := p.length
  refine ⟨by simp [L2.start, hl], fun i d h => ?_⟩
  by_cases hi : i < ds.length
  · rw [List.getElem?_append_left (by simpa using hi), List.getElem?_map] at h
    cases q : ds[i]? with
    | none => rw [q] at h; cases h
    | some d' =>
      rw [q] at h; cases h
      obtain ⟨v, h1, h2⟩ := p.get q
      refine ⟨v, ?_, h2⟩
      unfold L2.start
      rw [List.getElem?_append_left (by simpa using (hl ▸ hi)), List.getElem?_map, h1]
      rfl
  · rw [List.getElem?_append_right (by simpa using Nat.le_of_not_lt hi), List.getElem?_replicate] at h
    split at h <;> cases h
theorem okM {P : Program} {w : World} {K : PySem.W.Frag} {mg : Str → Option Value} {base : Heap} {x qual : Str} {st : Stmt} {f : Addr} {fd : FuncData} {N ps : List Str} {k n : Nat} {b : MS} (F : Fun K x qual st f fd) (S : FnScope N ps (defScope st)) (hn : ps.length = n)
    (hb : ∀ (cdv : Value) (A : Around) (outer : List Env) (s : Shared) (H : Hp) (E : XK), Room k (A.deeper (envOfC qual (defScope st) s.heap.objs.size f cdv)) → Takes (cxOf (L2.CX P w) P w K mg base N qual (defScope st) f cdv A outer s H E) (fun c d _ H => E c d H) →
      PSs (cxOf (L2.CX P w) P w K mg base N qual (defScope st) f cdv A outer s H E) (defBody st) (Ts K mg (fun c d _ H => E c d H) b)) :
    FnOk P w K mg base (L2.CX P w) (k + 1) f fd ps (spM K mg n (fnM N.length n b)) := by
  refine F.okX S (fun vs H Q E h => by rw [hn]; exact h.1) fun cdv A outer s H vs Q E hr h => ⟨_, hb cdv A outer s H E hr (takes_of rfl rfl rfl rfl), ?_⟩
  obtain ⟨hl, m, s, ds, r, p, g⟩ := h
  refine ⟨m, _, s, r, relE_start (N := N) p, ?_⟩
  have hd : ds.length = n := by rw [p.length, hl]
  unfold fnM at g
  rw [hd]
  cases q : b (ds.map some ++ List.replicate (N.length - n) none) s with
  | nx env s1 => rw [q] at g; exact fun m' σ' H' l r' _ => g m' H' .non l r' .non
  | rt d s1 => rw [q] at g; exact g
  | ex e env s1 => rw [q] at g; exact fun m' σ' H' c dd l r' _ x => g m' H' c dd l r' x
  | bk env s1 => rw [q] at g; exact g.elim
  | ct env s1 => rw [q] at g; exact g.elim
  | no => rw [q] at g; exact g.elim
end Mi
namespace Mi
open PySem PySem.Spec PyProof.Rows L2
/-! ### the law's end -/
theorem an_nil : ∀ (xs : List D) (s : Store) (env : Sl) (s' : Store), aNil env s = .ok xs s' → xs.length = 0 := fun xs s env s' h => by cases h; rfl
theorem an_cons {a : ME D} {r : ME (List D)} {n : Nat} (h : ∀ (xs : List D) (s : Store) (env : Sl) (s' : Store), r env s = .ok xs s' → xs.length = n) :
    ∀ (xs : List D) (s : Store) (env : Sl) (s' : Store), aCons a r env s = .ok xs s' → xs.length = n + 1 := fun xs s env s' e => by
  unfold aCons at e
  cases q : a env s with
  | no => rw [q] at e; cases e
  | ex x s1 => rw [q] at e; cases e
  | ok x s1 =>
    rw [q] at e
    simp only [R.bind_ok] at e
    cases q2 : r env s1 with
    | no => rw [q2] at e; cases e
    | ex x s2 => rw [q2] at e; cases e
    | ok ys s2 =>
      rw [q2] at e
      simp only [R.bind_ok] at e
      have z := h ys s1 env s2 q2
      cases e
      rw [List.length_cons, z]
def dAddI : D → D → Store → Option (D × Store) := dI fun i j => some (.int (i + j))
theorem ips_add {K : PySem.W.Frag} : OpS K (ipI fun i j => i + j) dAddI := fun {mg W σ m H s x y dx dy Q} r px py g => ops_dI0 (K := K) (gv := fun i j => .int (i + j)) (fun _ _ _ _ => .int _) r px py g
theorem ips_sub {K : PySem.W.Frag} : OpS K (ipI fun i j => i - j) dSub := fun {mg W σ m H s x y dx dy Q} r px py g => ops_sub (K := K) r px py g
theorem cx_none {P : Program} {w : World} {l : List Env} {H : Hp} {s : Shared} {e : Value} {s' : Shared} (h : L2.CX P w l H s (fun _ _ _ => False) e s') : False := by
  obtain ⟨_, _, _, _, _, _, _, _, _, _, _, _, z⟩ := h
  exact z
def spLaw (K : PySem.W.Frag) : Sp := fun vs H Q _ => ∃ (a : Addr) (ns : List Int), vs = [.ref a] ∧ SqL K H a (ns.map V.int) ∧ ns.length ≤ 63 ∧ Only H ∧ ∀ H', Q (.bl true) H'
theorem law_imp {K : PySem.W.Frag} {mg : Str → Option Value} {g : List D → Store → R D} (h : ∀ ns : List Int, ns.length ≤ 63 → ∃ s, g [.fl (ns.map D.int)] [] = .ok (.bl true) s) :
    ∀ vs H Q E, spLaw K vs H Q E → spM K mg 1 g vs H Q E := fun vs H Q E ⟨a, ns, e, hS, hl, hO, q⟩ => by
  subst e
  refine ⟨rfl, [], [], [.fl (ns.map D.int)], ⟨rfl, List.nodup_nil, fun l a c h => by simp at h⟩, .cons (.fl (vs := ns.map V.int) ?_ (reps_ints ns)) .nil, ?_⟩
  · rcases hS with (hS | hS) | hS
    · rcases hO a with z | ⟨o, xs, z⟩
      · rw [hS] at z; cases z
      · rw [hS] at z; cases z
    · exact .inl hS
    · exact .inr hS
  · obtain ⟨s, e⟩ := h ns hl
    rw [e]
    intro m' H' v _ _ p
    cases p
    exact q H'
end Mi
namespace Mi
open PySem PySem.Spec PyProof.Rows L2
/-! ### running a mirror by simp -/
@[simp] theorem line_num : sizeLine = 16777216 := sizeLine_eq
/-- what range(n) gives -/
def rng (n : Nat) : List D := (List.range n).map fun i => .int ((0 : Int) + (i : Nat))
section
variable (env : Sl) (s : Store)
@[simp] theorem eC_eq (d : D) : eC d env s = .ok d s := rfl
@[simp] theorem eV_0 (d : D) (r : Sl) : eV 0 (some d :: r) s = .ok d s := rfl
@[simp] theorem eV_s (i : Nat) (o : Option D) (r : Sl) : eV (i + 1) (o :: r) s = eV i r s := rfl
@[simp] theorem e2_eq (g) (a b : ME D) : e2 g a b env s = (a env s).bind fun x s => (b env s).bind fun y s => R.of (g x y s) := rfl
@[simp] theorem e1_eq (g) (a : ME D) : e1 g a env s = (a env s).bind fun x s => R.of (g x s) := rfl
@[simp] theorem aNil_eq : aNil env s = .ok [] s := rfl
@[simp] theorem aCons_eq (a : ME D) (r : ME (List D)) : aCons a r env s = (a env s).bind fun x s => (r env s).bind fun xs s => .ok (x :: xs) s := rfl
@[simp] theorem eFn_eq (g) (a : ME (List D)) : eFn g a env s = (a env s).bind fun xs s => R.of (g xs s) := rfl
theorem le_line {n : Nat} (h : n ≤ 1000000) : n ≤ sizeLine := by rw [sizeLine_eq]; omega
theorem lt_line {n : Nat} (h : n ≤ 1000000) : n < sizeLine := by rw [sizeLine_eq]; omega
@[simp] theorem eTup_eq (a : ME (List D)) : eTup a env s = (a env s).bind fun xs s => if xs.length ≤ sizeLine then .ok (.tup xs) s else .no := rfl
@[simp] theorem eLst_eq (a : ME (List D)) : eLst a env s = (a env s).bind fun xs s => if xs.length ≤ sizeLine then .ok (.loc s.length) (s ++ [.lst xs]) else .no := rfl
/-- written displays -/
def arity : ME (List D) → Nat → Prop := fun a n => ∀ env s xs s', a env s = .ok xs s' → xs.length = n
theorem tup_short (xs : List D) (h : xs.length ≤ 1000000) : (if xs.length ≤ sizeLine then (R.ok (D.tup xs) s : R D) else .no) = .ok (.tup xs) s := if_pos (le_line h)
@[simp] theorem eCall_eq (g : List D → Store → R D) (a : ME (List D)) : eCall g a env s = (a env s).bind g := rfl
@[simp] theorem tV_eq (a : ME D) : tV a env s = (a env s).bind fun x s => match x with | .bl b => .ok b s | _ => .no := rfl
@[simp] theorem tAnd_eq (a b : ME Bool) : tAnd a b env s = (a env s).bind fun x s => if x then b env s else .ok false s := rfl
@[simp] theorem tOr_eq (a b : ME Bool) : tOr a b env s = (a env s).bind fun x s => if x then .ok true s else b env s := rfl
@[simp] theorem tNot_eq (a : ME Bool) : tNot a env s = (a env s).bind fun x s => .ok (!x) s := rfl
@[simp] theorem eIf_eq (c : ME Bool) (a b : ME D) : eIf c a b env s = (c env s).bind fun x s => if x then a env s else b env s := rfl
@[simp] theorem eAnd_eq (a b : ME D) : eAnd a b env s = (a env s).bind fun x s => match x with | .bl true => b env s | .bl false => .ok (.bl false) s | _ => .no := rfl
@[simp] theorem eOr_eq (a b : ME D) : eOr a b env s = (a env s).bind fun x s => match x with | .bl true => .ok (.bl true) s | .bl false => b env s | _ => .no := rfl
@[simp] theorem eNot_eq (a : ME D) : eNot a env s = (a env s).bind fun x s => match x with | .bl c => .ok (.bl !c) s | _ => .no := rfl
@[simp] theorem eChain_eq (g g') (a b c : ME D) : eChain g g' a b c env s = (a env s).bind fun x s => (b env s).bind fun y s => (R.of (g x y s)).bind fun z s => match z with
  | .bl true => (c env s).bind fun w s => R.of (g' y w s)
  | .bl false => .ok (.bl false) s
  | _ => .no := rfl
@[simp] theorem eMt_eq (T : String) (g) (a : ME D) (fs : ME (List D)) : eMt T g a fs env s = (a env s).bind fun x s => if tyOk T s x = true then (fs env s).bind fun xs s => R.of (g x xs s) else .no := rfl
@[simp] theorem eMt0_eq (T : String) (g) (a : ME D) : eMt0 T g a env s = (a env s).bind fun x s => if tyOk T s x = true then R.of (g x [] s) else .no := rfl
@[simp] theorem oNone_eq : oNone env s = .ok none s := rfl
@[simp] theorem oSome_eq (a : ME D) : oSome a env s = (a env s).bind fun x s => match x with | .int i => .ok (some i) s | _ => .no := rfl
@[simp] theorem eSl_eq (g) (a : ME D) (lo hi : ME (Option Int)) : eSl g a lo hi env s = (a env s).bind fun x s => (lo env s).bind fun l s => (hi env s).bind fun u s => R.of (g x l u s) := rfl
@[simp] theorem gN_eq (i : Nat) (d : D) : gN i d env = some (env.set i (some d)) := rfl
@[simp] theorem gsN_eq : gsN [] env = some env := rfl
@[simp] theorem gsC_eq (g) (r) (x : D) (xs : List D) : gsC g r (x :: xs) env = (g x env).bind (r xs) := rfl
@[simp] theorem gT_eq (n : Nat) (r) (xs : List D) : gT n r (.tup xs) env = if xs.length = n then r xs env else none := rfl
@[simp] theorem sNil_eq : sNil env s = .nx env s := rfl
@[simp] theorem sSeq_eq (f g : MS) : sSeq f g env s = (f env s).bind g := rfl
@[simp] theorem sSet_eq (i : Nat) (e : ME D) : sSet i e env s = (e env s).then env fun d s => .nx (env.set i (some d)) s := rfl
@[simp] theorem sAsg_eq (g) (e : ME D) : sAsg g e env s = (e env s).then env fun d s => match g d env with | some env' => .nx env' s | none => .no := rfl
@[simp] theorem sIf_eq (c : ME Bool) (f g : MS) : sIf c f g env s = (c env s).then env fun b s => if b then f env s else g env s := rfl
@[simp] theorem sRet_eq (e : ME D) : sRet e env s = (e env s).then env fun d s => .rt d s := rfl
@[simp] theorem sRetN_eq : sRetN env s = .rt .non s := rfl
@[simp] theorem sExpr_eq (e : ME D) : sExpr e env s = (e env s).then env fun _ s => .nx env s := rfl
@[simp] theorem sBrk_eq : sBrk env s = .bk env s := rfl
@[simp] theorem sCnt_eq : sCnt env s = .ct env s := rfl
@[simp] theorem sPut_eq (g) (o i e : ME D) : sPut g o i e env s = (e env s).then env fun d s => (o env s).then env fun x s => (i env s).then env fun y s => match g x y d s with
  | some s' => .nx env s'
  | none => .no := rfl
@[simp] theorem sFor_eq (it : ME Itm) (g) (b : MS) : sFor it g b env s = (it env s).then env fun i s => forL i.guard g b i.xs env s := rfl
@[simp] theorem eLc_eq (it : ME Itm) (vs g t e) : eLc it vs g t e env s = (it env s).bind fun i s => (lcL i.guard g t e (wipeE env vs) i.xs [] s).bind fun acc s => .ok (.loc s.length) (s ++ [.lst acc]) := rfl
@[simp] theorem tT_eq : tT env s = .ok true s := rfl
@[simp] theorem iSeq_eq (a : ME D) : iSeq a env s = (a env s).bind fun x s => match x with
  | .tup xs => .ok (Itm.mk xs always) s
  | .fl xs => .ok (Itm.mk xs always) s
  | .str z => .ok (Itm.mk (z.cps.toList.map fun c => .str ⟨#[c]⟩) always) s
  | .loc l => match s[l]? with
    | some (.lst xs) => .ok (Itm.mk xs fun s2 => s2[l]? = some (.lst xs)) s
    | _ => .no
  | _ => .no := rfl
noncomputable def rangeOf (x : List D) (s : Store) : R Itm := match x with
  | [.int j] => if InR j then .ok (Itm.mk (rng j.toNat) always) s else .no
  | _ => .no
@[simp] theorem iRange1_eq (a : ME (List D)) : iRange1 a env s = (a env s).bind rangeOf := (rfl)
theorem big62 : (1000000000 : Int) < 2 ^ 62 := by decide
@[simp] theorem rangeOf_int (j : Int) (h0 : 0 ≤ j) (h1 : j ≤ 1000000000) : rangeOf [.int j] s = .ok (Itm.mk (rng j.toNat) always) s :=
  if_pos ⟨Int.le_trans (by decide) h0, Int.lt_of_le_of_lt h1 big62⟩
noncomputable def rangeOf2 (x : List D) (s : Store) : R Itm := match x with
  | [.int i, .int j] => if InR i ∧ InR j then .ok (Itm.mk ((List.range (j - i).toNat).map fun k => .int (i + (k : Nat))) always) s else .no
  | _ => .no
@[simp] theorem iRange2_eq (a : ME (List D)) : iRange2 a env s = (a env s).bind rangeOf2 := (rfl)
@[simp] theorem rangeOf2_int (i j : Int) (h0 : 0 ≤ i) (h1 : i ≤ 1000000000) (h2 : 0 ≤ j) (h3 : j ≤ 1000000000) : rangeOf2 [.int i, .int j] s = .ok (Itm.mk ((List.range (j - i).toNat).map fun k => .int (i + (k : Nat))) always) s :=
  if_pos ⟨⟨Int.le_trans (by decide) h0, Int.lt_of_le_of_lt h1 big62⟩, Int.le_trans (by decide) h2, Int.lt_of_le_of_lt h3 big62⟩
@[simp] theorem wipeE_nil : wipeE env [] = env := rfl
@[simp] theorem wipeE_cons (v : Nat) (vs : List Nat) : wipeE env (v :: vs) = (wipeE env vs).set v none := rfl
@[simp] theorem forL_nil_always (g) (b : MS) : forL always g b [] env s = .nx env s := by unfold forL; simp [always]
theorem forL_cons_always (g) (b : MS) (x : D) (xs : List D) : forL always g b (x :: xs) env s = match g x env with
    | none => .no
    | some env1 => match b env1 s with
      | .nx env2 s2 => forL always g b xs env2 s2
      | .ct env2 s2 => forL always g b xs env2 s2
      | .bk env2 s2 => .nx env2 s2
      | .rt d s2 => .rt d s2
      | .ex e env2 s2 => .ex e env2 s2
      | .no => .no := by
  conv => lhs; unfold forL
  exact (if_pos trivial).trans rfl
theorem forL_nil (gd : Store → Prop) (h : gd s) (g) (b : MS) : forL gd g b [] env s = .nx env s := by unfold forL; simp [h]
theorem forL_cons (gd : Store → Prop) (h : gd s) (g) (b : MS) (x : D) (xs : List D) : forL gd g b (x :: xs) env s = match g x env with
    | none => .no
    | some env1 => match b env1 s with
      | .nx env2 s2 => forL gd g b xs env2 s2
      | .ct env2 s2 => forL gd g b xs env2 s2
      | .bk env2 s2 => .nx env2 s2
      | .rt d s2 => .rt d s2
      | .ex e env2 s2 => .ex e env2 s2
      | .no => .no := by
  conv => lhs; unfold forL
  exact (if_pos h).trans rfl
theorem lcL_nil (gd : Store → Prop) (h : gd s) (g t e) (acc : List D) : lcL gd g t e env [] acc s = .ok acc s := by unfold lcL; simp [h]
theorem lcL_cons (gd : Store → Prop) (h : gd s) (g t e) (acc : List D) (x : D) (xs : List D) : lcL gd g t e env (x :: xs) acc s = match g x env with
    | none => .no
    | some env1 => match t env1 s with
      | .ok b s1 => if b then (match e env1 s1 with
        | .ok y s2 => if acc.length < sizeLine then lcL gd g t e env xs (acc ++ [y]) s2 else .no
        | _ => .no) else lcL gd g t e env xs acc s1
      | _ => .no := by
  conv => lhs; unfold lcL
  exact (if_pos h).trans rfl
end
@[simp] theorem dI_eq (f : Int → Int → Option D) (i j : Int) (s : Store) : dI f (.int i) (.int j) s = (f i j).map fun d => (d, s) := rfl
@[simp] theorem dAdd_int (i j : Int) (s : Store) : dAdd (.int i) (.int j) s = some (.int (i + j), s) := rfl
theorem dAdd_loc {s : Store} {l k : Nat} {xs ys : List D} (h : s[l]? = some (.lst xs)) (h2 : s[k]? = some (.lst ys)) (hz : xs.length + ys.length ≤ 1000000) : dAdd (.loc l) (.loc k) s = some (.loc s.length, s ++ [.lst (xs ++ ys)]) := by
  have q := le_line hz
  simp only [dAdd, h, h2, q, if_true]
theorem dAdd_tup {s : Store} {xs ys : List D} (hz : xs.length + ys.length ≤ 1000000) : dAdd (.tup xs) (.tup ys) s = some (.tup (xs ++ ys), s) := by
  have q := le_line hz
  simp only [dAdd, q, if_true]
@[simp] theorem dSub_int (i j : Int) (s : Store) : dSub (.int i) (.int j) s = some (.int (i - j), s) := rfl
theorem dMul_int (i j : Int) (s : Store) (h : CMul i j) : dMul (.int i) (.int j) s = some (.int (i * j), s) := by simp [dMul, h]
/-- one factor is small -/
@[simp] theorem dMul_r (i j : Int) (s : Store) (h : -(2 ^ 64) < j ∧ j < 2 ^ 64) : dMul (.int i) (.int j) s = some (.int (i * j), s) := dMul_int i j s (.inr h)
theorem dMul_l (i j : Int) (s : Store) (h : -(2 ^ 64) < i ∧ i < 2 ^ 64) : dMul (.int i) (.int j) s = some (.int (i * j), s) := dMul_int i j s (.inl h)
@[simp] theorem dDiv_int (i j : Int) (s : Store) (h : 0 < j ∧ j < 1073741824) : dDiv (.int i) (.int j) s = some (.int (i / j), s) := by
  have q : CDiv i j := h
  simp [dDiv, q]
@[simp] theorem dMod_int (i j : Int) (s : Store) (h : 0 < j) : dMod (.int i) (.int j) s = some (.int (i % j), s) := by simp [dMod, h]
@[simp] theorem dPow_int (i j : Int) (s : Store) (h : 0 ≤ j ∧ j ≤ 1000000 ∧ i.natAbs < 2 ^ 64) : dPow (.int i) (.int j) s = some (.int (i ^ j.toNat), s) := by
  have q : CPow i j := h
  simp [dPow, q]
@[simp] theorem dNeg_int (i : Int) (s : Store) : dNeg (.int i) s = some (.int (-i), s) := rfl
@[simp] theorem dLt_int (i j : Int) (s : Store) : dLt (.int i) (.int j) s = some (.bl (decide (i < j)), s) := rfl
@[simp] theorem dLe_int (i j : Int) (s : Store) : dLe (.int i) (.int j) s = some (.bl (decide (i ≤ j)), s) := rfl
@[simp] theorem dGt_int (i j : Int) (s : Store) : dGt (.int i) (.int j) s = some (.bl (decide (j < i)), s) := rfl
@[simp] theorem dGe_int (i j : Int) (s : Store) : dGe (.int i) (.int j) s = some (.bl (decide (j ≤ i)), s) := rfl
@[simp] theorem dEq_int (i j : Int) (s : Store) : dEq (.int i) (.int j) s = some (.bl (decide (i = j)), s) := rfl
@[simp] theorem dNe_int (i j : Int) (s : Store) : dNe (.int i) (.int j) s = some (.bl (!decide (i = j)), s) := rfl
@[simp] theorem dEq_bl (i j : Bool) (s : Store) : dEq (.bl i) (.bl j) s = some (.bl (decide (i = j)), s) := rfl
@[simp] theorem dNe_bl (i j : Bool) (s : Store) : dNe (.bl i) (.bl j) s = some (.bl (!decide (i = j)), s) := rfl
@[simp] theorem dEq_str (i j : Str) (s : Store) : dEq (.str i) (.str j) s = some (.bl (decide (i = j)), s) := rfl
@[simp] theorem dNe_str (i j : Str) (s : Store) : dNe (.str i) (.str j) s = some (.bl (!decide (i = j)), s) := rfl
@[simp] theorem dIs_non_non (s : Store) : dIs .non .non s = some (.bl true, s) := rfl
@[simp] theorem dIs_int_non (i : Int) (s : Store) : dIs (.int i) .non s = some (.bl false, s) := rfl
@[simp] theorem dIs_bl_bl (i j : Bool) (s : Store) : dIs (.bl i) (.bl j) s = some (.bl (decide (i = j)), s) := rfl
@[simp] theorem dIs_str_non (i : Str) (s : Store) : dIs (.str i) .non s = some (.bl false, s) := rfl
@[simp] theorem dIs_tup_non (i : List D) (s : Store) : dIs (.tup i) .non s = some (.bl false, s) := rfl
@[simp] theorem dIsNot_non_non (s : Store) : dIsNot .non .non s = some (.bl false, s) := rfl
@[simp] theorem dIsNot_int_non (i : Int) (s : Store) : dIsNot (.int i) .non s = some (.bl true, s) := rfl
@[simp] theorem dIsNot_bl_bl (i j : Bool) (s : Store) : dIsNot (.bl i) (.bl j) s = some (.bl (!decide (i = j)), s) := rfl
@[simp] theorem dIsNot_str_non (i : Str) (s : Store) : dIsNot (.str i) .non s = some (.bl true, s) := rfl
@[simp] theorem dIsNot_tup_non (i : List D) (s : Store) : dIsNot (.tup i) .non s = some (.bl true, s) := rfl
@[simp] theorem dInt_int (i : Int) (s : Store) : dInt [.int i] s = some (.int i, s) := rfl
@[simp] theorem dInt_bl (i : Bool) (s : Store) : dInt [.bl i] s = some (.int (if i then 1 else 0), s) := rfl
theorem dMax2_int (i j : Int) (s : Store) : dMax2 [.int i, .int j] s = some (.int (if j > i then j else i), s) := rfl
theorem dMin2_int (i j : Int) (s : Store) : dMin2 [.int i, .int j] s = some (.int (if j < i then j else i), s) := rfl
theorem max_if (i j : Int) : (if j > i then j else i) = max i j := by
  rw [Int.max_def]; split <;> split <;> omega
theorem min_if (i j : Int) : (if j < i then j else i) = min i j := by
  rw [Int.min_def]; split <;> split <;> omega
@[simp] theorem dMax2_max (i j : Int) (s : Store) : dMax2 [.int i, .int j] s = some (.int (max i j), s) := by rw [dMax2_int, max_if]
@[simp] theorem dMin2_min (i j : Int) (s : Store) : dMin2 [.int i, .int j] s = some (.int (min i j), s) := by rw [dMin2_int, min_if]
@[simp] theorem lstOf_fl (s : Store) (xs : List D) : lstOf s (.fl xs) = some xs := rfl
theorem lstOf_loc {s : Store} {l : Nat} {xs : List D} (h : s[l]? = some (.lst xs)) : lstOf s (.loc l) = some xs := by simp [lstOf, h]
@[simp] theorem seqOf_tup (s : Store) (xs : List D) : seqOf s (.tup xs) = some xs := rfl
@[simp] theorem seqOf_fl (s : Store) (xs : List D) : seqOf s (.fl xs) = some xs := rfl
theorem seqOf_loc {s : Store} {l : Nat} {xs : List D} (h : s[l]? = some (.lst xs)) : seqOf s (.loc l) = some xs := by simp [seqOf, lstOf, h]
@[simp] theorem dLen_tup (s : Store) (xs : List D) : dLen [.tup xs] s = some (.int xs.length, s) := rfl
@[simp] theorem dLen_fl (s : Store) (xs : List D) : dLen [.fl xs] s = some (.int xs.length, s) := rfl
theorem dLen_loc {s : Store} {l : Nat} {xs : List D} (h : s[l]? = some (.lst xs)) : dLen [.loc l] s = some (.int xs.length, s) := by simp [dLen, seqOf, lstOf, h]
@[simp] theorem dTuple_tup (s : Store) (xs : List D) : dTuple [.tup xs] s = some (.tup xs, s) := rfl
theorem dTuple_loc {s : Store} {l : Nat} {xs : List D} (h : s[l]? = some (.lst xs)) : dTuple [.loc l] s = some (.tup xs, s) := by simp [dTuple, seqOf, lstOf, h]
theorem dSum_loc {s : Store} {l : Nat} {ns : List Int} (h : s[l]? = some (.lst (ns.map D.int))) : dSum [.loc l] s = some (.int ns.sum, s) := by simp [dSum, lstOf, h, intsOf_map]
theorem dIx_tup (s : Store) (xs : List D) (i : Int) : dIx (.tup xs) (.int i) s = (atI xs i).map fun d => (d, s) := rfl
theorem dIx_loc {s : Store} {l : Nat} {xs : List D} (h : s[l]? = some (.lst xs)) (i : Int) : dIx (.loc l) (.int i) s = (atI xs i).map fun d => (d, s) := by simp [dIx, seqOf, lstOf, h]
theorem atI_ofNat (xs : List D) (j : Nat) (d : D) (h : xs[j]? = some d) : atI xs (j : Int) = some d := atI_nat h
@[simp] theorem atI_zero (x : D) (xs : List D) : atI (x :: xs) 0 = some x := atI_nat (j := 0) rfl
@[simp] theorem atI_one (x y : D) (xs : List D) : atI (x :: y :: xs) 1 = some y := atI_nat (j := 1) rfl
@[simp] theorem atI_two (x y z : D) (xs : List D) : atI (x :: y :: z :: xs) 2 = some z := atI_nat (j := 2) rfl
@[simp] theorem atI_three (x y z w : D) (xs : List D) : atI (x :: y :: z :: w :: xs) 3 = some w := atI_nat (j := 3) rfl
theorem dAppend_loc {s : Store} {l : Nat} {xs : List D} (h : s[l]? = some (.lst xs)) (hz : xs.length ≤ 1000000) (y : D) : dAppend (.loc l) [y] s = some (.non, s.set l (.lst (xs ++ [y]))) := by
  have q := lt_line hz
  simp only [dAppend, h, q, if_true]
theorem dPop_loc {s : Store} {l : Nat} {xs : List D} {y : D} (h : s[l]? = some (.lst (xs ++ [y]))) : dPop (.loc l) [] s = some (y, s.set l (.lst xs)) := by simp [dPop, h]
theorem tyOk_list {s : Store} {l : Nat} {xs : List D} (h : s[l]? = some (.lst xs)) : tyOk "list" s (.loc l) = true := by simp [tyOk, h]
theorem pList_loc {s : Store} {l : Nat} {xs : List D} (h : s[l]? = some (.lst xs)) (j : Nat) (hj : j < xs.length) (z : D) : pList (.loc l) (.int j) z s = some (s.set l (.lst (xs.set j z))) := by
  have e : ixN xs.length (j : Int) = some j := by
    unfold ixN
    rw [if_pos (by omega), if_pos (by omega)]
    simp
  simp [pList, h, e]
theorem pList_zero {s : Store} {l : Nat} {x : D} {xs : List D} (h : s[l]? = some (.lst (x :: xs))) (z : D) : pList (.loc l) (.int 0) z s = some (s.set l (.lst (z :: xs))) :=
  pList_loc h 0 (by simp) z
@[simp] theorem fnM_eq (N n : Nat) (b : MS) (ds : List D) (s : Store) : fnM N n b ds s = match b (ds.map some ++ List.replicate (N - n) none) s with
  | .rt d s => .ok d s
  | .nx _ s => .ok .non s
  | .ex e _ s => .ex e s
  | _ => .no := rfl
/-! ### stores: what stays -/
/-- all places of s but p are as they were -/
def Kp (p : Nat) (s s' : Store) : Prop := s.length ≤ s'.length ∧ ∀ l, l < s.length → l ≠ p → s'[l]? = s[l]?
theorem Kp.refl (p : Nat) (s : Store) : Kp p s s := ⟨Nat.le_refl _, fun _ _ _ => rfl⟩
theorem Kp.trans {p : Nat} {s s1 s2 : Store} (a : Kp p s s1) (b : Kp p s1 s2) : Kp p s s2 :=
  ⟨Nat.le_trans a.1 b.1, fun l h n => (b.2 l (Nat.lt_of_lt_of_le h a.1) n).trans (a.2 l h n)⟩
theorem Kp.set (p : Nat) (s : Store) (c : Cell) : Kp p s (s.set p c) := ⟨by simp, fun l _ n => List.getElem?_set_ne (Ne.symm n)⟩
theorem Kp.app (p : Nat) (s r : Store) : Kp p s (s ++ r) := ⟨by simp, fun l h _ => List.getElem?_append_left h⟩
theorem Kp.get {p : Nat} {s s' : Store} (a : Kp p s s') {l : Nat} {c : Cell} (h : s[l]? = some c) (n : l ≠ p) : s'[l]? = some c := by
  rw [a.2 l (by
    rcases Nat.lt_or_ge l s.length with q | q
    · exact q
    · rw [List.getElem?_eq_none q] at h; cases h) n]
  exact h
theorem lt_of_get {s : Store} {l : Nat} {c : Cell} (h : s[l]? = some c) : l < s.length := by
  rcases Nat.lt_or_ge l s.length with q | q
  · exact q
  · rw [List.getElem?_eq_none q] at h; cases h
theorem get_new (s : Store) (c : Cell) : (s ++ [c])[s.length]? = some c := by simp
theorem get_set {s : Store} {l : Nat} {c c' : Cell} (h : s[l]? = some c) : (s.set l c')[l]? = some c' := List.getElem?_set_self (lt_of_get h)
/-! #### isinstance -/
@[simp] theorem kit_NoneType_int : kitB "NoneType" "int" = some false := by decide +kernel
@[simp] theorem kit_NoneType_bool : kitB "NoneType" "bool" = some false := by decide +kernel
@[simp] theorem kit_NoneType_str : kitB "NoneType" "str" = some false := by decide +kernel
@[simp] theorem kit_NoneType_tuple : kitB "NoneType" "tuple" = some false := by decide +kernel
@[simp] theorem kit_NoneType_list : kitB "NoneType" "list" = some false := by decide +kernel
@[simp] theorem kit_NoneType_dict : kitB "NoneType" "dict" = some false := by decide +kernel
@[simp] theorem kit_bool_int : kitB "bool" "int" = some true := by decide +kernel
@[simp] theorem kit_bool_bool : kitB "bool" "bool" = some true := by decide +kernel
@[simp] theorem kit_bool_str : kitB "bool" "str" = some false := by decide +kernel
@[simp] theorem kit_bool_tuple : kitB "bool" "tuple" = some false := by decide +kernel
@[simp] theorem kit_bool_list : kitB "bool" "list" = some false := by decide +kernel
@[simp] theorem kit_bool_dict : kitB "bool" "dict" = some false := by decide +kernel
@[simp] theorem kit_int_int : kitB "int" "int" = some true := by decide +kernel
@[simp] theorem kit_int_bool : kitB "int" "bool" = some false := by decide +kernel
@[simp] theorem kit_int_str : kitB "int" "str" = some false := by decide +kernel
@[simp] theorem kit_int_tuple : kitB "int" "tuple" = some false := by decide +kernel
@[simp] theorem kit_int_list : kitB "int" "list" = some false := by decide +kernel
@[simp] theorem kit_int_dict : kitB "int" "dict" = some false := by decide +kernel
@[simp] theorem kit_str_int : kitB "str" "int" = some false := by decide +kernel
@[simp] theorem kit_str_bool : kitB "str" "bool" = some false := by decide +kernel
@[simp] theorem kit_str_str : kitB "str" "str" = some true := by decide +kernel
@[simp] theorem kit_str_tuple : kitB "str" "tuple" = some false := by decide +kernel
@[simp] theorem kit_str_list : kitB "str" "list" = some false := by decide +kernel
@[simp] theorem kit_str_dict : kitB "str" "dict" = some false := by decide +kernel
@[simp] theorem kit_tuple_int : kitB "tuple" "int" = some false := by decide +kernel
@[simp] theorem kit_tuple_bool : kitB "tuple" "bool" = some false := by decide +kernel
@[simp] theorem kit_tuple_str : kitB "tuple" "str" = some false := by decide +kernel
@[simp] theorem kit_tuple_tuple : kitB "tuple" "tuple" = some true := by decide +kernel
@[simp] theorem kit_tuple_list : kitB "tuple" "list" = some false := by decide +kernel
@[simp] theorem kit_tuple_dict : kitB "tuple" "dict" = some false := by decide +kernel
@[simp] theorem kit_list_int : kitB "list" "int" = some false := by decide +kernel
@[simp] theorem kit_list_bool : kitB "list" "bool" = some false := by decide +kernel
@[simp] theorem kit_list_str : kitB "list" "str" = some false := by decide +kernel
@[simp] theorem kit_list_tuple : kitB "list" "tuple" = some false := by decide +kernel
@[simp] theorem kit_list_list : kitB "list" "list" = some true := by decide +kernel
@[simp] theorem kit_list_dict : kitB "list" "dict" = some false := by decide +kernel
@[simp] theorem kit_dict_int : kitB "dict" "int" = some false := by decide +kernel
@[simp] theorem kit_dict_bool : kitB "dict" "bool" = some false := by decide +kernel
@[simp] theorem kit_dict_str : kitB "dict" "str" = some false := by decide +kernel
@[simp] theorem kit_dict_tuple : kitB "dict" "tuple" = some false := by decide +kernel
@[simp] theorem kit_dict_list : kitB "dict" "list" = some false := by decide +kernel
@[simp] theorem kit_dict_dict : kitB "dict" "dict" = some true := by decide +kernel
@[simp] theorem dIsi_eq (T : String) (x : D) (s : Store) : dIsi T x s = (tyN s x).bind fun t => (kitB t T).map fun b => (.bl b, s) := rfl
@[simp] theorem tyN_non (s : Store) : tyN s .non = some "NoneType" := rfl
@[simp] theorem tyN_bl (s : Store) (b : Bool) : tyN s (.bl b) = some "bool" := rfl
@[simp] theorem tyN_int (s : Store) (b : Int) : tyN s (.int b) = some "int" := rfl
@[simp] theorem tyN_str (s : Store) (b : Str) : tyN s (.str b) = some "str" := rfl
@[simp] theorem tyN_tup (s : Store) (b : List D) : tyN s (.tup b) = some "tuple" := rfl
theorem tyN_lst {s : Store} {l : Nat} {xs : List D} (h : s[l]? = some (.lst xs)) : tyN s (.loc l) = some "list" := by simp [tyN, h]
/-! ### loops by what holds between the turns -/
/-- a call's end -/
def Rets {α : Type} (P : α → Store → Prop) : R α → Prop
  | .ok d s => P d s
  | _ => False
@[simp] theorem Rets_ok {α : Type} (P : α → Store → Prop) (d : α) (s : Store) : Rets P (.ok d s) = P d s := rfl
@[simp] theorem Rets_no {α : Type} (P : α → Store → Prop) : Rets P .no = False := rfl
@[simp] theorem Rets_ex {α : Type} (P : α → Store → Prop) (e : Ex) (s : Store) : Rets P (.ex e s) = False := rfl
theorem Rets.out {α : Type} {P : α → Store → Prop} {r : R α} (h : Rets P r) : ∃ d s, r = .ok d s ∧ P d s := by
  cases r with
  | ok d s => exact ⟨d, s, rfl, h⟩
  | ex e s => exact h.elim
  | no => exact h.elim
/-- what a turn's end asks: I of the next turn, Q of leaving -/
def Turns (I : Sl → Store → Prop) (Q : RS → Prop) : RS → Prop
  | .nx env s => I env s
  | .ct env s => I env s
  | .bk env s => Q (.nx env s)
  | .rt d s => Q (.rt d s)
  | .ex e env s => Q (.ex e env s)
  | .no => False
section
variable (I : Sl → Store → Prop) (Q : RS → Prop) (env : Sl) (s : Store)
@[simp] theorem Turns_nx : Turns I Q (.nx env s) = I env s := rfl
@[simp] theorem Turns_ct : Turns I Q (.ct env s) = I env s := rfl
@[simp] theorem Turns_bk : Turns I Q (.bk env s) = Q (.nx env s) := rfl
@[simp] theorem Turns_rt (d : D) : Turns I Q (.rt d s) = Q (.rt d s) := rfl
@[simp] theorem Turns_ex (e : Ex) : Turns I Q (.ex e env s) = Q (.ex e env s) := rfl
@[simp] theorem Turns_no : Turns I Q .no = False := rfl
end
/-- store the item, run the body -/
def turn (g : D → Sl → Option Sl) (b : MS) (x : D) : MS := fun env s => match g x env with
  | none => .no
  | some env1 => b env1 s
@[simp] theorem turn_gN (i : Nat) (b : MS) (x : D) (env : Sl) (s : Store) : turn (gN i) b x env s = b (env.set i (some x)) s := rfl
@[simp] theorem turn_gT (n : Nat) (r) (b : MS) (xs : List D) (env : Sl) (s : Store) : turn (gT n r) b (.tup xs) env s = match (if xs.length = n then r xs env else none) with
  | none => .no
  | some env1 => b env1 s := rfl
theorem forL_rule {gd : Store → Prop} {g : D → Sl → Option Sl} {b : MS} (I : List D → Sl → Store → Prop) (Q : RS → Prop) (hg : ∀ xs env s, I xs env s → gd s)
    (hs : ∀ x xs env s, I (x :: xs) env s → Turns (I xs) Q (turn g b x env s)) (he : ∀ env s, I [] env s → Q (.nx env s)) : ∀ {xs : List D} {env : Sl} {s : Store}, I xs env s → Q (forL gd g b xs env s) := by
  intro xs
  induction xs with
  | nil => intro env s h; rw [forL_nil env s gd (hg _ _ _ h)]; exact he env s h
  | cons x xs ih =>
    intro env s h
    rw [forL_cons env s gd (hg _ _ _ h)]
    have h1 := hs x xs env s h
    unfold turn at h1
    cases e1 : g x env with
    | none => rw [e1] at h1; exact h1.elim
    | some env1 =>
      rw [e1] at h1
      dsimp only at h1 ⊢
      cases q : b env1 s with
      | nx env2 s2 => rw [q] at h1; exact ih h1
      | ct env2 s2 => rw [q] at h1; exact ih h1
      | bk env2 s2 => rw [q] at h1; exact h1
      | rt d s2 => rw [q] at h1; exact h1
      | ex e env2 s2 => rw [q] at h1; exact h1
      | no => rw [q] at h1; exact h1.elim
/-- a loop that runs through -/
theorem forL_thru {gd : Store → Prop} {g : D → Sl → Option Sl} {b : MS} (I : List D → Sl → Store → Prop) (hg : ∀ xs env s, I xs env s → gd s)
    (hs : ∀ x xs env s, I (x :: xs) env s → Turns (I xs) (fun _ => False) (turn g b x env s)) {xs : List D} {env : Sl} {s : Store} (h : I xs env s) : ∃ env' s', forL gd g b xs env s = .nx env' s' ∧ I [] env' s' :=
  forL_rule I (fun r => ∃ env' s', r = .nx env' s' ∧ I [] env' s') hg (fun x xs env s h => by
    have z := hs x xs env s h
    cases q : turn g b x env s with
    | nx env2 s2 => rw [q] at z; exact z
    | ct env2 s2 => rw [q] at z; exact z
    | bk env2 s2 => rw [q] at z; exact z.elim
    | rt d s2 => rw [q] at z; exact z.elim
    | ex e env2 s2 => rw [q] at z; exact z.elim
    | no => rw [q] at z; exact z.elim) (fun env s h => ⟨env, s, rfl, h⟩) h
/-! a loop over range(n) -/
theorem rng_drop {n i : Nat} (h : i < n) : (rng n).drop i = .int ((0 : Int) + (i : Nat)) :: (rng n).drop (i + 1) := by
  have hl : i < (rng n).length := by simpa [rng] using h
  rw [List.drop_eq_getElem_cons hl]
  simp [rng]
theorem rng_lt {n i : Nat} {x : D} {xs : List D} (e : x :: xs = (rng n).drop i) : i < n ∧ x = .int (i : Nat) ∧ xs = (rng n).drop (i + 1) := by
  have hlt : i < n := by
    rcases Nat.lt_or_ge i n with w | w
    · exact w
    · rw [List.drop_eq_nil_of_le (by simpa [rng] using w)] at e; cases e
  rw [rng_drop hlt] at e
  obtain ⟨rfl, rfl⟩ := List.cons.inj e
  exact ⟨hlt, by rw [Int.zero_add], rfl⟩
theorem rng_end {n i : Nat} (hi : i ≤ n) (e : [] = (rng n).drop i) : i = n := by
  rcases Nat.lt_or_ge i n with w | w
  · rw [rng_drop w] at e; cases e
  · omega
theorem forL_range {gd : Store → Prop} {g : D → Sl → Option Sl} {b : MS} (n : Nat) (I : Nat → Sl → Store → Prop) (Q : RS → Prop) (hg : ∀ i env s, i ≤ n → I i env s → gd s)
    (hs : ∀ i env s, i < n → I i env s → Turns (I (i + 1)) Q (turn g b (.int (i : Nat)) env s)) (he : ∀ env s, I n env s → Q (.nx env s)) {env : Sl} {s : Store} (h : I 0 env s) : Q (forL gd g b (rng n) env s) := by
  refine forL_rule (fun xs env s => ∃ i, i ≤ n ∧ xs = (rng n).drop i ∧ I i env s) Q (fun xs env s ⟨i, hi, _, q⟩ => hg i env s hi q) (fun x xs env s ⟨i, hi, e, q⟩ => ?_) (fun env s ⟨i, hi, e, q⟩ => ?_) ⟨0, Nat.zero_le _, rfl, h⟩
  · obtain ⟨hlt, rfl, rfl⟩ := rng_lt e
    have t1 := hs i env s hlt q
    cases hb : turn g b (.int (i : Nat)) env s with
    | nx env2 s2 => rw [hb] at t1; exact ⟨i + 1, hlt, rfl, t1⟩
    | ct env2 s2 => rw [hb] at t1; exact ⟨i + 1, hlt, rfl, t1⟩
    | bk env2 s2 => rw [hb] at t1; exact t1
    | rt d s2 => rw [hb] at t1; exact t1
    | ex x env2 s2 => rw [hb] at t1; exact t1
    | no => rw [hb] at t1; exact t1
  · have hlt := rng_end hi e
    subst hlt
    exact he env s q
theorem forL_rangeT {gd : Store → Prop} {g : D → Sl → Option Sl} {b : MS} (n : Nat) (I : Nat → Sl → Store → Prop) (hg : ∀ i env s, i ≤ n → I i env s → gd s)
    (hs : ∀ i env s, i < n → I i env s → Turns (I (i + 1)) (fun _ => False) (turn g b (.int (i : Nat)) env s)) {env : Sl} {s : Store} (h : I 0 env s) : ∃ env' s', forL gd g b (rng n) env s = .nx env' s' ∧ I n env' s' :=
  forL_range n I (fun r => ∃ env' s', r = .nx env' s' ∧ I n env' s') hg (fun i env s hi h => by
    have z := hs i env s hi h
    cases q : turn g b (.int (i : Nat)) env s with
    | nx env2 s2 => rw [q] at z; exact z
    | ct env2 s2 => rw [q] at z; exact z
    | bk env2 s2 => rw [q] at z; exact z.elim
    | rt d s2 => rw [q] at z; exact z.elim
    | ex e env2 s2 => rw [q] at z; exact z.elim
    | no => rw [q] at z; exact z.elim) (fun env s h => ⟨env, s, rfl, h⟩) h
/-! comprehensions -/
/-- one item: kept with its value, or not -/
def pick (g : D → Sl → Option Sl) (t : ME Bool) (e : ME D) (x : D) (env : Sl) (s : Store) : R (Option D) := match g x env with
  | none => .no
  | some env1 => (t env1 s).bind fun b s => if b then (e env1 s).bind fun y s => .ok (some y) s else .ok none s
@[simp] theorem pick_gN (i : Nat) (t : ME Bool) (e : ME D) (x : D) (env : Sl) (s : Store) : pick (gN i) t e x env s = (t (env.set i (some x)) s).bind fun b s => if b then (e (env.set i (some x)) s).bind fun y s => .ok (some y) s else .ok none s := rfl
@[simp] theorem pick_gT (n : Nat) (r) (t : ME Bool) (e : ME D) (xs : List D) (env : Sl) (s : Store) : pick (gT n r) t e (.tup xs) env s = match (if xs.length = n then r xs env else none) with
  | none => .no
  | some env1 => (t env1 s).bind fun b s => if b then (e env1 s).bind fun y s => .ok (some y) s else .ok none s := rfl
/-- what an item's end asks of the list so far -/
def Kept (I : List D → Store → Prop) (acc : List D) : R (Option D) → Prop
  | .ok (some y) s => acc.length ≤ 1000000 ∧ I (acc ++ [y]) s
  | .ok none s => I acc s
  | _ => False
@[simp] theorem Kept_some (I : List D → Store → Prop) (acc : List D) (y : D) (s : Store) : Kept I acc (.ok (some y) s) = (acc.length ≤ 1000000 ∧ I (acc ++ [y]) s) := rfl
@[simp] theorem Kept_none (I : List D → Store → Prop) (acc : List D) (s : Store) : Kept I acc (.ok none s) = I acc s := rfl
@[simp] theorem Kept_no (I : List D → Store → Prop) (acc : List D) : Kept I acc .no = False := rfl
theorem lcL_thru {gd : Store → Prop} {g : D → Sl → Option Sl} {t : ME Bool} {e : ME D} {env : Sl} (I : List D → List D → Store → Prop) (hg : ∀ xs acc s, I xs acc s → gd s)
    (hs : ∀ x xs acc s, I (x :: xs) acc s → Kept (I xs) acc (pick g t e x env s)) :
    ∀ {xs acc : List D} {s : Store}, I xs acc s → ∃ acc' s', lcL gd g t e env xs acc s = .ok acc' s' ∧ I [] acc' s' := by
  intro xs
  induction xs with
  | nil => intro acc s h; exact ⟨acc, s, lcL_nil env s gd (hg _ _ _ h) g t e acc, h⟩
  | cons x xs ih =>
    intro acc s h
    rw [lcL_cons env s gd (hg _ _ _ h)]
    have h1 := hs x xs acc s h
    unfold pick at h1
    cases e1 : g x env with
    | none => rw [e1] at h1; exact h1.elim
    | some env1 =>
      rw [e1] at h1
      dsimp only at h1 ⊢
      cases e2 : t env1 s with
      | no => rw [e2] at h1; exact h1.elim
      | ex x s => rw [e2] at h1; exact h1.elim
      | ok k s1 =>
        rw [e2] at h1
        simp only [R.bind_ok] at h1
        cases k with
        | false => simpa using ih (by simpa using h1)
        | true =>
          simp only [if_true] at h1 ⊢
          cases e3 : e env1 s1 with
          | no => rw [e3] at h1; exact h1.elim
          | ex x s => rw [e3] at h1; exact h1.elim
          | ok y s2 =>
            rw [e3] at h1
            obtain ⟨hz, h3⟩ := (show acc.length ≤ 1000000 ∧ I xs (acc ++ [y]) s2 from h1)
            have z := lt_line hz
            simp only [z, if_true]
            exact ih h3
/-- a comprehension that leaves the store as it is -/
theorem lcL_fm {β : Type} {gd : Store → Prop} {g : D → Sl → Option Sl} {t : ME Bool} {e : ME D} {env : Sl} {s : Store} (hg : gd s) (h : β → D) (f : β → Option D) :
    ∀ (xs : List β) (acc : List D), (∀ x ∈ xs, pick g t e (h x) env s = .ok (f x) s) → acc.length + xs.length ≤ 1000000 → lcL gd g t e env (xs.map h) acc s = .ok (acc ++ xs.filterMap f) s := by
  intro xs
  induction xs with
  | nil => intro acc _ _; rw [List.map_nil, lcL_nil env s gd hg]; simp
  | cons x xs ih =>
    intro acc hp hz
    rw [List.length_cons] at hz
    rw [List.map_cons, lcL_cons env s gd hg]
    have h1 := hp x (by simp)
    unfold pick at h1
    cases e1 : g (h x) env with
    | none => rw [e1] at h1; cases h1
    | some env1 =>
      rw [e1] at h1
      dsimp only at h1 ⊢
      cases e2 : t env1 s with
      | no => rw [e2] at h1; cases h1
      | ex x s => rw [e2] at h1; cases h1
      | ok k s1 =>
        rw [e2] at h1
        simp only [R.bind_ok] at h1
        cases k with
        | false =>
          simp at h1
          obtain ⟨h2, rfl⟩ := h1
          simp only [Bool.false_eq_true, if_false]
          rw [ih acc (fun y hy => hp y (by simp [hy])) (by omega), List.filterMap_cons, ← h2]
        | true =>
          simp only [if_true] at h1 ⊢
          cases e3 : e env1 s1 with
          | no => rw [e3] at h1; cases h1
          | ex x s => rw [e3] at h1; cases h1
          | ok y s2 =>
            rw [e3] at h1
            simp at h1
            obtain ⟨h2, rfl⟩ := h1
            have z : acc.length < sizeLine := lt_line (by omega)
            simp only [z, if_true]
            rw [ih (acc ++ [y]) (fun y hy => hp y (by simp [hy])) (by simp; omega), List.filterMap_cons, ← h2]
            simp
theorem lcL_map {β : Type} {gd : Store → Prop} {g : D → Sl → Option Sl} {t : ME Bool} {e : ME D} {env : Sl} {s : Store} (hg : gd s) (h : β → D) (f : β → D) (xs : List β)
    (hp : ∀ x ∈ xs, pick g t e (h x) env s = .ok (some (f x)) s) (hz : xs.length ≤ 1000000) : lcL gd g t e env (xs.map h) [] s = .ok (xs.map f) s := by
  have w := lcL_fm hg h (fun x => some (f x)) xs [] hp (by simpa using hz)
  rw [w]
  simp
theorem lcL_range {gd : Store → Prop} {g : D → Sl → Option Sl} {t : ME Bool} {e : ME D} {env : Sl} (n : Nat) (I : Nat → List D → Store → Prop) (hg : ∀ i acc s, i ≤ n → I i acc s → gd s)
    (hs : ∀ i acc s, i < n → I i acc s → Kept (I (i + 1)) acc (pick g t e (.int (i : Nat)) env s)) {acc : List D} {s : Store}
    (h : I 0 acc s) : ∃ acc' s', lcL gd g t e env (rng n) acc s = .ok acc' s' ∧ I n acc' s' := by
  obtain ⟨acc', s', h1, i, hi, e, h2⟩ := lcL_thru (gd := gd) (g := g) (t := t) (e := e) (env := env) (fun xs acc s => ∃ i, i ≤ n ∧ xs = (rng n).drop i ∧ I i acc s) (fun xs acc s ⟨i, hi, _, q⟩ => hg i acc s hi q) (fun x xs acc s ⟨i, hi, e, q⟩ => by
    obtain ⟨hlt, rfl, rfl⟩ := rng_lt e
    have z := hs i acc s hlt q
    cases hp : pick g t _ (.int (i : Nat)) env s with
    | no => rw [hp] at z; exact z
    | ex x s => rw [hp] at z; exact z
    | ok o s2 =>
      rw [hp] at z
      cases o with
      | none => exact ⟨i + 1, hlt, rfl, z⟩
      | some y => exact ⟨z.1, i + 1, hlt, rfl, z.2⟩) (xs := rng n) ⟨0, Nat.zero_le _, rfl, h⟩
  have hlt := rng_end hi e
  subst hlt
  exact ⟨acc', s', h1, h2⟩
/-- all ints -/
def Ints (xs : List D) : Prop := ∃ ns : List Int, xs = ns.map D.int
theorem cut_ints {xs : List D} (h : Ints xs) (lo hi : Option Int) : Ints (Mi.cutD xs lo hi) := by
  obtain ⟨ns, rfl⟩ := h
  unfold Mi.cutD
  exact ⟨_, by rw [← List.map_drop, ← List.map_take]⟩
theorem cut_len (xs : List D) (lo hi : Option Int) : (Mi.cutD xs lo hi).length ≤ xs.length := by
  unfold Mi.cutD
  simp
  omega
end Mi
namespace Mi
open PySem PySem.W PySem.Spec PySem.Calls PyProof.Rows L2
section
variable {prog : Program} {w : World} {A : Around} {E : Value → Shared → Prop} {s : Shared}
/-- the items of a tuple, collected -/
theorem tup_coll {t : Addr} {us : List Value} {R : List Value → Shared → Prop} (ht : IsTup s.heap t us.toArray) (hz : us.length ≤ sizeLine)
    (q : R us { s with heap := (s.heap.push (seqObj "list" #[] 0)).update s.heap.objs.size (Obj.mapSeq (· ++ us.toArray)) }) : wpAny (model prog w) A (collect (.ref t)) R E s := by
  obtain ⟨o, ho, hc, n, hd⟩ := ht
  have ho1 : (s.heap.push (seqObj "list" #[] 0)).get? t = some o := Heap.get?_push_of_some _ ho
  have hn1 : (s.heap.push (seqObj "list" #[] 0)).get? s.heap.objs.size = some (seqObj "list" #[] 0) := Heap.get?_push_size _ rfl
  have hT : (Value.type "tuple" == Value.type "tuple") = true := by rfl
  unfold collect
  refine wpAny_bind (wpAny_runValue (codeAny_builtin entry_proto_collect' ?_))
  show wpAny _ _ (do again (.builtin "list.__iadd__" ⟨[← newList [], .ref t], []⟩)) _ _ s
  refine wpAny_bind (wpAny_newList (wpAny_pure ⟨Code.quiet_builtin _ (by decide +kernel), ?_⟩))
  refine codeAny_builtin entry_list_iadd' ?_
  show wpAny _ _ (Builtin.List.listExtendWith (.ref s.heap.objs.size) (.ref t) (.ref s.heap.objs.size)) _ _ { s with heap := s.heap.push (seqObj "list" #[] 0) }
  unfold Builtin.List.listExtendWith
  refine wpAny_bind (wpAny_typeOf (T := "tuple") ⟨o, ho1, hc⟩ ?_)
  rw [if_pos (by rw [hT]; simp)]
  refine wpAny_bind (listItems_at ho1 hd (wpAny_bind (listItems_at (xs := #[]) (n := 0) hn1 rfl ?_)))
  rw [if_neg (by simp)]
  refine wpAny_bind (listUpdate_at (xs := #[]) (n := 0) hn1 rfl ?_ (Nat.zero_le _) (by rw [Array.size_append]; simp; have := sizeLine_eq; omega))
  refine wpAny_pure ?_
  refine wpAny_bind (wpAny_load (get?_update_seq hn1 _) ?_)
  have e : (((#[] : Array Value) ++ us.toArray).toList) = us := by simp
  show wpAny _ _ (pure ((#[] : Array Value) ++ us.toArray).toList) R E _
  rw [e]
  exact wpAny_pure q
/-- sorted(a tuple), by what sorts the new list -/
theorem tup_sorted {κ : _} {t : Addr} {us : List Value} {R : Value → Shared → Prop} (ht : IsTup s.heap t us.toArray) (hz : us.length ≤ sizeLine)
    (S : SortsAt prog w A.in1.in1 { s with heap := sortingHeap (copyHeap s.heap us) (s.heap.objs.size + 1) us } κ us)
    (q : R (.ref (s.heap.objs.size + 1)) { s with heap := sortedAll s.heap us (sortVals κ false us us).toArray }) : wpAny (model prog w) A (call (.builtin "sorted") [.ref t]) R E s := by
  have hs : ((s.heap.push (seqObj "list" #[] 0)).update s.heap.objs.size (Obj.mapSeq (· ++ us.toArray))).objs.size = s.heap.objs.size + 1 := by rw [Heap.size_update, size_push']
  refine call_function_entry_kw kind_sorted plain_sorted entry_sorted (args_sorted1 _) ?_
  unfold Builtin.«sorted»
  refine wpAny_bind (m := checkCount "sorted" 1 1 _) (wpAny_pure (wpAny_bind (tup_coll ht hz (wpAny_bind (wpAny_newList ?_ hz)))))
  show wpAny _ _ _ _ _ { s with heap := copyHeap s.heap us }
  rw [hs]
  refine wpAny_bind (wpAny_holding (wpAny_call_entry_kw slot_list_sort ⟨_, copyHeap_at s.heap us, rfl⟩ entry_list_sort ?body (args_list_sort _)))
  case body =>
    have b := list_sort_vals (s := { s with heap := copyHeap s.heap us }) (A := A.in1.in1) (E := E) (P := fun f s' => f = .done (.ret .none) ∧ R (.ref (s.heap.objs.size + 1)) s') (copyHeap_at s.heap us) S hz ⟨rfl, q⟩
    refine wpAny_mono b (fun f s' hf => ?_) fun _ _ e => e
    obtain ⟨rfl, hq⟩ := hf
    exact ⟨_, rfl, wpAny_pure ⟨_, rfl, hq⟩⟩
end
/-! ### sorted as a call -/
noncomputable def pyD (d : D) : PyData := (py0 d).getD .none
def rSortB (K : PySem.W.Frag) : List V → Hp → VK → Prop := fun vs H Q => ∃ (a : Addr) (bs : List (D × V)), vs = [.ref a] ∧ (SqL K H a (bs.map Prod.snd) ∨ SqT K H a (bs.map Prod.snd)) ∧ (∀ b ∈ bs, Dp K H b.2 (pyD b.1)) ∧
  AllAlike (bs.map fun b => pyD b.1) ∧ Sortable (bs.map fun b => pyD b.1) ∧ (∀ b ∈ bs, (pyD b.1).depth ≤ 60) ∧ ∀ p, H p = none → Q (.ref p) (upd H p (.lst ((bs.mergeSort (dataLe false fun b => pyD b.1)).map Prod.snd)))
theorem each_vals : ∀ {bs : List (D × V)} {us : List Value}, Vals (bs.map Prod.snd) us → EachIs (fun u b => RelV b.2 u) us bs
  | [], _, .nil => .nil
  | _ :: bs, _, .cons r t => .cons r (each_vals (bs := bs) t)
theorem vals_each : ∀ {bs : List (D × V)} {us : List Value}, EachIs (fun u b => RelV b.2 u) us bs → Vals (bs.map Prod.snd) us
  | [], _, .nil => .nil
  | _ :: bs, _, .cons r t => .cons r (vals_each (bs := bs) t)
theorem each_dp {X : Cx} {pins : List (Addr × Obj)} {σ : L2.St} {H : Hp} {s : Shared} (I : Inv X pins σ H s) : ∀ {bs : List (D × V)} {us : List Value}, (∀ b ∈ bs, Dp X.K H b.2 (pyD b.1)) → EachIs (fun u b => RelV b.2 u) us bs → EachIs (fun u b => ∃ as, Reads s.heap u (pyD b.1) as) us bs
  | [], _, _, .nil => .nil
  | b :: bs, _, h, .cons r t => .cons (Dp.reads I _ _ _ (h b (by simp)) r) (each_dp I (fun z hz => h z (by simp [hz])) t)
theorem cr_sortedB {X : Cx} (hu : X.A.units + 64 < cLine) : CallR X (.builtin "sorted") (rSortB X.K) := by
  intro pins s σ H vs us Q I r h
  obtain ⟨a, bs, rfl, hs, hd, hal, hk, hdep, q⟩ := h
  rw [Vals.ref1 r]
  have fin : ∀ (its out : List Value), its.length = bs.length → bs.length ≤ sizeLine → EachIs (fun u b => RelV b.2 u) out (bs.mergeSort (dataLe false fun b => pyD b.1)) → out.length = bs.length →
      ∃ v H', Inv X pins σ H' { s with heap := sortedAll s.heap its out.toArray } ∧ RelV v (Value.ref (s.heap.objs.size + 1)) ∧ Q v H' := fun its out h1 h2 h3 h4 => by
    obtain ⟨n, hn⟩ := sortedAll_at s.heap its out.toArray
    exact ⟨.ref _, upd H (s.heap.objs.size + 1) (.lst ((bs.mergeSort (dataLe false fun b => pyD b.1)).map Prod.snd)), I.laid (t' := s.toks) (fun _ _ => sortedAll_old) (Nat.le_succ _) ⟨by rw [List.length_map, List.length_mergeSort]; exact h2, out, n, vals_each h3, hn⟩, rfl, q _ (I.hok.fresh (Nat.le_succ _))⟩
  rcases hs with hs | hs
  · obtain ⟨its, rv, hl, hz⟩ := I.list hs
    have hL : bs.length ≤ sizeLine := by simpa using hz
    have e1 := each_vals rv
    refine sorted_data hl.isList e1 (each_dp I hd e1) hal hk hL (fun b hb => by have := hdep b hb; omega) fun out h1 h2 => ?_
    exact fin its out e1.length hL h2 h1
  · obtain ⟨its, rv, hl, hz⟩ := I.tuple hs
    have hL : bs.length ≤ sizeLine := by simpa using hz
    have e1 := each_vals rv
    have er := (each_dp I hd e1).mono fun _ _ ⟨as, z⟩ => (⟨as, PyProof.Rows.Reads.keeps (fun _ _ => sorting_copy_old) z⟩ : ∃ as, Reads (sortingHeap (copyHeap s.heap its) (s.heap.objs.size + 1) its) _ _ as)
    refine tup_sorted hl (by rw [e1.length]; exact hL) (SortsAt.data (A := X.A.in1.in1) (s := { s with heap := sortingHeap (copyHeap s.heap its) (s.heap.objs.size + 1) its }) (each_map (R := fun v d => ∃ as, Reads (sortingHeap (copyHeap s.heap its) (s.heap.objs.size + 1) its) v d as) (fun b : D × V => pyD b.1) er) hal hk (bound_map (enc := fun b : D × V => pyD b.1) (bs := bs) fun b hb => by have := hdep b hb; show X.A.units + 1 + 1 + (pyD b.1).depth < cLine; omega)) ?_
    exact fin its _ e1.length hL (sortVals_data false e1 er hal) (by rw [sortVals_length false rfl]; exact e1.length)
/-! ### its mirror -/
def sortOk (xs : List D) : Prop := (∀ d ∈ xs, (py0 d).isSome = true ∧ (pyD d).depth ≤ 60) ∧ AllAlike (xs.map pyD) ∧ Sortable (xs.map pyD)
noncomputable def sortD (xs : List D) : List D := xs.mergeSort (dataLe false pyD)
open Classical in
noncomputable def dSorted : List D → Store → Option (D × Store)
  | [x], s => (seqOf s x).bind fun xs => if sortOk xs then some (.loc s.length, s ++ [.lst (sortD xs)]) else none
  | _, _ => none
theorem zip_map1 {K : PySem.W.Frag} {m : List Addr} {H : Hp} : ∀ {xs : List D} {vs : List V}, Reps K m H xs vs → (xs.zip vs).map Prod.fst = xs ∧ (xs.zip vs).map Prod.snd = vs ∧ ∀ b ∈ xs.zip vs, Rep K m H b.1 b.2
  | [], _, .nil => ⟨rfl, rfl, fun _ h => by cases h⟩
  | x :: xs, _, .cons h r => by
    obtain ⟨a, b, c⟩ := zip_map1 r
    exact ⟨by simp [a], by simp [b], fun z hz => by
      rcases List.mem_cons.mp hz with e | e
      · rw [e]; exact h
      · exact c z e⟩
theorem reps_map {K : PySem.W.Frag} {m : List Addr} {H : Hp} : ∀ {bs : List (D × V)}, (∀ b ∈ bs, Rep K m H b.1 b.2) → Reps K m H (bs.map Prod.fst) (bs.map Prod.snd)
  | [], _ => .nil
  | b :: bs, h => .cons (h b (by simp)) (reps_map fun z hz => h z (by simp [hz]))
theorem fns_sorted {K : PySem.W.Frag} : FnS K (rSortB K) dSorted := by
  intro mg W σ m H s xs ds Q r p g
  unfold dSorted at g
  split at g
  · obtain ⟨v, rfl, h⟩ := reps1 p
    rename_i x
    cases q : seqOf s x with
    | none => rw [q] at g; exact g.elim
    | some ys =>
      rw [q] at g
      simp only [Option.bind_some] at g
      split at g
      · rename_i ok
        have g' : G K mg (Rep K) W σ m H Q (.ok (.loc s.length) (s ++ [.lst (sortD ys)])) := g
        obtain ⟨a, vs, rfl, hq, rr⟩ := seqOf_sq r h q
        obtain ⟨z1, z2, z3⟩ := zip_map1 rr
        have e1 : ((ys.zip vs).map fun b => pyD b.1) = ys.map pyD := by
          conv => rhs; rw [← z1, List.map_map]
          rfl
        have z4 : ∀ b ∈ ys.zip vs, b.1 ∈ ys := fun b hb => by
          have := List.mem_map.mpr ⟨b, hb, (rfl : b.1 = b.1)⟩
          rw [z1] at this
          exact this
        refine ⟨a, ys.zip vs, rfl, by rw [z2]; exact hq, fun b hb => ?_, by rw [e1]; exact ok.2.1, by rw [e1]; exact ok.2.2, fun b hb => (ok.1 _ (z4 b hb)).2, fun l hl => ?_⟩
        · obtain ⟨w1, _⟩ := ok.1 _ (z4 b hb)
          obtain ⟨pd, hp⟩ := Option.isSome_iff_exists.mp w1
          have := py0_dp (z3 b hb) hp
          unfold pyD
          rw [hp]
          exact this
        · have e2 : sortD ys = ((ys.zip vs).mergeSort (dataLe false fun b => pyD b.1)).map Prod.fst := by
            rw [List.map_mergeSort (r := dataLe false fun b : D × V => pyD b.1) (s := dataLe false pyD) (fun _ _ _ _ => rfl), z1]
            rfl
          rw [e2] at g'
          refine g' (m ++ [l]) _ _ (le_more r hl) (rel_newlist r hl (reps_map fun b hb => z3 b ?_)) (.loc (len_get r))
          exact (List.mergeSort_perm _ _).mem_iff.mp hb
      · exact g.elim
  · exact g.elim
end Mi
namespace HT
open PySem PySem.Spec PyProof.Rows
section
variable {prog : Program} {w : World} {A : Around} {E : Value → Shared → Prop} {s : Shared}
theorem rev_pick (xs : Array Value) : ((List.range xs.size).filterMap fun (m : Nat) => xs[((xs.size : Int) - 1 + (m : Int) * (-1)).toNat]?).toArray = xs.toList.reverse.toArray := by
  have q := PySem.W.krv_pick xs
  unfold slicePick at q
  rw [PySem.W.krv_bounds] at q
  have q' : ((sliceRange ((xs.size : Int) - 1) (-1) (-1)).filterMap (xs[·]?)).toArray = xs.toList.reverse.toArray := q
  rw [PySem.W.krv_sliceRange, List.filterMap_map] at q'
  rw [← q']
  refine congrArg List.toArray (congrArg (fun f => List.filterMap f (List.range xs.size)) (funext fun m => ?_))
  show xs[_]? = xs[_]?
  refine congrArg (fun i : Nat => xs[i]?) ?_
  show ((xs.size : Int) - 1 + (m : Int) * (-1)).toNat = xs.size - 1 - m
  omega
theorem sliced_back {sl : Addr} {vl vu vs : Value} {n : Nat} {R : Int × Int × Nat → Shared → Prop} (hs : s.heap.IsSliceOf sl vl vu vs) (pl : IsPart vl none) (pu : IsPart vu none) (ps : IsPart vs (some (-1)))
    (q : R ((n : Int) - 1, -1, n) s) : wpAny (model prog w) A (Builtin.Slice.sliceApplied (.ref sl) (pure (n : Int))) R E s := by
  obtain ⟨os, hos, hcs, hds⟩ := id hs
  have e : Builtin.Slice.slicePlaces ((n : Int) - 1) (-1) (-1) = n := by
    unfold Builtin.Slice.slicePlaces
    rw [if_neg (by omega)]
    by_cases c : (n : Int) - 1 > -1
    · rw [if_pos c]
      simp
    · rw [if_neg c]
      omega
  unfold Builtin.Slice.sliceApplied Builtin.Slice.sliceFields
  refine wpAny_bind (wpAny_bind (wpAny_field hos hds (x := vl) rfl (wpAny_bind (wpAny_field hos hds (x := vu) rfl (wpAny_bind (wpAny_field hos hds (x := vs) rfl (wpAny_pure ?_)))))))
  refine wpAny_bind (slicePart_ ps ?_)
  show wpAny _ _ (if ((-1 : Int) == 0) = true then _ else _) _ _ s
  rw [if_neg (by decide)]
  refine wpAny_bind (slicePart_ pl (wpAny_bind (slicePart_ pu (wpAny_bind (wpAny_pure ?_)))))
  show wpAny _ _ (pure ((n : Int) - 1, (-1 : Int), Builtin.Slice.slicePlaces ((n : Int) - 1) (-1) (-1))) _ _ s
  rw [e]
  exact wpAny_pure q
theorem tup_back {t sl : Addr} {items : Array Value} {vl vu vs : Value} {R : Value → Shared → Prop} (ht : IsTup s.heap t items) (hs : s.heap.IsSliceOf sl vl vu vs) (pl : IsPart vl none) (pu : IsPart vu none) (ps : IsPart vs (some (-1)))
    (hz : items.size ≤ sizeLine) (h : R (.ref s.heap.objs.size) { s with heap := s.heap.push { cls := .type "tuple", data := .seq items.toList.reverse.toArray } }) : wpAny (model prog w) A (getItem (.ref t) (.ref sl)) R E s := by
  have room : sizeOk (.seq items.toList.reverse.toArray) := by
    show items.toList.reverse.toArray.size ≤ sizeLine
    rw [List.size_toArray, List.length_reverse]
    exact hz
  obtain ⟨os, hos, hcs, hds⟩ := id hs
  have hT : s.TypeIs (.ref sl) "slice" := ⟨os, hos, hcs⟩
  unfold getItem
  try with_reducible refine wpAny_holding ?_
  first | refine wpAny_bind (wpAny_pure ?_) | skip
  refine wpAny_bind (wpAny_sequenceKey ht.typeIs (by decide) ?_)
  refine wpAny_bind (wpAny_callSpecial?_slot (name := Str.ofString "__getitem__") ht.typeIs PyProof.Rows.slot_tuple_getitem (wpAny_call_entry PyProof.Rows.slot_tuple_getitem ht.typeIs entry_tuple_getitem ?_ (args_tuple_getitem _ _)))
  show wpAny _ _ (Builtin.Tuple.tupleItemsOf (.ref t) >>= _) _ _ s
  refine wpAny_bind (tupleItemsOf_ ht (wpAny_bind (wpAny_typeOf hT ?_)))
  rw [if_pos (by decide)]
  refine wpAny_bind (sliced_back hs pl pu ps ?_)
  show wpAny _ _ (if ((((items.size : Int) - 1) == 0 && (-1 : Int) == 1 && items.size == items.size) = true) then _ else _) _ _ s
  rw [if_neg (by simp), rev_pick]
  first
    | exact wpAny_bind (m := Builtin.Tuple.tupleExact _) (wpAny_newObj_type (wpAny_pure ⟨_, rfl, wpAny_pure h⟩) room)
    | exact wpAny_bind (m := Builtin.Tuple.tupleExact _) (wpAny_newObj_type (wpAny_bind (wpAny_pure (wpAny_pure ⟨_, rfl, wpAny_pure h⟩))) room)
    | exact wpAny_bind (wpAny_bind (m := Builtin.Tuple.tupleExact _) (wpAny_newObj_type (wpAny_pure (wpAny_pure ⟨_, rfl, wpAny_pure h⟩)) room))
    | exact wpAny_bind (wpAny_bind (m := Builtin.Tuple.tupleExact _) (wpAny_newObj_type (wpAny_pure ⟨_, rfl, wpAny_pure h⟩) room))
end
end HT
namespace Mi
open PySem PySem.Spec PyProof.Rows L2
/-- a[::-1], a list or a tuple -/
def tBack (K : PySem.W.Frag) (te : TE) : TE := fun σ H Q => te σ H fun x H1 => ∃ a xs, x = .ref a ∧ ((SqL K H1 a xs ∧ ∀ p, H1 p = none → Q (.ref p) (upd H1 p (.lst xs.reverse))) ∨ (SqT K H1 a xs ∧ ∀ p, H1 p = none → Q (.ref p) (upd H1 p (.tup xs.reverse))))
theorem pe_back {X : Cx} {e : Expr} {te : TE} {k : Nat} {p1 p2 p3 pos : Pos} (he : PE X e te) : PE X (.Subscript e (.Slice none none (some (.UnaryOp .USub (.Constant (.int 1) k p1) p2)) p3) pos) (tBack X.K te) := by
  refine ⟨fun pins s σ H Q I h => Subscript_ (thn (he.run pins s σ H _ I h) fun v s1 ⟨x, H1, I1, r1, a, xs, ex, q⟩ => ?_)⟩
  subst ex
  cases r1
  have step : PO X (some (.UnaryOp .USub (.Constant (.int 1) k p1) p2)) (tPart (tUn (rU fun i => .int (-i)) (tC (.int 1)))) := po_some (pe_un un_neg pe_int)
  refine wpAny_Slice (thn (po_none.run pins s1 σ H1 (fun o H2 => o = none ∧ H2 = H1) I1 ⟨rfl, rfl⟩) fun vl s2 ⟨l, H2, I2, pl, el, e2⟩ => ?_)
  cases el
  cases e2
  refine thn (po_none.run pins s2 σ H1 (fun o H3 => o = none ∧ H3 = H1) I2 ⟨rfl, rfl⟩) fun vu s3 ⟨u, H3, I3, pu, eu, e3⟩ => ?_
  cases eu
  cases e3
  refine thn (step.run pins s3 σ H1 (fun o H4 => o = some (-1) ∧ H4 = H1) I3 ⟨1, rfl, -1, rfl, rfl, rfl⟩) fun vs s4 ⟨o, H4, I4, ps, eo, e4⟩ => ?_
  cases eo
  cases e4
  have I5 : Inv X pins σ H1 { s4 with heap := s4.heap.push { cls := .type "slice", data := .fields #[vl, vu, vs] } } := I4.kept (t' := s4.toks) fun b ob q => Heap.get?_push_of_some _ q
  show wpAny (model X.prog X.w) X.A (subscriptTail e (.Slice none none (some (.UnaryOp .USub (.Constant (.int 1) k p1) p2)) p3) (.ref a) (.ref s4.heap.objs.size)) (EP X pins σ Q) X.xe { s4 with heap := s4.heap.push { cls := .type "slice", data := .fields #[vl, vu, vs] } }
  rcases q with ⟨hx, q⟩ | ⟨hx, q⟩
  · obtain ⟨its, r, ht, hz⟩ := I5.list hx
    have hlen := r.length
    refine tail_any (ops := [.ref a, .ref s4.heap.objs.size]) ht.isList.typeIs (PySem.slot_list_getitem.lookup) ?_ (by with_unfolding_all rfl)
    refine wpAny_getItem_list_slice ht.isList (Heap.IsSliceOf.new _ vl vu vs) pl pu ps (by decide) ?_ (by rw [List.size_toArray]; omega)
    rw [PySem.W.krv_pick]
    refine ⟨.ref _, _, I5.laid (t' := s4.toks) (o := .lst xs.reverse) (fun b ob q => Heap.get?_push_of_some _ q) (Nat.le_refl _) ?_, rfl, q _ (I5.hok.fresh (Nat.le_refl _))⟩
    exact ⟨by rw [List.length_reverse]; exact hz, _, 0, r.reverse, Heap.get?_push_size _ rfl⟩
  · obtain ⟨its, r, ht, hz⟩ := I5.tuple hx
    have hlen := r.length
    refine tail_any (ops := [.ref a, .ref s4.heap.objs.size]) ht.typeIs (PyProof.Rows.slot_tuple_getitem.lookup) ?_ (by with_unfolding_all rfl)
    refine HT.tup_back ht (Heap.IsSliceOf.new _ vl vu vs) pl pu ps (by rw [List.size_toArray]; omega) ?_
    refine ⟨.ref _, _, I5.laid (t' := s4.toks) (o := .tup xs.reverse) (fun b ob q => Heap.get?_push_of_some _ q) (Nat.le_refl _) ?_, rfl, q _ (I5.hok.fresh (Nat.le_refl _))⟩
    exact ⟨by rw [List.length_reverse]; exact hz, _, r.reverse, IsTup.new _ _⟩
def dRev (x : D) (s : Store) : Option (D × Store) := match x with
  | .tup xs => some (.tup xs.reverse, s)
  | x => (lstOf s x).map fun xs => (.loc s.length, s ++ [.lst xs.reverse])
theorem Reps.rev {K : PySem.W.Frag} {m : List Addr} {H : Hp} {xs : List D} {vs : List V} (h : Reps K m H xs vs) : Reps K m H xs.reverse vs.reverse := by
  obtain ⟨a, b, c⟩ := zip_map1 h
  have q := reps_map (bs := (xs.zip vs).reverse) fun z hz => c z (List.mem_reverse.mp hz)
  rw [List.map_reverse, List.map_reverse, a, b] at q
  exact q
section
variable {X : Cx} {W : WX} {pos p1 p2 p3 : Pos} {k : Nat} {a : Expr} {fa : ME D}
theorem ce_back (ha : PE X a (Te X.K X.mg W fa)) : PE X (.Subscript a (.Slice none none (some (.UnaryOp .USub (.Constant (.int 1) k p1) p2)) p3) pos) (Te X.K X.mg W (e1 dRev fa)) :=
  PE.imp (pe_back ha) fun σ H Q h => Tm.bind (k := fun env x s => R.of (dRev x s)) h fun m1 H1 env x v s1 r1 E1 p g1 => by
    have gen : (∀ ys, x ≠ .tup ys) → ∃ a xs, v = .ref a ∧ ((SqL X.K H1 a xs ∧ ∀ p, H1 p = none → Q (.ref p) (upd H1 p (.lst xs.reverse))) ∨ (SqT X.K H1 a xs ∧ ∀ p, H1 p = none → Q (.ref p) (upd H1 p (.tup xs.reverse)))) := by
      intro hn
      have e : dRev x s1 = (lstOf s1 x).map fun xs => (.loc s1.length, s1 ++ [.lst xs.reverse]) := by
        cases x <;> first | rfl | exact (hn _ rfl).elim
      rw [e] at g1
      cases q : lstOf s1 x with
      | none => rw [q] at g1; exact g1.elim
      | some xs =>
        rw [q] at g1
        have g2 : G X.K X.mg (Rep X.K) W σ m1 H1 Q (.ok (.loc s1.length) (s1 ++ [.lst xs.reverse])) := g1
        obtain ⟨a, vs, rfl, hq, rr⟩ := lstOf_sq r1 p q
        exact ⟨a, vs, rfl, .inl ⟨hq, fun l hl => g2 (m1 ++ [l]) _ _ (le_more r1 hl) (rel_newlist r1 hl rr.rev) (.loc (len_get r1))⟩⟩
    cases x with
    | tup xs =>
      obtain ⟨a, vs, rfl, hq, rr⟩ := p.sqT
      have g2 : G X.K X.mg (Rep X.K) W σ m1 H1 Q (.ok (.tup xs.reverse) s1) := g1
      exact ⟨a, vs, rfl, .inr ⟨hq, fun l hl => g2 m1 _ _ (le_new hl) (r1.tmp hl) (rep_newtup hl rr.rev)⟩⟩
    | _ => exact gen (fun _ h => nomatch h)
end
end Mi
namespace Mi
open PySem PySem.Spec PyProof.Rows L2
section
variable {K : PySem.W.Frag}
theorem reps3 {m : List Addr} {H : Hp} {d e f : D} {xs : List V} (p : Reps K m H [d, e, f] xs) : ∃ u v w, xs = [u, v, w] ∧ Rep K m H d u ∧ Rep K m H e v ∧ Rep K m H f w := by
  cases p with
  | cons h r =>
    obtain ⟨v, w, rfl, h2, h3⟩ := reps2 r
    exact ⟨_, v, w, rfl, h, h2, h3⟩
/-! #### min, max of three -/
def dMax3 : List D → Store → Option (D × Store)
  | [.int i, .int j, .int k], s => some (.int (max (max i j) k), s)
  | _, _ => none
def dMin3 : List D → Store → Option (D × Store)
  | [.int i, .int j, .int k], s => some (.int (min (min i j) k), s)
  | _, _ => none
theorem nu_lt (i j : Int) : nuLt (.int i) (.int j) = some (decide (i < j)) := rfl
theorem nu_max (i j : Int) : nuMax2 (.int i) (.int j) = some (.int (max i j)) := by
  show (nuLt (.int i) (.int j)).map _ = _
  rw [nu_lt, Option.map_some]
  by_cases c : i < j
  · simp [c, Int.max_def, Int.le_of_lt c]
  · simp [c, Int.max_def]
    omega
theorem nu_min (i j : Int) : nuMin2 (.int i) (.int j) = some (.int (min i j)) := by
  show (nuLt (.int j) (.int i)).map _ = _
  rw [nu_lt, Option.map_some]
  by_cases c : j < i
  · simp [c, Int.min_def]
    omega
  · simp [c, Int.min_def]
theorem fns_max3 : FnS K (rNuC3 nuMax3) dMax3 := by
  intro mg W σ m H s xs ds Q r p g
  unfold dMax3 at g
  split at g
  · obtain ⟨u, v, w, rfl, h, h2, h3⟩ := reps3 p
    cases h; cases h2; cases h3
    exact ⟨_, _, _, _, rfl, by rw [nuMax3, nu_max, Option.bind_some, nu_max], g.now r (.int _)⟩
  · exact g.elim
theorem fns_min3 : FnS K (rNuC3 nuMin3) dMin3 := by
  intro mg W σ m H s xs ds Q r p g
  unfold dMin3 at g
  split at g
  · obtain ⟨u, v, w, rfl, h, h2, h3⟩ := reps3 p
    cases h; cases h2; cases h3
    exact ⟨_, _, _, _, rfl, by rw [nuMin3, nu_min, Option.bind_some, nu_min], g.now r (.int _)⟩
  · exact g.elim
/-! #### min, max of a list of ints -/
def dMaxL : List D → Store → Option (D × Store)
  | [x], s => (lstOf s x).bind fun xs => (intsOf xs).bind fun ns => ns.max?.map fun z => (.int z, s)
  | _, _ => none
def dMinL : List D → Store → Option (D × Store)
  | [x], s => (lstOf s x).bind fun xs => (intsOf xs).bind fun ns => ns.min?.map fun z => (.int z, s)
  | _, _ => none
theorem fns_maxL : FnS K (rMax K) dMaxL := by
  intro mg W σ m H s xs ds Q r p g
  unfold dMaxL at g
  split at g
  · obtain ⟨v, rfl, h⟩ := reps1 p
    rename_i x
    cases q : lstOf s x with
    | none => rw [q] at g; exact g.elim
    | some ys =>
      rw [q, Option.bind_some] at g
      cases q2 : intsOf ys with
      | none => rw [q2] at g; exact g.elim
      | some ns =>
        rw [q2, Option.bind_some] at g
        cases q3 : ns.max? with
        | none => rw [q3] at g; exact g.elim
        | some z =>
          rw [q3] at g
          obtain ⟨a, vs, rfl, hq, rr⟩ := lstOf_sq r h q
          rw [of_intsOf q2] at rr
          have e := rr.ints
          subst e
          obtain ⟨z1, z2⟩ := List.max?_eq_some_iff.mp q3
          refine ⟨a, ns, rfl, hq, List.length_pos_iff_exists_mem.mpr ⟨z, z1⟩, fun y h1 h2 => ?_⟩
          have e : y = z := Int.le_antisymm (z2 y h1) (h2 z z1)
          rw [e]
          exact G.now (d := D.int z) g r (.int _)
  · exact g.elim
theorem fns_minL : FnS K (rMin K) dMinL := by
  intro mg W σ m H s xs ds Q r p g
  unfold dMinL at g
  split at g
  · obtain ⟨v, rfl, h⟩ := reps1 p
    rename_i x
    cases q : lstOf s x with
    | none => rw [q] at g; exact g.elim
    | some ys =>
      rw [q, Option.bind_some] at g
      cases q2 : intsOf ys with
      | none => rw [q2] at g; exact g.elim
      | some ns =>
        rw [q2, Option.bind_some] at g
        cases q3 : ns.min? with
        | none => rw [q3] at g; exact g.elim
        | some z =>
          rw [q3] at g
          obtain ⟨a, vs, rfl, hq, rr⟩ := lstOf_sq r h q
          rw [of_intsOf q2] at rr
          have e := rr.ints
          subst e
          obtain ⟨z1, z2⟩ := List.min?_eq_some_iff.mp q3
          refine ⟨a, ns, rfl, hq, List.length_pos_iff_exists_mem.mpr ⟨z, z1⟩, fun y h1 h2 => ?_⟩
          have e : y = z := Int.le_antisymm (h2 z z1) (z2 y h1)
          rw [e]
          exact G.now (d := D.int z) g r (.int _)
  · exact g.elim
end
end Mi
namespace Mi
open PySem PySem.Spec PyProof.Rows L2
/-! ### a while by an invariant and a measure -/
theorem whileN_more {c : ME Bool} {b : MS} : ∀ {n : Nat} {env : Sl} {s : Store}, whileN c b n env s ≠ .no → whileN c b (n + 1) env s = whileN c b n env s := by
  intro n
  induction n with
  | zero => intro env s h; exact (h rfl).elim
  | succ n ih =>
    intro env s h
    unfold whileN at h ⊢
    cases e : c env s with
    | no => rfl
    | ex x s1 => rfl
    | ok k s1 =>
      rw [e] at h
      cases k with
      | false => rfl
      | true =>
        simp only [R.then, if_true] at h ⊢
        cases e2 : b env s1 with
        | nx env2 s2 => rw [e2] at h; exact ih h
        | ct env2 s2 => rw [e2] at h; exact ih h
        | bk env2 s2 => rfl
        | rt d s2 => rfl
        | ex x env2 s2 => rfl
        | no => rfl
theorem whileN_add {c : ME Bool} {b : MS} {n : Nat} {env : Sl} {s : Store} (h : whileN c b n env s ≠ .no) : ∀ k, whileN c b (n + k) env s = whileN c b n env s
  | 0 => rfl
  | k + 1 => by
    have q := whileN_add h k
    rw [← q] at h
    rw [← Nat.add_assoc, whileN_more h, q]
theorem whileN_one {c : ME Bool} {b : MS} {n m : Nat} {env : Sl} {s : Store} (h : whileN c b n env s ≠ .no) (h2 : whileN c b m env s ≠ .no) : whileN c b n env s = whileN c b m env s := by
  rw [← whileN_add h m, ← whileN_add h2 n, Nat.add_comm]
theorem sWhile_of {c : ME Bool} {b : MS} {n : Nat} {env : Sl} {s : Store} (h : whileN c b n env s ≠ .no) : sWhile c b env s = whileN c b n env s := by
  have z : ∃ n, whileN c b n env s ≠ .no := ⟨n, h⟩
  unfold sWhile
  rw [dif_pos z]
  exact whileN_one (Classical.choose_spec z) h
/-- one turn's promise -/
theorem while_rule {c : ME Bool} {b : MS} (I : Nat → Sl → Store → Prop) (Q : RS → Prop) (no : ¬ Q .no)
    (hs : ∀ n env s, I n env s → (∃ s', c env s = .ok false s' ∧ Q (.nx env s')) ∨ (∃ s', c env s = .ok true s' ∧ Turns (fun env s => ∃ m, m < n ∧ I m env s) Q (b env s'))) {n : Nat} {env : Sl} {s : Store} (h : I n env s) : Q (sWhile c b env s) := by
  have key : ∀ n env s, I n env s → ∃ k, Q (whileN c b k env s) := by
    intro n
    induction n using Nat.strongRecOn with
    | ind n ih =>
      intro env s h
      rcases hs n env s h with ⟨s', e, q⟩ | ⟨s', e, q⟩
      · refine ⟨1, ?_⟩
        unfold whileN
        rw [e]
        exact q
      · cases e2 : b env s' with
        | nx env2 s2 =>
          rw [e2] at q
          obtain ⟨m, hm, hi⟩ := q
          obtain ⟨k, hk⟩ := ih m hm env2 s2 hi
          refine ⟨k + 1, ?_⟩
          unfold whileN
          simp only [e, R.then, if_true, e2]
          exact hk
        | ct env2 s2 =>
          rw [e2] at q
          obtain ⟨m, hm, hi⟩ := q
          obtain ⟨k, hk⟩ := ih m hm env2 s2 hi
          refine ⟨k + 1, ?_⟩
          unfold whileN
          simp only [e, R.then, if_true, e2]
          exact hk
        | bk env2 s2 =>
          rw [e2] at q
          refine ⟨1, ?_⟩
          unfold whileN
          simp only [e, R.then, if_true, e2]
          exact q
        | rt d s2 =>
          rw [e2] at q
          refine ⟨1, ?_⟩
          unfold whileN
          simp only [e, R.then, if_true, e2]
          exact q
        | ex x env2 s2 =>
          rw [e2] at q
          refine ⟨1, ?_⟩
          unfold whileN
          simp only [e, R.then, if_true, e2]
          exact q
        | no => rw [e2] at q; exact q.elim
  obtain ⟨k, hk⟩ := key n env s h
  have nn : whileN c b k env s ≠ .no := fun e => no (e ▸ hk)
  rw [sWhile_of nn]
  exact hk
/-! ### name op= e -/
@[simp] theorem sAug_eq (i : Nat) (g : D → D → Store → Option (D × Store)) (e : ME D) (env : Sl) (s : Store) : sAug i g e env s = match env[i]? with
  | some (some x) => (e env s).then env fun y s => match g x y s with
    | some (z, s') => .nx (env.set i (some z)) s'
    | none => .no
  | _ => .no := rfl
@[simp] theorem dAddI_int (i j : Int) (s : Store) : dAddI (.int i) (.int j) s = some (.int (i + j), s) := rfl
/-! ### a value's truth -/
open Classical in
noncomputable def dTru (s : Store) : D → Option Bool
  | .non => some false
  | .bl b => some b
  | .int i => some (i != 0)
  | .str y => if y.length ≤ sizeLine then some ((y.length : Int) != 0) else none
  | .tup xs => some (!xs.isEmpty)
  | .fl xs => some (!xs.isEmpty)
  | .loc l => match s[l]? with
    | some (.lst xs) => some (!xs.isEmpty)
    | some (.dic ks) => some (!ks.isEmpty)
    | _ => none
  | .exv _ _ _ _ => none
theorem reps_empty {K : PySem.W.Frag} {m : List Addr} {H : Hp} {xs : List D} {vs : List V} (h : Reps K m H xs vs) : xs.isEmpty = vs.isEmpty := by
  cases h <;> rfl
theorem repk_empty {K : PySem.W.Frag} {m : List Addr} {H : Hp} {xs : List (Key × D)} {vs : List (Key × V)} (h : RepK K m H xs vs) : xs.isEmpty = vs.isEmpty := by
  cases h <;> rfl
theorem dTru_ok {K : PySem.W.Frag} {m : List Addr} {H : Hp} {s : Store} (r : Rel K m H s) {d : D} {v : V} {k : Bool} (p : Rep K m H d v) (e : dTru s d = some k) : TruV K v H k := by
  cases p with
  | non => cases e; rfl
  | bl b => cases e; rfl
  | int i => cases e; rfl
  | str y =>
    by_cases hz : y.length ≤ sizeLine
    · simp only [dTru, if_pos hz] at e
      cases e
      exact ⟨hz, rfl⟩
    · simp only [dTru, if_neg hz] at e
      cases e
  | tup h q => have e' := Option.some.inj e; subst e'; exact .inr (.inl ⟨_, .inl (.inl h), by rw [reps_empty q]⟩)
  | fl h q => cases e; exact .inl ⟨_, h.sq, by rw [reps_empty q]⟩
  | @loc l a h =>
    unfold dTru at e
    cases q : s[l]? with
    | none => simp [q] at e
    | some c =>
      cases c with
      | lst xs =>
        simp only [q] at e
        cases e
        obtain ⟨vs, q1, p1⟩ := r.list h q
        exact .inl ⟨vs, .inl (.inl q1), by rw [reps_empty p1]⟩
      | dic ks =>
        simp only [q] at e
        cases e
        obtain ⟨ws, q1, p1⟩ := r.at_ l a _ h q
        exact .inr (.inr ⟨ws, q1, by rw [repk_empty p1]⟩)
      | dct _ => simp [q] at e
  | exv => cases e
noncomputable def tTru (a : ME D) : ME Bool := fun env s => (a env s).bind fun x s => match dTru s x with
  | some b => .ok b s
  | none => .no
section
variable {X : Cx} {W : WX} {a : Expr} {fa : ME D}
theorem ct_tru (ha : PE X a (Te X.K X.mg W fa)) (he : ∀ whole, isTrue a X.env whole = (do let v ← whole; standAt a.pos; holding [v] (truthy v)) := by intro _; rfl) : PT X a (Tt X.K X.mg W (tTru fa)) :=
  PT.imp (pt_truth ha he) fun σ H Q h => Tm.bind (k := fun _ x s => match dTru s x with | some b => R.ok b s | none => R.no) h fun m1 H1 env x v s1 r1 E1 p1 g1 => by
    cases q : dTru s1 x with
    | none => rw [q] at g1; exact g1.elim
    | some k => rw [q] at g1; exact ⟨k, dTru_ok r1 p1 q, g1.nowB r1⟩
end
@[simp] theorem tTru_eq (a : ME D) (env : Sl) (s : Store) : tTru a env s = (a env s).bind fun x s => match dTru s x with | some b => .ok b s | none => .no := rfl
@[simp] theorem dTru_bl (s : Store) (b : Bool) : dTru s (.bl b) = some b := rfl
@[simp] theorem dTru_non (s : Store) : dTru s .non = some false := rfl
@[simp] theorem dTru_tup (s : Store) (xs : List D) : dTru s (.tup xs) = some (!xs.isEmpty) := rfl
theorem dTru_loc {s : Store} {l : Nat} {xs : List D} (h : s[l]? = some (.lst xs)) : dTru s (.loc l) = some (!xs.isEmpty) := by simp [dTru, h]
/-! ### the last place -/
@[simp] theorem atI_neg1 (xs : List D) (y : D) : atI (xs ++ [y]) (-1) = some y := L2.atI_last xs y
theorem pList_last {s : Store} {l : Nat} {xs : List D} {y : D} (h : s[l]? = some (.lst (xs ++ [y]))) (z : D) : pList (.loc l) (.int (-1)) z s = some (s.set l (.lst (xs ++ [z]))) := by
  have e : ixN (xs ++ [y]).length (-1) = some xs.length := by
    unfold ixN
    simp
    omega
  have e' : ixN (xs.length + 1) (-1) = some xs.length := by simpa using e
  simp [pList, h]
  exact ⟨xs.length, e', by simp⟩
end Mi
namespace Mi
open PySem PySem.Spec PyProof.Rows L2
/-! ### raise C(e, ..), C with an __init__ that stores its parameters -/
def sRaise (c : Str) (ns : List Str) (a : ME (List D)) : MS := fun env s => (a env s).then env fun xs s => if xs.length = ns.length then .ex ⟨c, (ns.zip xs).reverse⟩ env s else .no
/-- what __init__(self, p) of one field leaves -/
def spI1 (C : Addr) (f : Str) : Sp := fun vs H Q _ => ∃ a y, vs = [.ref a, y] ∧ H a = some (exo a C none) ∧ ∀ dx, H dx = none → dx ≠ a → Q .non (upd (upd H dx (exd dx [(f, y)])) a (exo a C (some dx)))
def spI2 (C : Addr) (f g : Str) : Sp := fun vs H Q _ => ∃ a y z, vs = [.ref a, y, z] ∧ H a = some (exo a C none) ∧ ∀ dx, H dx = none → dx ≠ a → Q .non (upd (upd (upd H dx (exd dx [(f, y)])) a (exo a C (some dx))) dx (exd dx [(g, z), (f, y)]))
section
variable {P : Program} {w : World} {K : PySem.W.Frag} {mg : Str → Option Value} {base : Heap} {x qual : Str} {st : Stmt} {fi C : Addr} {fd : FuncData} {N ps : List Str} {f g : Str}
theorem okI1 (F : Fun K x qual st fi fd) (S : FnScope N ps (defScope st)) (hN : N.length = 2) (hn : ps.length = 2) (T : OexC K C) (no : PySem.W.findIn K (.ref C) f = some none)
    (hb : ∀ (cdv : Value) (A : Around) (outer : List Env) (s : Shared) (H : Hp) (E : XK), PSs (cxOf (L2.CX P w) P w K mg base N qual (defScope st) fi cdv A outer s H E) (defBody st) (tOst K f (tVar 0) (tVar 1))) : FnOk P w K mg base (L2.CX P w) 1 fi fd ps (spI1 C f) := by
  refine F.okX S (fun vs H Q E ⟨a, y, e, _⟩ => by rw [hn, e]; rfl) fun cdv A outer s H vs Q E hr ⟨a, y, e, ha, q⟩ => ⟨_, hb cdv A outer s H E, ?_⟩
  subst e
  match N, hN with
  | [n1, n2], _ => exact ⟨y, rfl, .ref a, rfl, a, C, rfl, T, no, .inl ⟨ha, fun dx h1 h2 => q dx h1 h2⟩⟩
theorem okI2 (F : Fun K x qual st fi fd) (S : FnScope N ps (defScope st)) (hN : N.length = 3) (hn : ps.length = 3) (T : OexC K C) (no : PySem.W.findIn K (.ref C) f = some none) (no2 : PySem.W.findIn K (.ref C) g = some none)
    (hb : ∀ (cdv : Value) (A : Around) (outer : List Env) (s : Shared) (H : Hp) (E : XK), PSs (cxOf (L2.CX P w) P w K mg base N qual (defScope st) fi cdv A outer s H E) (defBody st) (tSeq (tOst K f (tVar 0) (tVar 1)) (tOst K g (tVar 0) (tVar 2)))) : FnOk P w K mg base (L2.CX P w) 1 fi fd ps (spI2 C f g) := by
  refine F.okX S (fun vs H Q E ⟨a, y, z, e, _⟩ => by rw [hn, e]; rfl) fun cdv A outer s H vs Q E hr ⟨a, y, z, e, ha, q⟩ => ⟨_, hb cdv A outer s H E, ?_⟩
  subst e
  match N, hN with
  | [n1, n2, n3], _ =>
    refine ⟨y, rfl, .ref a, rfl, a, C, rfl, T, no, .inl ⟨ha, fun dx h1 h2 => ?_⟩⟩
    refine ⟨z, rfl, .ref a, rfl, a, C, rfl, T, no2, .inr ⟨dx, [(f, y)], upd_same, by rw [upd_ne h2]; exact upd_same, by simp, q dx h1 h2⟩⟩
theorem del_upd {H : Hp} {a d : Addr} {o1 o2 : HO} (ha : H a = none) (h : d ≠ a) (G : Hp) (hG : ∀ b, b ≠ a → b ≠ d → G b = H b) : upd (del G a) d o1 = upd H d o1 := by
  funext b
  by_cases e : b = d
  · rw [e, upd_same, upd_same]
  · rw [upd_ne e, upd_ne e]
    by_cases e2 : b = a
    · rw [e2, del_same, ha]
    · rw [del_ne e2, hG b e2 e]
end
section
variable {X : Cx} {W : WX} {c q : Str} {C fI : Addr} {fd : FuncData} {k : Nat} {f g x1 x2 x0 : Str} {p pos pos2 : Pos} {e e2 : Expr} {fs : ME (List D)}
theorem cs_raise1 (hc : X.calm = true) (tk : Takes X W) (gC : X.mg c = some (.ref C)) (T : OexC X.K C) (iC : PySem.W.findIn X.K (.ref C) "__init__" = some (some (.ref fI))) (tI : PySem.W.typeIn X.K (.ref fI) = some (.type "function"))
    (F : FnOk X.prog X.w X.K X.mg X.base (L2.CX X.prog X.w) 1 fI fd [x0, x1] (spI1 C f)) (hr : Room 2 X.A) (hb : Binds X.K fd [x0, x1] []) (hg : Gl X c) (ha : PA X [e] (Ta X.K X.mg W fs)) (hdb : (c == ("__debug__" : Str)) = false := by decide)
    (he : starEach [e] X.env = (false, eval e X.env) :: starEach [] X.env := by rfl) (hpl : (backTo pos (starEach [] X.env)).any (·.1) = false := by rfl) :
    PS X (.Raise (some (.Call (.Name c p) [e] [] pos)) none pos2) (Ts X.K X.mg W (sRaise c [f] fs)) :=
  PS.imp (ps_raise hc tk (pmk_oex (dvs := []) T iC tI F hr hb .nil (fun pins σ H s e s' I h => (cx_none h).elim) hg gC ha hdb he hpl)) fun Dn σ H h =>
    Ts.ofE (k := fun env (xs : List D) s => if xs.length = [f].length then RS.ex ⟨c, ([f].zip xs).reverse⟩ env s else .no) h fun m1 H1 env xs vs s1 r1 E1 p1 g1 => by
      split at g1
      · rename_i hl
        match xs, vs, p1, hl with
        | [x], [v], .cons pv .nil, _ =>
          refine ⟨by simp, fun a ha => ⟨a, v, rfl, upd_same, fun dx h1 h2 => ⟨rfl, dx, [(f, v)], upd_same, by rw [upd_ne h2]; exact upd_same, by rw [upd_ne h2] at h1; exact h1, ?_⟩⟩⟩
          have h1' : H1 dx = none := by rw [upd_ne h2] at h1; exact h1
          rw [del_upd (o2 := exo a C none) ha h2 _ fun b h3 h4 => by rw [upd_ne h3, upd_ne h4, upd_ne h3]]
          exact g1 m1 _ _ _ _ (le_new h1') (r1.tmp h1') (E1.mono (le_new h1')) ⟨gC, .inr ⟨dx, _, rfl, upd_same, r1.new_notin h1', .cons (pv.mono (le_new h1')) .nil⟩⟩
      · exact g1.elim
theorem cs_raise2 (hc : X.calm = true) (tk : Takes X W) (gC : X.mg c = some (.ref C)) (T : OexC X.K C) (iC : PySem.W.findIn X.K (.ref C) "__init__" = some (some (.ref fI))) (tI : PySem.W.typeIn X.K (.ref fI) = some (.type "function"))
    (F : FnOk X.prog X.w X.K X.mg X.base (L2.CX X.prog X.w) 1 fI fd [x0, x1, x2] (spI2 C f g)) (hr : Room 2 X.A) (hb : Binds X.K fd [x0, x1, x2] []) (hg : Gl X c) (ha : PA X [e, e2] (Ta X.K X.mg W fs)) (hdb : (c == ("__debug__" : Str)) = false := by decide)
    (he : starEach [e, e2] X.env = (false, eval e X.env) :: starEach [e2] X.env := by rfl) (hpl : (backTo pos (starEach [e2] X.env)).any (·.1) = false := by rfl) :
    PS X (.Raise (some (.Call (.Name c p) [e, e2] [] pos)) none pos2) (Ts X.K X.mg W (sRaise c [f, g] fs)) :=
  PS.imp (ps_raise hc tk (pmk_oex (dvs := []) T iC tI F hr hb .nil (fun pins σ H s e s' I h => (cx_none h).elim) hg gC ha hdb he hpl)) fun Dn σ H h =>
    Ts.ofE (k := fun env (xs : List D) s => if xs.length = [f, g].length then RS.ex ⟨c, ([f, g].zip xs).reverse⟩ env s else .no) h fun m1 H1 env xs vs s1 r1 E1 p1 g1 => by
      split at g1
      · rename_i hl
        match xs, vs, p1, hl with
        | [x, y], [v, z], .cons pv (.cons pz .nil), _ =>
          refine ⟨by simp, fun a ha => ⟨a, v, z, rfl, upd_same, fun dx h1 h2 => ⟨rfl, dx, [(g, z), (f, v)], by rw [upd_ne (Ne.symm h2)]; exact upd_same, upd_same, by rw [upd_ne h2] at h1; exact h1, ?_⟩⟩⟩
          have h1' : H1 dx = none := by rw [upd_ne h2] at h1; exact h1
          rw [del_upd (o2 := exo a C none) ha h2 _ fun b h3 h4 => by rw [upd_ne h4, upd_ne h3, upd_ne h4, upd_ne h3]]
          exact g1 m1 _ _ _ _ (le_new h1') (r1.tmp h1') (E1.mono (le_new h1')) ⟨gC, .inr ⟨dx, _, rfl, upd_same, r1.new_notin h1', .cons (pz.mono (le_new h1')) (.cons (pv.mono (le_new h1')) .nil)⟩⟩
      · exact g1.elim
end
/-! ### n.f of the exception that a suite holds -/
def eFld (g : Nat × Nat) (i : Nat) (f : Str) : ME D := fun env s => match env[i]? with
  | some (some (.exv a dd _ fs)) => if a = g.1 ∧ dd = g.2 then (match fs.lookup f with
    | some d => .ok d s
    | none => .no) else .no
  | _ => .no
theorem fld_lookup {K : PySem.W.Frag} {m : List Addr} {H : Hp} {f : Str} : ∀ {fs : List (Str × D)} {vfs : List (Str × V)} {d : D}, FldR K m H fs vfs → fs.lookup f = some d → ∃ v, vfs.lookup f = some v ∧ Rep K m H d v
  | _, _, _, .nil, e => by cases e
  | (h, x) :: fs, (_, v) :: vfs, d, .cons p r, e => by
    by_cases c : f = h
    · subst c
      simp [List.lookup] at e ⊢
      subst e
      exact p
    · have c' : (f == h) = false := by simpa using c
      simp only [List.lookup, c'] at e ⊢
      exact fld_lookup r e
section
variable {X : Cx} {W : WX} {a : Addr} {oe : Obj} {cls : Value} {d : Option Addr} {pn : List (Addr × Obj)} {pos p : Pos} {n f : Str} {i : Nat} {g : Nat × Nat}
theorem ce_fld (hX : ∃ C, cls = .ref C ∧ XfC X.K C ∧ PySem.W.findIn X.K (.ref C) f = some none) (hz : Zc cls d oe) (hf : ∃ vs, oe.data = .fields vs) (g1 : g.1 = a) (g2 : d = some g.2)
    (he : PE (X.suite a ((a, oe) :: pn)) (.Name n p) (tVar i)) (hb : attributeBase (.Name n p) f X.env (eval (.Name n p) X.env) = eval (.Name n p) X.env := by rfl) :
    PE (X.suite a ((a, oe) :: pn)) (.Attribute (.Name n p) f pos) (Te X.K X.mg W (eFld g i f)) := by
  obtain ⟨C, ec, T, hno⟩ := hX
  refine PE.imp (pe_xf T hno hz hf he hb) fun σ H Q ⟨m, env, s, r, E, q⟩ => ?_
  unfold eFld at q
  cases e1 : env[i]? with
  | none => rw [e1] at q; exact q.elim
  | some o =>
    cases o with
    | none => rw [e1] at q; exact q.elim
    | some x =>
      rw [e1] at q
      cases x with
      | exv a' dd c fs =>
        simp only at q
        split at q
        · rename_i hh
          obtain ⟨h1, h2⟩ := hh
          cases e2 : fs.lookup f with
          | none => rw [e2] at q; exact q.elim
          | some dv =>
            rw [e2] at q
            obtain ⟨v, hv, pr⟩ := E.2 i _ e1
            cases pr with
            | exv h n' rf =>
              obtain ⟨u, hu, pu⟩ := fld_lookup rf e2
              refine ⟨_, hv, by rw [h1, g1], ec, g.2, _, u, g2, by rw [← h2]; exact h, hu, ?_⟩
              exact G.now q r pu
        · exact q.elim
      | _ => exact q.elim
end
/-! ### try: body except x as n: suite -/
def clr (i : Nat) : RS → RS
  | .nx env s => .nx (env.set i none) s
  | .bk env s => .bk (env.set i none) s
  | .ct env s => .ct (env.set i none) s
  | .rt d s => .rt d s
  | .ex _ _ _ => .no
  | .no => .no
open Classical in
noncomputable def sTryAs (i : Nat) (cs : List Str) (body : MS) (suite : Nat × Nat → MS) : MS := fun env s => match body env s with
  | .ex e env2 s2 => if e.cls ∈ cs ∧ e.fs ≠ [] ∧ ∀ g : Nat × Nat, clr i (suite g (env2.set i (some (.exv g.1 g.2 e.cls e.fs))) s2) = clr i (suite (0, 0) (env2.set i (some (.exv 0 0 e.cls e.fs))) s2)
    then clr i (suite (0, 0) (env2.set i (some (.exv 0 0 e.cls e.fs))) s2) else .no
  | r => r
theorem relE_clr {K : PySem.W.Frag} {m : List Addr} {H : Hp} {env : Sl} {σ : L2.St} (E : RelE K m H env σ) (i : Nat) : RelE K m H (env.set i none) (σ.set i none) := by
  refine ⟨by simp [E.1], fun j d h => ?_⟩
  by_cases c : i = j
  · subst c
    rw [List.getElem?_set] at h
    by_cases q : i < env.length
    · rw [if_pos rfl, if_pos q] at h; cases h
    · rw [if_pos rfl, if_neg q] at h; cases h
  · rw [List.getElem?_set_ne c] at h ⊢
    exact E.2 j d h
theorem gs_clr {K : PySem.W.Frag} {mg : Str → Option Value} {W W2 : WX} {Dn : Ends} {m : List Addr} {H : Hp} {i : Nat} {r : RS} (h : GS K mg W Dn m H (clr i r)) :
    GS K mg W2 { nx := fun σ' H' => Dn.nx (σ'.set i none) H', rt := Dn.rt, bk := fun σ' H' => Dn.bk (σ'.set i none) H', ct := fun σ' H' => Dn.ct (σ'.set i none) H' } m H r := by
  cases r with
  | nx env s => exact fun m' σ' H' l r E => h m' _ H' l r (relE_clr E i)
  | bk env s => exact fun m' σ' H' l r E => h m' _ H' l r (relE_clr E i)
  | ct env s => exact fun m' σ' H' l r E => h m' _ H' l r (relE_clr E i)
  | rt d s => exact h
  | ex e env s => exact h.elim
  | no => exact h.elim
section
variable {X : Cx} {W : WX} {x n : Str} {c : Value} {i : Nat} {body suite : List Stmt} {b₀ : Stmt} {np pos pos' : Pos} {fb : MS} {fs : Nat × Nat → MS} {cs : List Str}
theorem cs_tryAs (hs : X.stack = X.env :: X.outer) (hf : X.env.frame = some X.env.locals) (hN : X.N.Nodup) (hi : X.N[i]? = some n) (hln : X.env.kindOf n = some .local) (hc : Names X x c) (tk : Takes X W)
    (hcs : ∀ k ∈ cs, ∀ cls, X.mg k = some cls → PySem.W.exmOne X.K cls c = some true)
    (hb : ∀ (W : WX) (pn : List (Addr × Obj)) (xe : Value → Shared → Prop), Takes (X.tr pn xe) W → PSs (X.tr pn xe) body (Ts X.K X.mg W fb))
    (hsu : ∀ (a : Addr) (oe : Obj) (cls : Value) (d : Option Addr) (pn : List (Addr × Obj)) (g : Nat × Nat) (k : Str), Zc cls d oe → (∃ vs, oe.data = .fields vs) → g.1 = a → d = some g.2 → k ∈ cs → X.mg k = some cls →
      PSs (X.suite a ((a, oe) :: pn)) (b₀ :: suite) (Ts X.K X.mg (fun _ _ _ _ => False) (fs g))) :
    PS X (.Try body [.ExceptHandler (some (.Name x np)) (some n) (b₀ :: suite) pos'] [] [] pos) (Ts X.K X.mg W (sTryAs i cs fb fs)) :=
  PS.imp (ps_try_as (i := i) (tb := fun W => Ts X.K X.mg W fb) (ts := fun a cls d => fun Dn σ H => ∃ (g : Nat × Nat) (k : Str), g.1 = a ∧ d = some g.2 ∧ k ∈ cs ∧ X.mg k = some cls ∧ Ts X.K X.mg (fun _ _ _ _ => False) (fs g) Dn σ H) (Wout := W) hs hf hN hi hln hc tk
    (fun W pn xe tk _ => hb W pn xe tk) (fun a oe cls d pn hz hf => ⟨fun pins s σ H Dn I ⟨g, k, h1, h2, h3, h4, h⟩ => (hsu a oe cls d pn g k hz hf h1 h2 h3 h4).run pins s σ H Dn I h⟩)) fun Dn σ H ⟨m, env, s, r, E, q⟩ => by
    refine ⟨m, env, s, r, E, ?_⟩
    unfold sTryAs at q
    cases e : fb env s with
    | ex ex env2 s2 =>
      rw [e] at q
      simp only at q
      split at q
      · rename_i hh
        obtain ⟨h1, h2, h3⟩ := hh
        intro m' σ' H' cv dd l r' E' xr
        obtain ⟨gk, hx⟩ := xr
        rcases hx with ⟨z, _⟩ | ⟨da, vfs, ed, hd, nd, rf⟩
        · exact (h2 z).elim
        · refine ⟨true, hcs _ h1 _ gk, fun _ a ha => ⟨(a, da), ex.cls, rfl, ed, h1, gk, m', _, s2, r', relE_set E' (.exv hd nd rf : Rep X.K m' H' (.exv a da ex.cls ex.fs) (.ref a)) i, ?_⟩, fun z => Bool.noConfusion z⟩
          rw [← h3 (a, da)] at q
          exact gs_clr (GS.mono l q)
      · exact q.elim
    | nx env2 s2 => rw [e] at q; exact q
    | rt d s2 => rw [e] at q; exact q
    | bk env2 s2 => rw [e] at q; exact q
    | ct env2 s2 => rw [e] at q; exact q
    | no => rw [e] at q; exact q.elim
end
/-! ### words for printed texts -/
def clsBody : Stmt → List Stmt
  | .ClassDef (body := b) .. => b
  | _ => []
section
variable {K : PySem.W.Frag} {mg : Str → Option Value} {c f k : Str} {C : Addr} {cls : Value}
theorem hcs1 (g : mg c = some (.ref C)) (te : PySem.W.exmOne K (.ref C) (.ref C) = some true) : ∀ k ∈ [c], ∀ cls, mg k = some cls → PySem.W.exmOne K cls (.ref C) = some true := fun k hk cls e => by
  rw [List.mem_singleton.mp hk, g] at e
  cases e
  exact te
theorem hxf1 (g : mg c = some (.ref C)) (xf : XfC K C) (no : PySem.W.findIn K (.ref C) f = some none) (h3 : k ∈ [c]) (h4 : mg k = some cls) : ∃ C, cls = .ref C ∧ XfC K C ∧ PySem.W.findIn K (.ref C) f = some none := by
  rw [List.mem_singleton.mp h3, g] at h4
  cases h4
  exact ⟨C, rfl, xf, no⟩
theorem exm_own (h1 : PySem.W.subIn K (.ref C) (.type "BaseException") = some true) (h2 : PySem.W.isClsIn K C = true) (h3 : PySem.W.typeIn K (.ref C) = some (.type "type")) (h4 : PySem.W.subIn K (.ref C) (.ref C) = some true) : PySem.W.exmOne K (.ref C) (.ref C) = some true := by
  have z1 : (PySem.W.subIn K (.ref C) (.type "BaseException") == some true) = true := by rw [h1] <;> rfl
  have z2 : (PySem.W.clsIn K C).isSome = true := h2
  have z3 : ((PySem.W.clsIn K C).isSome && PySem.W.typeIn K (.ref C) == some (.type "type")) = true := by rw [z2, h3] <;> rfl
  have q : (if (PySem.W.subIn K (.ref C) (.type "BaseException") == some true) = true then (if ((PySem.W.clsIn K C).isSome && PySem.W.typeIn K (.ref C) == some (.type "type")) = true then PySem.W.subIn K (.ref C) (.ref C) else none) else none) = some true := by
    rw [if_pos z1, if_pos z3, h4]
  exact q
end
end Mi
namespace Mi
open PySem PySem.Spec PyProof.Rows L2
/-! ### enumerate of a tuple -/
theorem enum_made {v : Value} {o : Obj} {Hh : Heap → Prop} (B : Begins v o Hh) :
    Meets (Builtin.«enumerate.__new__» ⟨[.type "enumerate", v], []⟩) (fun _ R s => Hh s.heap ∧
      R (.ok (.ret (.ref (s.heap.push o).objs.size))) { s with heap := (s.heap.push o).push { cls := .type "enumerate", data := .fields #[.none, .bool false, .ref s.heap.objs.size, rawInt 0, .none, .none] } }) :=
  .of_wp fun prog w A R s h => by
    obtain ⟨hp, g, d, tk, os⟩ := s
    obtain ⟨h1, h⟩ := h
    have hsub := sub_enumerate
    have it : ∀ {A' : Around} {E : Value → Shared → Prop} {Q : Value → Shared → Prop}, Q (.ref hp.objs.size) ⟨hp.push o, g, d, tk, os⟩ → wpAny (model prog w) A' (pyIter v) Q E ⟨hp, g, d, tk, os⟩ := fun q => B.iter prog w _ _ ⟨hp, g, d, tk, os⟩ _ h1 q
    wp_walk using it
    refine wpAny_stack_any fun st => wpAny_pure ?_
    split
    · rename_i c _ _ _ _ _
      cases (c == Value.type "enumerate")
      · wp_walk using it
        exact ⟨_, rfl, h⟩
      · wp_walk using it
        exact ⟨_, rfl, h⟩
    · wp_walk using it
      exact ⟨_, rfl, h⟩
section
variable {prog : Program} {w : World} {A : Around} {E : Value → Shared → Prop} {s : Shared}
theorem enum_call {v : Value} {o : Obj} {Hh : Heap → Prop} {R : Value → Shared → Prop} (B : Begins v o Hh) (h1 : Hh s.heap)
    (q : ∀ h', IsEnum h' (s.heap.objs.size + 1) s.heap.objs.size 0 .none → h'.get? s.heap.objs.size = some o → (∀ b o, s.heap.get? b = some o → h'.get? b = some o) → R (.ref (s.heap.objs.size + 1)) { s with heap := h' }) :
    wpAny (model prog w) A (call (.type "enumerate") [v]) R E s := by
  refine callType_new F.called_enumerate (by decide) (F.typeCall_enumerate_1 _) (F.newCall_enumerate_1 _) (fun obj => F.args_object_init_2 obj _) F.entry_enumerate_new (enum_made B) ⟨h1, ?_⟩
  have hz : (s.heap.push o).objs.size = s.heap.objs.size + 1 := Heap.size_push ..
  show _ ∧ _
  rw [hz]
  have he : IsEnum ((s.heap.push o).push { cls := .type "enumerate", data := .fields #[.none, .bool false, .ref s.heap.objs.size, rawInt 0, .none, .none] }) (s.heap.objs.size + 1) s.heap.objs.size 0 .none := by
    have := Heap.get?_push_size (s.heap.push o) (o := { cls := .type "enumerate", data := .fields #[.none, .bool false, .ref s.heap.objs.size, rawInt 0, .none, .none] }) rfl
    rw [hz] at this
    exact this
  exact ⟨⟨_, he, rfl⟩, q _ he (Heap.get?_push_of_some _ (Heap.get?_push_size _ B.free)) fun b o x => Heap.get?_push_of_some _ (Heap.get?_push_of_some _ x)⟩
end
def Itu (K : PySem.W.Frag) (a : Addr) : It :=
  ⟨fun i H => ∃ (xs : List V) (x : V), SqT K H a xs ∧ xs[i]? = some x, fun i H v H' => ∃ T x, v = .ref T ∧ H T = none ∧ H' = upd H T (.tup [.int (i : Nat), x]) ∧ ∀ xs, SqT K H a xs → xs[i]? = some x, fun i H => ∃ xs : List V, SqT K H a xs ∧ xs.length = i⟩
theorem turn_enumT {P : Program} {w : World} {K : PySem.W.Frag} {elts : List Expr} {kk : Nat} {tpos : Pos} (a e it : Addr) :
    Turn P w K (.Tuple elts kk tpos) (Itu K a) [e, it] e (fun i h => (∃ old, IsEnum h e it ((i : Nat) : Int) old) ∧ h.IsTupleIter it a i ∧ e ≠ it) where
  mem := by simp
  obj := fun i h st b hb => by
    obtain ⟨⟨old, he⟩, ⟨o, ho, hc, hd⟩, _⟩ := st
    rcases (by simpa using hb : b = e ∨ b = it) with z | z
    · rw [z]; exact ⟨_, he, fun v q => nomatch q⟩
    · rw [z]; exact ⟨o, ho, fun v q => by rw [hd] at q; cases q⟩
  keep := fun i h h' st k => let ⟨⟨old, he⟩, hi, hne⟩ := st; ⟨⟨old, k e (by simp) _ he⟩, hi.at fun o q => k it (by simp) o q, hne⟩
  item := by
    intro X hP hw hK hc i pins s σ H E I hf st hg
    subst hP hw hK
    obtain ⟨⟨old, he⟩, hit, hne⟩ := st
    obtain ⟨xs, x, hq, hx⟩ := hg
    obtain ⟨its, rv, p, hz⟩ := I.tuple hq
    obtain ⟨u, hu, ru⟩ := rv.get hx
    have hel : e < s.heap.objs.size := Heap.lt_size he
    have hil : it < s.heap.objs.size := by obtain ⟨_, q, _⟩ := hit; exact Heap.lt_size q
    have ait : a ≠ it := fun z => by
      obtain ⟨o1, q1, c1, _⟩ := p
      obtain ⟨o2, q2, c2, _⟩ := hit
      rw [z] at q1
      rw [q1] at q2
      cases q2
      rw [c1] at c2
      exact absurd (Value.type.inj c2) (by decide)
    have ea : e ≠ a := fun z => by
      obtain ⟨o1, q1, c1, _⟩ := p
      have he' := he
      unfold IsEnum at he'
      rw [z, q1] at he'
      cases he'
      exact absurd (Value.type.inj c1) (by decide)
    refine wpAny_pyNext_enum_itemD (Draws.tuple (A := X.A.in1) (I.ok.hd hc) it a ait its.toArray) he ⟨hit, p⟩ (by have := (List.getElem?_eq_some_iff.mp hu).1; simpa using this) hne (by simp [hne, ea]) fun x' h' tk hP ho hst' hT hsz hk => ?_
    have ex : x' = u := by
      have hP' : its.toArray[i]? = some x' := hP
      rw [List.getElem?_toArray, hu] at hP'
      cases hP'
      rfl
    subst ex
    refine ⟨_, rfl, wpAny_letOwnedTupleGo_enum (s := { s with heap := h', toks := tk + 1 }) ho fun h'' he' sb => ?_⟩
    have hT2 : h''.get? s.heap.objs.size = some { cls := .type "tuple", data := .seq #[.int i tk, x'] } := (sb.2 _ (Nat.ne_of_gt hel)).trans hT
    have new : ObjOk X.prog X.w (upd H s.heap.objs.size (.tup [.int (i : Nat), x])) h'' s.heap.objs.size (.tup [.int (i : Nat), x]) :=
      ⟨by show 2 ≤ sizeLine; decide, [.int i tk, x'], .cons ⟨_, rfl⟩ (.cons ru .nil), ⟨_, hT2, rfl, _, rfl⟩⟩
    have I1 : Inv X pins σ (upd H s.heap.objs.size (.tup [.int (i : Nat), x])) { s with heap := h'', toks := tk + 1 } :=
      I.turnedNew (ch := [e, it]) (fun b ob hb q => (sb.2 b (fun z => hb (by simp [z]))).trans (hk b ob (fun z => hb (by simp [z])) (fun z => hb (by simp [z])) q)) hf (Nat.le_refl _) new
    refine ⟨.ref s.heap.objs.size, _, I1, rfl, ⟨_, x, rfl, I.hok.fresh (Nat.le_refl _), rfl, fun ys hy => by rw [I.tuple_inj hy hq]; exact hx⟩, ⟨⟨x', ?_⟩, hst'.1.at fun o q => (sb.2 it (Ne.symm hne)).trans q, hne⟩, fun b hb => ?_⟩
    · have e1 : ((i + 1 : Nat) : Int) = (i : Int) + 1 := by omega
      rw [e1]; exact he'
    · have hb' : b < s.heap.objs.size := by
        rcases (by simpa using hb : b = e ∨ b = it) with z | z
        · rw [z]; exact hel
        · rw [z]; exact hil
      rw [upd_ne (Nat.ne_of_lt hb')]
      exact (hf b hb).1
  done := by
    intro X hP hw hK hc i pins s σ H E I hf st hg
    subst hP hw hK
    obtain ⟨⟨old, he⟩, hit, hne⟩ := st
    obtain ⟨xs, hq, hx⟩ := hg
    obtain ⟨its, rv, p, hz⟩ := I.tuple hq
    obtain ⟨f0, f1, f2, f3, f4, f5⟩ := hf it (by simp)
    have hl := rv.length
    have ait : a ≠ it := fun z => by
      obtain ⟨o1, q1, c1, _⟩ := p
      obtain ⟨o2, q2, c2, _⟩ := hit
      rw [z] at q1
      rw [q1] at q2
      cases q2
      rw [c1] at c2
      exact absurd (Value.type.inj c2) (by decide)
    have en : its.toArray.size = i := by rw [List.size_toArray]; omega
    exact wpAny_pyNext_enum_endD (Draws.tuple (A := X.A.in1) (I.ok.hd hc) it a ait its.toArray) he ⟨by rw [en]; exact hit, p⟩ fun h' eb => ⟨rfl, I.turned (t' := s.toks) (fun b o hb q => eb b o hb q) f0 f1 f3 f4 f5⟩
  self := fun A i s Q E st h => let ⟨⟨_, he⟩, _⟩ := st; wpAny_pyIter_enum he h
/-- enumerate(x), x a list or a tuple -/
def iEnumA (K : PySem.W.Frag) (ta : TA) : TI := fun σ H R => ta σ H fun vs H1 => ∃ a, vs = [.ref a] ∧ (((∃ xs, SqL K H1 a xs) ∧ R (Ite K a) H1) ∨ ((∃ xs, SqT K H1 a xs) ∧ R (Itu K a) H1))
theorem pi_enumA {X : Cx} {e : Expr} {ta : TA} {p pos tpos : Pos} {elts : List Expr} {kk : Nat} (hg : Gl X "enumerate") (hm : X.mg "enumerate" = none) (ha : PA X [e] ta) (hs : starEach [e] X.env = [(false, eval e X.env)] := by rfl) :
    PI X (.Tuple elts kk tpos) (.Call (.Name "enumerate" p) [e] [] pos) (iEnumA X.K ta) := by
  refine ⟨fun pins s σ H R I h => ?_⟩
  refine Call_ (ld_blt I hg hm boot_enumerate (PyProof.Rows.callWith_type1 (thn (ha.run pos pins s σ H _ I h) fun us s1 ⟨vs, H1, I1, r1, a, ex, q1⟩ => ?_) hs rfl))
  subst ex
  cases r1 with
  | cons r rr =>
    cases rr
    cases r
    have fp : ∀ b ∈ [s1.heap.objs.size + 1, s1.heap.objs.size], FpOk X pins H1 b := fun b hb => by
      have hle : s1.heap.objs.size ≤ b := by
        rcases (by simpa using hb : b = s1.heap.objs.size + 1 ∨ b = s1.heap.objs.size) with z | z
        · rw [z]; exact Nat.le_add_right _ _
        · rw [z]; exact Nat.le_refl _
      exact I1.fpOk hle (I1.hok.fresh hle)
    rcases q1 with ⟨⟨xs, hq⟩, q⟩ | ⟨⟨xs, hq⟩, q⟩
    · obtain ⟨its, rv, p', hz⟩ := I1.list hq
      refine call_enumerate_list p'.isList fun h' he hit hsz hk => wpAny_pyIter_enum he ?_
      exact ⟨s1.heap.objs.size + 1, [s1.heap.objs.size + 1, s1.heap.objs.size], _, _, H1, rfl, I1.kept (t' := s1.toks) hk, turn_enum a (s1.heap.objs.size + 1) s1.heap.objs.size, ⟨⟨.none, he⟩, hit, Nat.succ_ne_self _⟩, fp, q⟩
    · obtain ⟨its, rv, p', hz⟩ := I1.tuple hq
      refine enum_call (begins_tuple a its.toArray) p' fun h' he hit hk => wpAny_pyIter_enum he ?_
      exact ⟨s1.heap.objs.size + 1, [s1.heap.objs.size + 1, s1.heap.objs.size], _, _, H1, rfl, I1.kept (t' := s1.toks) hk, turn_enumT a (s1.heap.objs.size + 1) s1.heap.objs.size, ⟨⟨.none, he⟩, ⟨_, hit, rfl, rfl⟩, Nat.succ_ne_self _⟩, fp, q⟩
/-! ### its mirror -/
def enm (xs : List D) : List D := xs.mapIdx fun i x => .tup [.int (i : Nat), x]
theorem enm_len (xs : List D) : (enm xs).length = xs.length := by simp [enm]
theorem enm_get {xs : List D} {i : Nat} {d : D} (h : (enm xs)[i]? = some d) : ∃ x, xs[i]? = some x ∧ d = .tup [.int (i : Nat), x] := by
  unfold enm at h
  rw [List.getElem?_mapIdx] at h
  cases e : xs[i]? with
  | none => rw [e] at h; cases h
  | some x => rw [e] at h; cases h; exact ⟨x, rfl, rfl⟩
def iEnm (a : ME (List D)) : ME Itm := fun env s => (a env s).bind fun x s => match x with
  | [.tup xs] => .ok (Itm.mk (enm xs) always) s
  | [.fl xs] => .ok (Itm.mk (enm xs) always) s
  | [.loc l] => match s[l]? with
    | some (.lst xs) => .ok (Itm.mk (enm xs) (fun s2 => s2[l]? = some (.lst xs))) s
    | _ => .no
  | _ => .no
section
variable {K : PySem.W.Frag} {m : List Addr} {H : Hp}
theorem enm_turn {m2 : List Addr} {H2 H3 : Hp} {s2 : Store} {v : V} {i : Nat} {x : D} {xs : List D} {vs : List V} (r2 : Rel K m2 H2 s2) (h : Reps K m2 H2 xs vs) (e : xs[i]? = some x) {T : Addr} {y : V} (ev : v = .ref T) (hT : H2 T = none) (h3 : H3 = upd H2 T (.tup [.int (i : Nat), y])) (hy : vs[i]? = some y) :
    Le K m2 H2 m2 H3 ∧ Rel K m2 H3 s2 ∧ Rep K m2 H3 (.tup [.int (i : Nat), x]) v := by
  subst ev h3
  obtain ⟨w, hw, rw'⟩ := h.get e
  rw [hy] at hw
  cases hw
  exact ⟨le_new hT, r2.tmp hT, rep_newtup hT (.cons (.int _) (.cons rw' .nil))⟩
theorem itr_enumL {l : Nat} {xs : List D} {a : Addr} (h : m[l]? = some a) : ItR K m H ⟨enm xs, fun s2 => s2[l]? = some (.lst xs)⟩ (Ite K a) := fun m2 H2 s2 l2 r2 g => by
  have g' : s2[l]? = some (.lst xs) := g
  obtain ⟨vs, h1, h2⟩ := r2.list (l2.get h) g'
  have hq : SqL K H2 a vs := .inl (.inl h1)
  refine ⟨fun i d e => ?_, ⟨vs, hq, by rw [← h2.length]; exact Nat.le_of_eq (enm_len xs).symm⟩⟩
  obtain ⟨x, hx, rfl⟩ := enm_get e
  obtain ⟨v, hv, rv⟩ := h2.get hx
  refine ⟨⟨vs, v, hq, hv⟩, fun w H3 y => ?_⟩
  obtain ⟨T, z, ev, hT, h3, y⟩ := y
  exact enm_turn r2 h2 hx ev hT h3 (y vs hq)
theorem itr_enumF {xs : List D} {vs : List V} {a : Addr} (h : FrL K H a vs) (p : Reps K m H xs vs) : ItR K m H ⟨enm xs, always⟩ (Ite K a) := fun m2 H2 s2 l2 r2 g => by
  have hq : SqL K H2 a vs := (l2.frl a vs h).sq
  have h2 := p.mono l2
  refine ⟨fun i d e => ?_, ⟨vs, hq, by rw [← h2.length]; exact Nat.le_of_eq (enm_len xs).symm⟩⟩
  obtain ⟨x, hx, rfl⟩ := enm_get e
  obtain ⟨v, hv, rv⟩ := h2.get hx
  refine ⟨⟨vs, v, hq, hv⟩, fun w H3 y => ?_⟩
  obtain ⟨T, z, ev, hT, h3, y⟩ := y
  exact enm_turn r2 h2 hx ev hT h3 (y vs hq)
theorem itr_enumT {xs : List D} {vs : List V} {a : Addr} (h : SqT K H a vs) (p : Reps K m H xs vs) : ItR K m H ⟨enm xs, always⟩ (Itu K a) := fun m2 H2 s2 l2 r2 g => by
  have hq : SqT K H2 a vs := l2.tup a vs h
  have h2 := p.mono l2
  refine ⟨fun i d e => ?_, ⟨vs, hq, by rw [← h2.length]; exact (enm_len xs).symm⟩⟩
  obtain ⟨x, hx, rfl⟩ := enm_get e
  obtain ⟨v, hv, rv⟩ := h2.get hx
  refine ⟨⟨vs, v, hq, hv⟩, fun w H3 y => ?_⟩
  obtain ⟨T, z, ev, hT, h3, y⟩ := y
  exact enm_turn r2 h2 hx ev hT h3 (y vs hq)
end
section
variable {X : Cx} {W : WX} {e : Expr} {p pos tpos : Pos} {elts : List Expr} {kk : Nat} {fs : ME (List D)}
theorem ci_enum (hg : Gl X "enumerate") (hm : X.mg "enumerate" = none) (ha : PA X [e] (Ta X.K X.mg W fs)) (hs : starEach [e] X.env = [(false, eval e X.env)] := by rfl) :
    PI X (.Tuple elts kk tpos) (.Call (.Name "enumerate" p) [e] [] pos) (Ti X.K X.mg W (iEnm fs)) := PI.imp (pi_enumA hg hm ha hs) fun σ H Rw h =>
  Tm.bind (k := fun _ (x : List D) s => match x with
  | [.tup xs] => R.ok (Itm.mk (enm xs) always) s
  | [.fl xs] => R.ok (Itm.mk (enm xs) always) s
  | [.loc l] => match s[l]? with
    | some (.lst xs) => R.ok (Itm.mk (enm xs) (fun s2 => s2[l]? = some (.lst xs))) s
    | _ => R.no
  | _ => R.no) h fun m1 H1 env x vs s1 r1 E1 p1 g1 => by
    split at g1
    · obtain ⟨v, rfl, h1⟩ := reps1 p1
      obtain ⟨a, vs, rfl, hq, rr⟩ := h1.sqT
      exact ⟨a, rfl, .inr ⟨⟨vs, hq⟩, g1 m1 H1 _ .refl r1 (itr_enumT hq rr)⟩⟩
    · obtain ⟨v, rfl, h1⟩ := reps1 p1
      cases h1 with
      | fl hq rr => exact ⟨_, rfl, .inl ⟨⟨_, hq.sq⟩, g1 m1 H1 _ .refl r1 (itr_enumF hq rr)⟩⟩
    · obtain ⟨v, rfl, h1⟩ := reps1 p1
      cases h1 with
      | loc hl =>
        split at g1
        · rename_i q
          obtain ⟨vs, h1, h2⟩ := r1.list hl q
          exact ⟨_, rfl, .inl ⟨⟨vs, .inl (.inl h1)⟩, g1 m1 H1 _ .refl r1 (itr_enumL hl)⟩⟩
        · exact g1.elim
    · exact g1.elim
end
/-! ### all, any of a list of bools -/
def blsOf : List D → Option (List Bool)
  | [] => some []
  | .bl i :: r => (blsOf r).map fun x => i :: x
  | _ :: _ => none
theorem blsOf_map (bs : List Bool) : blsOf (bs.map D.bl) = some bs := by
  induction bs with
  | nil => rfl
  | cons n ns ih => simp [blsOf, ih]
theorem bls_reps {K : PySem.W.Frag} {m : List Addr} {H : Hp} : ∀ {ds : List D} {vs : List V} {bs : List Bool}, Reps K m H ds vs → blsOf ds = some bs → vs = bs.map V.bl
  | [], _, _, .nil, e => by cases e; rfl
  | d :: ds, _, bs, .cons p r, e => by
    cases d with
    | bl i =>
      unfold blsOf at e
      cases q : blsOf ds with
      | none => rw [q] at e; cases e
      | some x => rw [q] at e; cases e; cases p; rw [List.map_cons, bls_reps r q]
    | _ => cases e
def dAll : List D → Store → Option (D × Store)
  | [x], s => (lstOf s x).bind fun xs => (blsOf xs).map fun bs => (.bl (bs.all id), s)
  | _, _ => none
def dAny : List D → Store → Option (D × Store)
  | [x], s => (lstOf s x).bind fun xs => (blsOf xs).map fun bs => (.bl (bs.any id), s)
  | _, _ => none
section
variable {K : PySem.W.Frag}
theorem fns_all : FnS K (rAll K) dAll := by
  intro mg W σ m H s xs ds Q r p g
  unfold dAll at g
  split at g
  · obtain ⟨v, rfl, h⟩ := reps1 p
    rename_i x
    cases q : lstOf s x with
    | none => rw [q] at g; exact g.elim
    | some ys =>
      rw [q, Option.bind_some] at g
      cases q2 : blsOf ys with
      | none => rw [q2] at g; exact g.elim
      | some bs =>
        rw [q2] at g
        obtain ⟨a, vs, rfl, hq, rr⟩ := lstOf_sq r h q
        have e := bls_reps rr q2
        subst e
        exact ⟨a, bs, rfl, hq, G.now (d := D.bl (bs.all id)) g r (.bl _)⟩
  · exact g.elim
theorem fns_any : FnS K (rAny K) dAny := by
  intro mg W σ m H s xs ds Q r p g
  unfold dAny at g
  split at g
  · obtain ⟨v, rfl, h⟩ := reps1 p
    rename_i x
    cases q : lstOf s x with
    | none => rw [q] at g; exact g.elim
    | some ys =>
      rw [q, Option.bind_some] at g
      cases q2 : blsOf ys with
      | none => rw [q2] at g; exact g.elim
      | some bs =>
        rw [q2] at g
        obtain ⟨a, vs, rfl, hq, rr⟩ := lstOf_sq r h q
        have e := bls_reps rr q2
        subst e
        exact ⟨a, bs, rfl, hq, G.now (d := D.bl (bs.any id)) g r (.bl _)⟩
  · exact g.elim
end
end Mi
namespace Mi
open PySem PySem.Spec PyProof.Rows L2
/-! ### dicts with ints and texts as keys -/
def rIxDic : R2 := fun x y H Q => ∃ a v, x = .ref a ∧ DGet H a y (some v) ∧ Q v H
theorem ix_dic {X : Cx} (hu : X.A.units + 64 < cLine) : IxR X rIxDic := by
  intro value slice pins s σ H x y v u Q I rx ry h hs
  obtain ⟨a, z, rfl, g, q⟩ := h
  cases rx
  exact tail_any (ops := [.ref a, u]) (dict_typeIs I g) PySem.F.slot_dict_getitem.lookup (d_getItem (by omega) I g ry fun w' s' I' r' => ⟨z, H, I', r', q⟩) hs
theorem ix_any {X : Cx} (hu : X.A.units + 64 < cLine) : IxR X (fun x y H Q => rIx X.K x y H Q ∨ rIxDic x y H Q) := ix_seq.or (ix_dic hu)
def rSetDic : TSet := fun x y z H Q => ∃ a H', x = .ref a ∧ DPut H a y z H' ∧ Q H'
theorem set_dic {X : Cx} (hu : X.A.units + 64 < cLine) : PSet X rSetDic := by
  intro pins s σ H o i v ov iv u Q I ro ri rv h
  obtain ⟨a, H', rfl, g, q⟩ := h
  cases ro
  exact d_setItem (by omega) I g ri rv fun s' I' => ⟨H', I', q⟩
theorem pset_or {X : Cx} {t t' : TSet} (h : PSet X t) (h' : PSet X t') : PSet X (fun x y z H Q => t x y z H Q ∨ t' x y z H Q) := by
  intro pins s σ H o i v ov iv u Q I ro ri rv q
  rcases q with q | q
  · exact h pins s σ H o i v ov iv u Q I ro ri rv q
  · exact h' pins s σ H o i v ov iv u Q I ro ri rv q
theorem set_any {X : Cx} (hu : X.A.units + 64 < cLine) : PSet X (fun x y z H Q => rSetL x y z H Q ∨ rSetDic x y z H Q) := pset_or set_list (set_dic hu)
/-! ### mirrors -/
def keyOf : D → Option Key
  | .int i => some (.inl i)
  | .str z => some (.inr z)
  | _ => none
theorem keyOf_rep {K : PySem.W.Frag} {m : List Addr} {H : Hp} {d : D} {v : V} {k : Key} (p : Rep K m H d v) (e : keyOf d = some k) : v = kV k := by
  cases p <;> first | (cases e; done) | (cases e; rfl)
def getD {κ : Type} [DecidableEq κ] (ks : List (κ × D)) (k : κ) : Option D := (ks.find? fun kv => decide (kv.1 = k)).map (·.2)
def putD {κ : Type} [DecidableEq κ] (ks : List (κ × D)) (k : κ) (v : D) : List (κ × D) :=
  if (ks.any fun kv => decide (kv.1 = k)) = true then ks.map (fun kv => if kv.1 = k then (kv.1, v) else kv) else ks ++ [(k, v)]
def dicOf (s : Store) : D → Option (Nat × List (Key × D))
  | .loc l => match s[l]? with
    | some (.dic ks) => some (l, ks)
    | _ => none
  | _ => none
/-- keys that are tuples of ints and texts -/
def keysOf : List D → Option (List Key)
  | [] => some []
  | x :: xs => (keyOf x).bind fun k => (keysOf xs).map fun r => k :: r
def keyT : D → Option (List Key)
  | .tup xs => keysOf xs
  | _ => none
def dctOf (s : Store) : D → Option (Nat × List (List Key × D))
  | .loc l => match s[l]? with
    | some (.dct ks) => some (l, ks)
    | _ => none
  | _ => none
theorem keysOf_rep {K : PySem.W.Frag} {m : List Addr} {H : Hp} : ∀ {ds : List D} {vs : List V} {ks : List Key}, Reps K m H ds vs → keysOf ds = some ks → vs = ks.map kV
  | _, _, _, .nil, e => by cases e; rfl
  | x :: xs, _, ks, .cons p r, e => by
    unfold keysOf at e
    cases q : keyOf x with
    | none => rw [q] at e; cases e
    | some k =>
      rw [q, Option.bind_some] at e
      cases q2 : keysOf xs with
      | none => rw [q2] at e; cases e
      | some r2 =>
        rw [q2] at e
        cases e
        rw [keyOf_rep p q, keysOf_rep r q2]
        rfl
theorem keyT_rep {K : PySem.W.Frag} {m : List Addr} {H : Hp} {d : D} {v : V} {k : List Key} (p : Rep K m H d v) (e : keyT d = some k) : ∃ b, v = .ref b ∧ H b = some (.tup (k.map kV)) := by
  cases d with
  | tup xs =>
    obtain ⟨a, vs, rfl, h, r⟩ := p.trk
    rw [keysOf_rep r e] at h
    exact ⟨a, rfl, h⟩
  | _ => cases e
/-- x[i], x a dict or a sequence -/
def dIxA (x i : D) (s : Store) : Option (D × Store) := match dicOf s x with
  | some (_, ks) => (keyOf i).bind fun k => (getD ks k).map fun d => (d, s)
  | none => match dctOf s x with
    | some (_, ks) => (keyT i).bind fun k => (getD ks k).map fun d => (d, s)
    | none => dIx x i s
section
variable {K : PySem.W.Frag} {m : List Addr} {H : Hp} {s : Store}
section
variable {κ : Type} [DecidableEq κ]
theorem repk_get {k : κ} : ∀ {ks : List (κ × D)} {vs : List (κ × V)} {d : D}, RepK K m H ks vs → getD ks k = some d → ∃ v, valV vs k = some v ∧ Rep K m H d v
  | _, _, _, .nil, e => by cases e
  | (q, x) :: ks, (_, v) :: vs, d, .cons p r, e => by
    by_cases c : q = k
    · subst c
      refine ⟨v, valV_pos rfl, ?_⟩
      simp [getD, List.find?_cons] at e
      subst e
      exact p
    · rw [valV_neg c]
      refine repk_get r ?_
      simpa [getD, List.find?_cons, c] using e
theorem repk_any {k : κ} : ∀ {ks : List (κ × D)} {vs : List (κ × V)}, RepK K m H ks vs → (ks.any fun kv => decide (kv.1 = k)) = (vs.any fun kv => decide (kv.1 = k))
  | _, _, .nil => rfl
  | (q, x) :: ks, (_, v) :: vs, .cons p r => by simp [repk_any r]
theorem repk_map {k : κ} {y : D} {w : V} (p : Rep K m H y w) : ∀ {ks : List (κ × D)} {vs : List (κ × V)}, RepK K m H ks vs → RepK K m H (ks.map fun kv => if kv.1 = k then (kv.1, y) else kv) (vs.map fun kv => if kv.1 = k then (kv.1, w) else kv)
  | _, _, .nil => .nil
  | (q, x) :: ks, (_, v) :: vs, .cons h r => by
    by_cases c : q = k
    · simp only [List.map_cons, c, if_true]
      exact .cons p (repk_map p r)
    · simp only [List.map_cons, c, if_false]
      exact .cons h (repk_map p r)
theorem repk_app {ks : List (κ × D)} {vs : List (κ × V)} {k : κ} {y : D} {w : V} (h : RepK K m H ks vs) (p : Rep K m H y w) : RepK K m H (ks ++ [(k, y)]) (vs ++ [(k, w)]) := by
  induction ks generalizing vs with
  | nil => cases h; exact .cons p .nil
  | cons a ks ih => cases h with | cons q r => exact .cons q (ih r)
theorem repk_put {ks : List (κ × D)} {vs : List (κ × V)} {k : κ} {y : D} {w : V} (h : RepK K m H ks vs) (p : Rep K m H y w) : RepK K m H (putD ks k y) (putK vs k w) := by
  unfold putD putK
  rw [repk_any h]
  split
  · exact repk_map p h
  · exact repk_app h p
theorem repk_len : ∀ {ks : List (κ × D)} {vs : List (κ × V)}, RepK K m H ks vs → ks.length = vs.length
  | _, _, .nil => rfl
  | _, _, .cons _ r => by simp [repk_len r]
end
theorem dicOf_at (r : Rel K m H s) {d : D} {v : V} {l : Nat} {ks : List (Key × D)} (p : Rep K m H d v) (e : dicOf s d = some (l, ks)) : ∃ a vs, d = .loc l ∧ v = .ref a ∧ m[l]? = some a ∧ H a = some (.dK vs) ∧ RepK K m H ks vs := by
  cases p with
  | @loc l' a h =>
    unfold dicOf at e
    cases q : s[l']? with
    | none => simp [q] at e
    | some c =>
      cases c with
      | lst _ => simp [q] at e
      | dct _ => simp [q] at e
      | dic ks' =>
        simp only [q] at e
        cases e
        obtain ⟨ws, h1, h2⟩ := r.at_ _ a _ h q
        exact ⟨a, ws, rfl, rfl, h, h1, h2⟩
  | _ => cases e
theorem dctOf_at (r : Rel K m H s) {d : D} {v : V} {l : Nat} {ks : List (List Key × D)} (p : Rep K m H d v) (e : dctOf s d = some (l, ks)) : ∃ a vs, d = .loc l ∧ v = .ref a ∧ m[l]? = some a ∧ H a = some (.dT vs) ∧ RepK K m H ks vs := by
  cases p with
  | @loc l' a h =>
    unfold dctOf at e
    cases q : s[l']? with
    | none => simp [q] at e
    | some c =>
      cases c with
      | lst _ => simp [q] at e
      | dic _ => simp [q] at e
      | dct ks' =>
        simp only [q] at e
        cases e
        obtain ⟨ws, h1, h2⟩ := r.at_ _ a _ h q
        exact ⟨a, ws, rfl, rfl, h, h1, h2⟩
  | _ => cases e
theorem ops_ixA : OpS K (fun x y H Q => rIx K x y H Q ∨ rIxDic x y H Q) dIxA := by
  intro mg W σ m H s x y dx dy Q r px py g
  unfold dIxA at g
  cases e : dicOf s dx with
  | none =>
    rw [e] at g
    simp only at g
    cases e0 : dctOf s dx with
    | none => rw [e0] at g; exact .inl (ops_ix r px py g)
    | some o =>
      obtain ⟨l, ks⟩ := o
      rw [e0] at g
      simp only at g
      cases e1 : keyT dy with
      | none => rw [e1] at g; exact g.elim
      | some k =>
        rw [e1, Option.bind_some] at g
        cases e2 : getD ks k with
        | none => rw [e2] at g; exact g.elim
        | some d =>
          rw [e2] at g
          obtain ⟨a, vs, _, rfl, _, h1, h2⟩ := dctOf_at r px e0
          obtain ⟨v, hv, pv⟩ := repk_get h2 e2
          obtain ⟨b, rfl, hb⟩ := keyT_rep py e1
          exact .inr ⟨a, v, rfl, hv ▸ DGet.t h1 hb, G.now (d := d) g r pv⟩
  | some o =>
    obtain ⟨l, ks⟩ := o
    rw [e] at g
    simp only at g
    cases e1 : keyOf dy with
    | none => rw [e1] at g; exact g.elim
    | some k =>
      rw [e1, Option.bind_some] at g
      cases e2 : getD ks k with
      | none => rw [e2] at g; exact g.elim
      | some d =>
        rw [e2] at g
        obtain ⟨a, vs, _, rfl, _, h1, h2⟩ := dicOf_at r px e
        obtain ⟨v, hv, pv⟩ := repk_get h2 e2
        rw [keyOf_rep py e1]
        exact .inr ⟨a, v, rfl, hv ▸ DGet.k h1, G.now (d := d) g r pv⟩
open Classical in
/-- o[i] = e, o a dict or a list -/
noncomputable def pAny (x y z : D) (s : Store) : Option Store := match dicOf s x with
  | some (l, ks) => (keyOf y).bind fun k => if ks.length < sizeLine then some (s.set l (.dic (putD ks k z))) else none
  | none => match dctOf s x with
    | some (l, ks) => (keyT y).bind fun k => if ks.length < sizeLine then some (s.set l (.dct (putD ks k z))) else none
    | none => pList x y z s
theorem puts_any : PutS K (fun x y z H Q => rSetL x y z H Q ∨ rSetDic x y z H Q) pAny := by
  intro m H s s' x y z dx dy dz Q r px py pz e q
  unfold pAny at e
  cases e0 : dicOf s dx with
  | none =>
    rw [e0] at e
    simp only at e
    cases e3 : dctOf s dx with
    | none => rw [e3] at e; exact .inl (puts_list r px py pz e q)
    | some o =>
      obtain ⟨l, ks⟩ := o
      rw [e3] at e
      simp only at e
      cases e1 : keyT dy with
      | none => rw [e1] at e; cases e
      | some k =>
        rw [e1, Option.bind_some] at e
        split at e
        · rename_i hz
          cases e
          obtain ⟨a, vs, rfl, rfl, hl, h1, h2⟩ := dctOf_at r px e3
          obtain ⟨b, rfl, hb⟩ := keyT_rep py e1
          have le := le_put (o := .dT (putK vs k z)) r (List.mem_of_getElem? hl)
          refine .inr ⟨a, _, rfl, DPut.t h1 hb (by rw [← repk_len h2]; exact hz), q _ le (r.put hl ⟨_, upd_same, ?_⟩)⟩
          have h3 := repk_put (k := k) h2 pz
          exact h3.mono le
        · cases e
  | some o =>
    obtain ⟨l, ks⟩ := o
    rw [e0] at e
    simp only at e
    cases e1 : keyOf dy with
    | none => rw [e1] at e; cases e
    | some k =>
      rw [e1, Option.bind_some] at e
      split at e
      · rename_i hz
        cases e
        obtain ⟨a, vs, rfl, rfl, hl, h1, h2⟩ := dicOf_at r px e0
        rw [keyOf_rep py e1]
        have le := le_put (o := .dK (putK vs k z)) r (List.mem_of_getElem? hl)
        refine .inr ⟨a, _, rfl, DPut.k h1 (by rw [← repk_len h2]; exact hz), q _ le (r.put hl ⟨_, upd_same, ?_⟩)⟩
        have h3 := repk_put (k := k) h2 pz
        exact h3.mono le
      · cases e
end
/-- {} -/
def eDict0 : ME D := fun _ s => .ok (.loc s.length) (s ++ [.dic []])
def eDict0T : ME D := fun _ s => .ok (.loc s.length) (s ++ [.dct []])
section
variable {X : Cx} {W : WX} {pos : Pos}
theorem ce_dict0T : PE X (.Dict [] [] pos) (Te X.K X.mg W eDict0T) := PE.imp pe_dnewT fun σ H Q ⟨m, env, s, r, E, g⟩ p hp =>
  g (m ++ [p]) _ _ (le_more r hp) (r.new hp ⟨[], upd_same, .nil⟩) (.loc (len_get r))
theorem ce_dict0 : PE X (.Dict [] [] pos) (Te X.K X.mg W eDict0) := PE.imp pe_dnewK fun σ H Q ⟨m, env, s, r, E, g⟩ p hp =>
  g (m ++ [p]) _ _ (le_more r hp) (r.new hp ⟨[], upd_same, .nil⟩) (.loc (len_get r))
end
end Mi
namespace Mi
open PySem PySem.Spec PyProof.Rows L2
/-! ### equations for simp -/
@[simp] theorem dIxA_tup (xs : List D) (i : D) (s : Store) : dIxA (.tup xs) i s = dIx (.tup xs) i s := rfl
@[simp] theorem dIxA_str (z : Str) (i : D) (s : Store) : dIxA (.str z) i s = dIx (.str z) i s := rfl
theorem dIxA_loc {s : Store} {l : Nat} {xs : List D} (h : s[l]? = some (.lst xs)) (i : Int) : dIxA (.loc l) (.int i) s = (L2.atI xs i).map fun d => (d, s) := by
  have e : dicOf s (.loc l) = none := by simp [dicOf, h]
  have e2 : dctOf s (.loc l) = none := by simp [dctOf, h]
  unfold dIxA
  rw [e]
  simp only
  rw [e2]
  exact dIx_loc h i
theorem dIxA_dct {s : Store} {l : Nat} {ks : List (List Key × D)} (h : s[l]? = some (.dct ks)) {i d : D} {k : List Key} (hk : keyT i = some k) (hd : getD ks k = some d) : dIxA (.loc l) i s = some (d, s) := by
  have e : dicOf s (.loc l) = none := by simp [dicOf, h]
  have e2 : dctOf s (.loc l) = some (l, ks) := by simp [dctOf, h]
  unfold dIxA
  rw [e]
  simp only
  rw [e2]
  simp [hk, hd]
theorem pAny_dct {s : Store} {l : Nat} {ks : List (List Key × D)} (h : s[l]? = some (.dct ks)) {i : D} {k : List Key} (hk : keyT i = some k) (hz : ks.length ≤ 1000000) (z : D) : pAny (.loc l) i z s = some (s.set l (.dct (putD ks k z))) := by
  have e : dicOf s (.loc l) = none := by simp [dicOf, h]
  have e2 : dctOf s (.loc l) = some (l, ks) := by simp [dctOf, h]
  have q : ks.length < sizeLine := by rw [sizeLine_eq]; omega
  unfold pAny
  rw [e]
  simp only
  rw [e2]
  simp only [hk, Option.bind_some, if_pos q]
@[simp] theorem eDict0T_eq (env : Sl) (s : Store) : eDict0T env s = .ok (.loc s.length) (s ++ [.dct []]) := rfl
theorem dIxA_dic {s : Store} {l : Nat} {ks : List (Key × D)} (h : s[l]? = some (.dic ks)) {i d : D} {k : Key} (hk : keyOf i = some k) (hd : getD ks k = some d) : dIxA (.loc l) i s = some (d, s) := by
  have e : dicOf s (.loc l) = some (l, ks) := by simp [dicOf, h]
  unfold dIxA
  rw [e]
  simp [hk, hd]
theorem pAny_loc {s : Store} {l : Nat} {xs : List D} (h : s[l]? = some (.lst xs)) (i z : D) : pAny (.loc l) i z s = pList (.loc l) i z s := by
  have e : dicOf s (.loc l) = none := by simp [dicOf, h]
  have e2 : dctOf s (.loc l) = none := by simp [dctOf, h]
  unfold pAny
  rw [e]
  simp only
  rw [e2]
theorem pAny_dic {s : Store} {l : Nat} {ks : List (Key × D)} (h : s[l]? = some (.dic ks)) {i : D} {k : Key} (hk : keyOf i = some k) (hz : ks.length ≤ 1000000) (z : D) : pAny (.loc l) i z s = some (s.set l (.dic (putD ks k z))) := by
  have e : dicOf s (.loc l) = some (l, ks) := by simp [dicOf, h]
  have q : ks.length < sizeLine := by rw [sizeLine_eq]; omega
  unfold pAny
  rw [e]
  simp only [hk, Option.bind_some, if_pos q]
@[simp] theorem eDict0_eq (env : Sl) (s : Store) : eDict0 env s = .ok (.loc s.length) (s ++ [.dic []]) := rfl
@[simp] theorem iEnm_eq (a : ME (List D)) (env : Sl) (s : Store) : iEnm a env s = (a env s).bind fun x s => match x with
  | [.tup xs] => .ok (Itm.mk (enm xs) always) s
  | [.fl xs] => .ok (Itm.mk (enm xs) always) s
  | [.loc l] => match s[l]? with
    | some (.lst xs) => .ok (Itm.mk (enm xs) (fun s2 => s2[l]? = some (.lst xs))) s
    | _ => .no
  | _ => .no := rfl
@[simp] theorem sRaise_eq (c : Str) (ns : List Str) (a : ME (List D)) (env : Sl) (s : Store) : sRaise c ns a env s = (a env s).then env fun xs s => if xs.length = ns.length then .ex ⟨c, (ns.zip xs).reverse⟩ env s else .no := rfl
theorem dAll_loc {s : Store} {l : Nat} {bs : List Bool} (h : s[l]? = some (.lst (bs.map D.bl))) : dAll [.loc l] s = some (.bl (bs.all id), s) := by simp [dAll, lstOf, h, blsOf_map]
theorem putD_get {κ : Type} [DecidableEq κ] (ks : List (κ × D)) (k : κ) (z : D) : getD (putD ks k z) k = some z := by
  unfold putD getD
  by_cases c : (ks.any fun kv => decide (kv.1 = k)) = true
  · rw [if_pos c]
    induction ks with
    | nil => simp at c
    | cons p ks ih =>
      by_cases q : p.1 = k
      · simp [q]
      · have c' : (ks.any fun kv => decide (kv.1 = k)) = true := by simpa [q] using c
        simpa [List.find?_cons, q] using ih c'
  · rw [if_neg c, List.find?_append]
    have n : ks.find? (fun kv => decide (kv.1 = k)) = none := List.find?_eq_none.mpr fun x hx h => c (List.any_eq_true.mpr ⟨x, hx, h⟩)
    rw [n]
    simp
theorem putD_other {κ : Type} [DecidableEq κ] {k k' : κ} (ne : k' ≠ k) (ks : List (κ × D)) (z : D) : getD (putD ks k z) k' = getD ks k' := by
  unfold putD getD
  by_cases c : (ks.any fun kv => decide (kv.1 = k)) = true
  · rw [if_pos c]
    clear c
    induction ks with
    | nil => rfl
    | cons p ks ih =>
      by_cases q : p.1 = k
      · have n : ¬ p.1 = k' := fun e => ne (e.symm.trans q)
        have n2 : ¬ k = k' := fun e => ne e.symm
        simpa [List.find?_cons, q, n, n2] using ih
      · by_cases q2 : p.1 = k'
        · simp [List.find?_cons, q, q2, ne]
        · simpa [List.find?_cons, q, q2] using ih
  · rw [if_neg c, List.find?_append]
    have n : ¬ k = k' := fun e => ne e.symm
    simp [n]
theorem putD_len {κ : Type} [DecidableEq κ] (ks : List (κ × D)) (k : κ) (z : D) : (putD ks k z).length ≤ ks.length + 1 := by
  unfold putD
  split <;> simp
end Mi
namespace Mi
open PySem PySem.Spec PyProof.Rows L2
/-! ### in, not in -/
theorem un65 {k : Nat} {A : Around} (r : Room k A) : A.units + 65 < cLine := by have := r.un; omega
def flatD : D → Bool
  | .non => true
  | .bl _ => true
  | .int _ => true
  | .str _ => true
  | _ => false
def eqD : D → D → Bool
  | .non, .non => true
  | .bl a, .bl b => a == b
  | .bl a, .int b => (if a then 1 else 0) == b
  | .int a, .bl b => a == (if b then 1 else 0)
  | .int a, .int b => a == b
  | .str a, .str b => a == b
  | _, _ => false
def inFlat (x : D) (xs : List D) : Option Bool := if flatD x = true ∧ xs.all flatD = true then some (xs.any fun z => eqD z x) else none
def inDeep (x y : D) (s : Store) : Option Bool := (py1 s x).bind fun a => (py1 s y).bind fun b => match b with
  | .list ds => if (SeqAt.shaped a && SeqAt.shaped (.list ds)) = true then some (ds.any fun z => PyData.eqv z a) else none
  | _ => none
/-- x in y -/
def dInB (x y : D) (s : Store) : Option Bool := match dicOf s y with
  | some (_, ks) => (keyOf x).map fun k => (getD ks k).isSome
  | none => match dctOf s y with
    | some (_, ks) => (keyT x).map fun k => (getD ks k).isSome
    | none => match y, x with
      | .str b, .str a => some (!(Builtin.Str.occurrences b a 0 b.length 1).isEmpty)
      | y, x => match (seqOf s y).bind (inFlat x) with
        | some c => some c
        | none => inDeep x y s
def dIn (x y : D) (s : Store) : Option (D × Store) := (dInB x y s).map fun b => (.bl b, s)
def dNotIn (x y : D) (s : Store) : Option (D × Store) := (dInB x y s).map fun b => (.bl !b, s)
def rDin : R2 := fun y x H Q => ∃ a o, x = .ref a ∧ DGet H a y o ∧ Q (.bl o.isSome) H
def rDnotin : R2 := fun y x H Q => ∃ a o, x = .ref a ∧ DGet H a y o ∧ Q (.bl (!o.isSome)) H
def rSin : R2 := fun x y H Q => ∃ i j, x = .str i ∧ y = .str j ∧ Q (.bl (!(Builtin.Str.occurrences j i 0 j.length 1).isEmpty)) H
def rSnotin : R2 := fun x y H Q => ∃ i j, x = .str i ∧ y = .str j ∧ Q (.bl (!(!(Builtin.Str.occurrences j i 0 j.length 1).isEmpty))) H
theorem op_din {X : Cx} (hu : X.A.units + 65 < cLine) : OpR X (compareOp .In) rDin := by
  intro pins s σ H x y v u Q I rx ry h
  obtain ⟨a, o, rfl, g, q⟩ := h
  cases ry
  exact d_in (by omega) I g rx fun s' I' => ⟨.bl o.isSome, H, I', rfl, q⟩
theorem op_dnotin {X : Cx} (hu : X.A.units + 65 < cLine) : OpR X (compareOp .NotIn) rDnotin := by
  intro pins s σ H x y v u Q I rx ry h
  obtain ⟨a, o, rfl, g, q⟩ := h
  cases ry
  exact d_notIn (by omega) I g rx fun s' I' => ⟨.bl (!o.isSome), H, I', rfl, q⟩
def rInA (K : PySem.W.Frag) : R2 := fun x y H Q => rIn K false x y H Q ∨ rDin x y H Q ∨ rSin x y H Q ∨ rInD K x y H Q
def rNotInA (K : PySem.W.Frag) : R2 := fun x y H Q => rIn K true x y H Q ∨ rDnotin x y H Q ∨ rSnotin x y H Q ∨ rNotInD K x y H Q
theorem opA_in {X : Cx} (hu : X.A.units + 65 < cLine) : OpR X (compareOp .In) (rInA X.K) := op_in_seq.or ((op_din hu).or (op_in_str.or (op_inD hu)))
theorem opA_notin {X : Cx} (hu : X.A.units + 65 < cLine) : OpR X (compareOp .NotIn) (rNotInA X.K) := op_notIn_seq.or ((op_dnotin hu).or (op_notin_str.or (op_notInD hu)))
section
variable {K : PySem.W.Frag} {m : List Addr} {H : Hp} {s : Store}
theorem flat_rep {d : D} {v : V} (p : Rep K m H d v) (h : flatD d = true) : flatV v = true := by
  cases p <;> first | rfl | cases h
theorem eqD_rep {d e : D} {v w : V} (p : Rep K m H d v) (q : Rep K m H e w) (h : flatD d = true) (h2 : flatD e = true) : eqV v w = eqD d e := by
  cases p <;> first | (cases h; done) | (cases q <;> first | (cases h2; done) | rfl)
theorem flat_reps : ∀ {xs : List D} {vs : List V}, Reps K m H xs vs → xs.all flatD = true → vs.all flatV = true
  | _, _, .nil, _ => rfl
  | _, _, .cons h r, e => by
    rw [List.all_cons, Bool.and_eq_true] at e
    rw [List.all_cons, Bool.and_eq_true]
    exact ⟨flat_rep h e.1, flat_reps r e.2⟩
theorem in_reps {x : D} {w : V} (p : Rep K m H x w) (hx : flatD x = true) : ∀ {xs : List D} {vs : List V}, Reps K m H xs vs → xs.all flatD = true → inV w vs = xs.any fun z => eqD z x
  | _, _, .nil, _ => rfl
  | _, _, .cons h r, e => by
    rw [List.all_cons, Bool.and_eq_true] at e
    rw [List.any_cons, ← in_reps p hx r e.2, ← eqD_rep h p e.1 hx]
    rfl
theorem repk_some {κ : Type} [DecidableEq κ] {k : κ} : ∀ {ks : List (κ × D)} {vs : List (κ × V)}, RepK K m H ks vs → (valV vs k).isSome = (getD ks k).isSome
  | _, _, .nil => rfl
  | (q, x) :: ks, (_, v) :: vs, .cons p r => by
    by_cases c : q = k
    · subst c
      rw [valV_pos rfl]
      simp [getD, List.find?_cons]
    · rw [valV_neg c, repk_some r]
      simp [getD, List.find?_cons, c]
theorem inB_cases (r : Rel K m H s) {dx dy : D} {x y : V} {b : Bool} (px : Rep K m H dx x) (py : Rep K m H dy y) (e : dInB dx dy s = some b) :
    (∃ p xs, y = .ref p ∧ (SqL K H p xs ∨ SqT K H p xs) ∧ flatV x = true ∧ xs.all flatV = true ∧ inV x xs = b) ∨ (∃ a o, y = .ref a ∧ DGet H a x o ∧ o.isSome = b) ∨
      (∃ i j, x = .str i ∧ y = .str j ∧ (!(Builtin.Str.occurrences j i 0 j.length 1).isEmpty) = b) ∨ ∃ d ds, Dp K H x d ∧ Dp K H y (.list ds) ∧ SeqAt.shaped d = true ∧ SeqAt.shaped (.list ds) = true ∧ (ds.any fun z => PyData.eqv z d) = b := by
  unfold dInB at e
  cases e0 : dicOf s dy with
  | some o =>
    obtain ⟨l, ks⟩ := o
    rw [e0] at e
    simp only at e
    cases e1 : keyOf dx with
    | none => rw [e1] at e; cases e
    | some k =>
      rw [e1] at e
      cases e
      obtain ⟨a, vs, _, rfl, _, h1, h2⟩ := dicOf_at r py e0
      rw [keyOf_rep px e1]
      exact .inr (.inl ⟨a, valV vs k, rfl, DGet.k h1, repk_some h2⟩)
  | none =>
    rw [e0] at e
    simp only at e
    cases e9 : dctOf s dy with
    | some o =>
      obtain ⟨l, ks⟩ := o
      rw [e9] at e
      simp only at e
      cases e1 : keyT dx with
      | none => rw [e1] at e; cases e
      | some k =>
        rw [e1] at e
        cases e
        obtain ⟨a, vs, _, rfl, _, h1, h2⟩ := dctOf_at r py e9
        obtain ⟨b, rfl, hb⟩ := keyT_rep px e1
        exact .inr (.inl ⟨a, valV vs k, rfl, DGet.t h1 hb, repk_some h2⟩)
    | none =>
     rw [e9] at e
     simp only at e
     split at e
     · cases px; cases py
       cases e
       exact .inr (.inr (.inl ⟨_, _, rfl, rfl, rfl⟩))
     · split at e
       · rename_i c hc
         cases e
         cases e2 : seqOf s dy with
         | none => rw [e2] at hc; cases hc
         | some xs =>
           rw [e2, Option.bind_some] at hc
           unfold inFlat at hc
           split at hc
           · rename_i hf
             cases hc
             obtain ⟨a, vs, rfl, h1, h2⟩ := seqOf_sq r py e2
             exact .inl ⟨a, vs, rfl, h1, flat_rep px hf.1, flat_reps h2 hf.2, in_reps px hf.1 h2 hf.2⟩
           · cases hc
       · unfold inDeep at e
         cases q1 : py1 s dx with
         | none => rw [q1] at e; cases e
         | some a =>
           cases q2 : py1 s dy with
           | none => rw [q1, q2] at e; cases e
           | some c =>
             rw [q1, q2] at e
             simp only [Option.bind_some] at e
             split at e
             · rename_i ds
               split at e
               · rename_i hs
                 rw [Bool.and_eq_true] at hs
                 cases e
                 exact .inr (.inr (.inr ⟨a, ds, py1_dp r px q1, py1_dp r py q2, hs.1, hs.2, rfl⟩))
               · cases e
             · cases e
theorem ops_in : OpS K (rInA K) dIn := by
  intro mg W σ m H s x y dx dy Q r px py g
  unfold dIn at g
  cases e : dInB dx dy s with
  | none => rw [e] at g; exact g.elim
  | some b =>
    rw [e] at g
    have q := g.now r (.bl b)
    rcases inB_cases r px py e with ⟨p, xs, h1, h2, h3, h4, h5⟩ | ⟨a, o, h1, h2, h3⟩ | ⟨i, j, h1, h2, h3⟩ | ⟨d, ds, h1, h2, h3, h4, h5⟩
    · exact .inl ⟨p, xs, h1, h2, h3, h4, by subst h5; exact q⟩
    · exact .inr (.inl ⟨a, o, h1, h2, by subst h3; exact q⟩)
    · exact .inr (.inr (.inl ⟨i, j, h1, h2, by subst h3; exact q⟩))
    · exact .inr (.inr (.inr ⟨d, ds, h1, h2, h3, h4, by subst h5; exact q⟩))
theorem ops_notin : OpS K (rNotInA K) dNotIn := by
  intro mg W σ m H s x y dx dy Q r px py g
  unfold dNotIn at g
  cases e : dInB dx dy s with
  | none => rw [e] at g; exact g.elim
  | some b =>
    rw [e] at g
    have q := g.now r (.bl (!b))
    rcases inB_cases r px py e with ⟨p, xs, h1, h2, h3, h4, h5⟩ | ⟨a, o, h1, h2, h3⟩ | ⟨i, j, h1, h2, h3⟩ | ⟨d, ds, h1, h2, h3, h4, h5⟩
    · exact .inl ⟨p, xs, h1, h2, h3, h4, by subst h5; exact q⟩
    · exact .inr (.inl ⟨a, o, h1, h2, by subst h3; exact q⟩)
    · exact .inr (.inr (.inl ⟨i, j, h1, h2, by subst h3; exact q⟩))
    · exact .inr (.inr (.inr ⟨d, ds, h1, h2, h3, h4, by subst h5; exact q⟩))
/-! ### str(i), str(z) -/
noncomputable instance (i : Int) : Decidable (i.natAbs.log2 < 1920) := Classical.propDecidable _
noncomputable def dStr : List D → Store → Option (D × Store)
  | [.int i], s => if i.natAbs.log2 < 1920 then some (.str (toString i), s) else none
  | [.str z], s => some (.str z, s)
  | _, _ => none
def rStr : List V → Hp → VK → Prop := fun xs H Q => (∃ i, xs = [.int i] ∧ i.natAbs.log2 < 1920 ∧ Q (.str (toString i)) H) ∨ ∃ a, xs = [.str a] ∧ Q (.str a) H
theorem call_strA {X : Cx} : CallR X (.type "str") rStr := call_str_int.or SkE.call_str_str
theorem fns_str : FnS K rStr dStr := by
  intro mg W σ m H s xs ds Q r p g
  unfold dStr at g
  split at g
  · rename_i i
    obtain ⟨v, rfl, h⟩ := reps1 p
    cases h
    split at g
    · rename_i hz
      exact .inl ⟨i, rfl, hz, g.now r (.str _)⟩
    · exact g.elim
  · rename_i z
    obtain ⟨v, rfl, h⟩ := reps1 p
    cases h
    exact .inr ⟨z, rfl, g.now r (.str _)⟩
  · exact g.elim
/-! ### xs.extend(ys), ys a list or a tuple -/
end
section
open PySem.AutoSeq1
theorem list_extend_tup (l : Addr) (items : Array Value) (n : Nat) (b : Addr) (items2 : Array Value) (n2 : Nat) (dd : Option Addr) (sl : Array (Option Value)) (hs0 : ¬(!items.isEmpty && Builtin.List.listTooLong (items.size + items2.size)) = true) (hs1 : items.size ≤ sizeLine) (hs2 : items.size + items2.size ≤ sizeLine + 1) :
    Meets (Builtin.«list.extend» ⟨[.ref l, .ref b], []⟩) (fun _ R s => s.heap.get? l = some { cls := .type "list", dict := none, data := .seq items n, slots := #[] } ∧ s.heap.get? b = some { cls := .type "tuple", dict := dd, data := .seq items2 n2, slots := sl } ∧ R (.ok (.ret Value.none)) { s with heap := s.heap.update l (Obj.mapSeq fun x => x ++ items2), toks := s.toks }) :=
  .of_wp fun prog w A R s h => by
    obtain ⟨hp, g, d, tk, os⟩ := s; obtain ⟨hl, hb, h⟩ := h; have f1 := PySem.AutoSeq1.idx_int; have f2 := PySem.AutoSeq1.sub_tuple_tuple; have f3 := PySem.AutoSeq1.sub_list_list; have f4 := PySem.AutoSeq1.sub_tuple_list; have f5 := PySem.AutoSeq1.sub_list_tuple;
    have hz' : (items ++ items2).size ≤ sizeLine + 1 := by rw [Array.size_append]; exact hs2
    wp_walk using (wpAny_updateSeq hl rfl (hz := hs1) (_hz' := hz')), wpAny_loadPart' hl, wpAny_loadPart' hb; exact ⟨_, rfl, h⟩
end
def rExtT (K : PySem.W.Frag) : V → List V → Hp → VK → Prop := fun x vs H Q => ∃ l b xs zs, x = .ref l ∧ vs = [.ref b] ∧ H l = some (.lst xs) ∧ SqT K H b zs ∧ xs.length + zs.length ≤ sizeLine ∧ Q .non (upd H l (.lst (xs ++ zs)))
theorem mt_extT {X : Cx} : MtR X "list.extend" (rExtT X.K) := by
  intro pins s σ H x vs v us Q I rx rv h
  obtain ⟨l, b, xs, zs, rfl, rfl, hH, hB, hz, q⟩ := h
  cases rx
  obtain ⟨u, rfl, ru⟩ := rv.one
  cases ru
  obtain ⟨z, its, n, r, hl, e⟩ := I.lstM hH
  obtain ⟨its2, r2, ⟨⟨cls, dd, data, sl⟩, e2, hc, n2, hd⟩, hl2⟩ := I.tuple hB
  simp only at hc hd
  subst hc hd
  have hl3 := r2.length
  have hsz : its.toArray.size + its2.toArray.size ≤ sizeLine := by rw [List.size_toArray, List.size_toArray]; omega
  have hlong : ¬ (!its.toArray.isEmpty && Builtin.List.listTooLong (its.toArray.size + its2.toArray.size)) = true := by
    rw [notLongL hsz, Bool.and_false]
    exact Bool.false_ne_true
  refine call_meets F.slot_list_extend ⟨_, e, rfl⟩ F.entry_list_extend (F.args_list_extend_2 _ _)
    (list_extend_tup l its.toArray n b its2.toArray n2 dd sl hlong (by rw [List.size_toArray]; omega) (by omega)) ⟨e, e2, ?_⟩
  refine ⟨.non, _, I.lset (its' := its ++ its2) hH e (by simp) (r.append r2) ?_, rfl, q⟩
  rw [List.length_append]
  omega
theorem MtR.or' {X : Cx} {id : String} {r r' : V → List V → Hp → VK → Prop} (h : MtR X id r) (h' : MtR X id r') : MtR X id (fun x vs H Q => r x vs H Q ∨ r' x vs H Q) := by
  intro pins s σ H x vs v us Q I rx rv q
  rcases q with q | q
  · exact h pins s σ H x vs v us Q I rx rv q
  · exact h' pins s σ H x vs v us Q I rx rv q
def rExtA (K : PySem.W.Frag) : V → List V → Hp → VK → Prop := fun x vs H Q => rExtend x vs H Q ∨ rExtT K x vs H Q
theorem mt_extA {X : Cx} : MtR X "list.extend" (rExtA X.K) := MtR.or' mt_extend mt_extT
noncomputable def dExtend (x : D) (ys : List D) (s : Store) : Option (D × Store) := match x, ys with
  | .loc l, [.loc k] => match s[l]?, s[k]? with
    | some (.lst xs), some (.lst zs) => if xs.length + zs.length ≤ sizeLine then some (.non, s.set l (.lst (xs ++ zs))) else none
    | _, _ => none
  | .loc l, [.tup zs] => match s[l]? with
    | some (.lst xs) => if xs.length + zs.length ≤ sizeLine then some (.non, s.set l (.lst (xs ++ zs))) else none
    | _ => none
  | _, _ => none
section
variable {K : PySem.W.Frag}
theorem mts_extend : MtS K (rExtA K) dExtend := by
  intro mg W σ m H s x d xs ds Q r p ps g
  unfold dExtend at g
  split at g
  · rename_i l k
    obtain ⟨w, rfl, h⟩ := reps1 ps
    cases p with
    | loc hl =>
      cases h with
      | loc hk =>
        split at g
        · rename_i ys zs q q2
          split at g
          · rename_i hz
            obtain ⟨vs, h1, h2⟩ := r.list hl q
            obtain ⟨ws, h3, h4⟩ := r.list hk q2
            obtain ⟨le, r2⟩ := le_setlist r hl (h2.append h4)
            exact .inl ⟨_, _, vs, ws, rfl, rfl, h1, h3, by rw [← h2.length, ← h4.length]; exact hz, g m _ _ le r2 .non⟩
          · exact g.elim
        · exact g.elim
  · rename_i l zs
    obtain ⟨w, rfl, h⟩ := reps1 ps
    cases p with
    | loc hl =>
      obtain ⟨a, ws, rfl, h3, h4⟩ := h.sqT
      split at g
      · rename_i ys q
        split at g
        · rename_i hz
          obtain ⟨vs, h1, h2⟩ := r.list hl q
          obtain ⟨le, r2⟩ := le_setlist r hl (h2.append h4)
          exact .inr ⟨_, _, vs, ws, rfl, rfl, h1, h3, by rw [← h2.length, ← h4.length]; exact hz, g m _ _ le r2 .non⟩
        · exact g.elim
      · exact g.elim
  · exact g.elim
/-! ### xs.pop(i), xs.insert(i, x) -/
noncomputable def dPopX (x : D) (ys : List D) (s : Store) : Option (D × Store) := match x, ys with
  | .loc l, [.int i] => match s[l]? with
    | some (.lst xs) => if -(2 ^ 63) ≤ i ∧ i < 2 ^ 63 then (seqIndex? i xs.length).bind fun k => (xs[k]?).map fun y => (y, s.set l (.lst (xs.eraseIdx k))) else none
    | _ => none
  | _, _ => none
theorem mts_popX : MtS K rPopAt dPopX := by
  intro mg W σ m H s x d xs ds Q r p ps g
  unfold dPopX at g
  split at g
  · rename_i l i
    obtain ⟨w, rfl, h⟩ := reps1 ps
    cases h
    cases p with
    | loc hl =>
      split at g
      · rename_i ys q
        split at g
        · rename_i hz
          cases q1 : seqIndex? i ys.length with
          | none => rw [q1] at g; exact g.elim
          | some k =>
            rw [q1, Option.bind_some] at g
            cases q2 : ys[k]? with
            | none => rw [q2] at g; exact g.elim
            | some y =>
              rw [q2] at g
              obtain ⟨vs, h1, h2⟩ := r.list hl q
              obtain ⟨v, hv, rv⟩ := h2.get q2
              obtain ⟨le, r2⟩ := le_setlist r hl (h2.erase k)
              exact ⟨_, vs, i, k, v, rfl, rfl, h1, hz.1, hz.2, by rw [← h2.length]; exact q1, hv, g m _ _ le r2 (rv.mono le)⟩
        · exact g.elim
      · exact g.elim
  · exact g.elim
def rIns : V → List V → Hp → VK → Prop := fun x vs H Q => ∃ (l : Addr) (xs : List V) (i : Int) (y : V), x = .ref l ∧ vs = [.int i, y] ∧ H l = some (.lst xs) ∧ xs.length < sizeLine ∧ 0 ≤ i ∧ i < 2 ^ 63 ∧
    Q .non (upd H l (.lst (xs.take i.toNat ++ [y] ++ xs.drop i.toNat)))
noncomputable def dInsert (x : D) (ys : List D) (s : Store) : Option (D × Store) := match x, ys with
  | .loc l, [.int i, y] => match s[l]? with
    | some (.lst xs) => if xs.length < sizeLine ∧ 0 ≤ i ∧ i < 2 ^ 63 then some (.non, s.set l (.lst (xs.take i.toNat ++ [y] ++ xs.drop i.toNat))) else none
    | _ => none
  | _, _ => none
theorem mts_insert : MtS K rIns dInsert := by
  intro mg W σ m H s x d xs ds Q r p ps g
  unfold dInsert at g
  split at g
  · rename_i l i y
    obtain ⟨w, w2, rfl, h, hy⟩ := reps2 ps
    cases h
    cases p with
    | loc hl =>
      split at g
      · rename_i ys q
        split at g
        · rename_i hz
          obtain ⟨vs, h1, h2⟩ := r.list hl q
          obtain ⟨le, r2⟩ := le_setlist r hl (((h2.take i.toNat).append (.cons hy .nil)).append (h2.drop i.toNat))
          exact ⟨_, vs, i, w2, rfl, rfl, h1, by rw [← h2.length]; exact hz.1, hz.2.1, hz.2.2, g m _ _ le r2 .non⟩
        · exact g.elim
      · exact g.elim
  · exact g.elim
/-! ### xs.index(x): items of a list -/
noncomputable def dIndex (x : D) (ys : List D) (s : Store) : Option (D × Store) := match ys with
  | [y] => (lstOf s x).bind fun xs => if flatD y = true ∧ xs.all flatD = true then (xs.findIdx? fun z => eqD z y).map fun j => (.int (j : Nat), s) else none
  | _ => none
theorem mts_index : MtS K (rIndex K) dIndex := by
  intro mg W σ m H s x d xs ds Q r p ps g
  unfold dIndex at g
  split at g
  · rename_i y
    obtain ⟨w, rfl, h⟩ := reps1 ps
    cases e : lstOf s d with
    | none => rw [e] at g; exact g.elim
    | some zs =>
      rw [e, Option.bind_some] at g
      split at g
      · rename_i hf
        cases q : zs.findIdx? fun z => eqD z y with
        | none => rw [q] at g; exact g.elim
        | some j =>
          rw [q] at g
          obtain ⟨a, vs, rfl, h1, h2⟩ := lstOf_sq r p e
          obtain ⟨hj, q1, q2⟩ := List.findIdx?_eq_some_iff_getElem.mp q
          have fl : ∀ i (hi : i < zs.length), flatD zs[i] = true := fun i hi => List.all_eq_true.mp hf.2 _ (List.getElem_mem hi)
          obtain ⟨v, hv, rv⟩ := h2.get (List.getElem?_eq_getElem hj)
          refine ⟨a, vs, w, j, v, rfl, rfl, h1, flat_rep h hf.1, flat_reps h2 hf.2, hv, by rw [eqD_rep rv h (fl j hj) hf.1]; exact q1, fun i z hi hz => ?_, g.now r (.int _)⟩
          have hi' : i < zs.length := by omega
          obtain ⟨v', hv', rv'⟩ := h2.get (List.getElem?_eq_getElem hi')
          rw [hz] at hv'
          cases hv'
          rw [eqD_rep rv' h (fl i hi') hf.1]
          simpa using q2 i hi
      · exact g.elim
  · exact g.elim
end
/-! ### equations for simp -/
theorem any_str (x : Str) (xs : List Str) : ((xs.map D.str).any fun z => eqD z (.str x)) = decide (x ∈ xs) := by
  rw [List.any_map, Bool.eq_iff_iff, List.any_eq_true, decide_eq_true_iff]
  exact ⟨fun ⟨z, h, e⟩ => by simp [eqD] at e; subst e; exact h, fun h => ⟨x, h, by simp [eqD]⟩⟩
theorem any_int (x : Int) (xs : List Int) : ((xs.map D.int).any fun z => eqD z (.int x)) = decide (x ∈ xs) := by
  rw [List.any_map, Bool.eq_iff_iff, List.any_eq_true, decide_eq_true_iff]
  exact ⟨fun ⟨z, h, e⟩ => by simp [eqD] at e; subst e; exact h, fun h => ⟨x, h, by simp [eqD]⟩⟩
theorem flat_str (xs : List Str) : (xs.map D.str).all flatD = true := by simp [flatD]
theorem flat_int (xs : List Int) : (xs.map D.int).all flatD = true := by simp [flatD]
theorem dInB_tupS (x : Str) (xs : List Str) (s : Store) : dInB (.str x) (.tup (xs.map D.str)) s = some (decide (x ∈ xs)) := by
  have e : inFlat (.str x) (xs.map D.str) = some (decide (x ∈ xs)) := by
    unfold inFlat
    rw [if_pos ⟨rfl, flat_str xs⟩, any_str]
  simp [dInB, dicOf, dctOf, seqOf, e]
theorem dInB_tupI (x : Int) (xs : List Int) (s : Store) : dInB (.int x) (.tup (xs.map D.int)) s = some (decide (x ∈ xs)) := by
  have e : inFlat (.int x) (xs.map D.int) = some (decide (x ∈ xs)) := by
    unfold inFlat
    rw [if_pos ⟨rfl, flat_int xs⟩, any_int]
  simp [dInB, dicOf, dctOf, seqOf, e]
theorem dInB_locS {l : Nat} {xs : List Str} {s : Store} (h : s[l]? = some (.lst (xs.map D.str))) (x : Str) : dInB (.str x) (.loc l) s = some (decide (x ∈ xs)) := by
  have e : inFlat (.str x) (xs.map D.str) = some (decide (x ∈ xs)) := by
    unfold inFlat
    rw [if_pos ⟨rfl, flat_str xs⟩, any_str]
  simp [dInB, dicOf, dctOf, seqOf, lstOf, h, e]
theorem dInB_locI {l : Nat} {xs : List Int} {s : Store} (h : s[l]? = some (.lst (xs.map D.int))) (x : Int) : dInB (.int x) (.loc l) s = some (decide (x ∈ xs)) := by
  have e : inFlat (.int x) (xs.map D.int) = some (decide (x ∈ xs)) := by
    unfold inFlat
    rw [if_pos ⟨rfl, flat_int xs⟩, any_int]
  simp [dInB, dicOf, dctOf, seqOf, lstOf, h, e]
theorem dInB_dct {s : Store} {l : Nat} {ks : List (List Key × D)} (h : s[l]? = some (.dct ks)) {x : D} {k : List Key} (hk : keyT x = some k) : dInB x (.loc l) s = some (getD ks k).isSome := by
  have e : dicOf s (.loc l) = none := by simp [dicOf, h]
  have e2 : dctOf s (.loc l) = some (l, ks) := by simp [dctOf, h]
  unfold dInB
  rw [e]
  simp only
  rw [e2]
  simp [hk]
theorem dInB_dic {s : Store} {l : Nat} {ks : List (Key × D)} (h : s[l]? = some (.dic ks)) {x : D} {k : Key} (hk : keyOf x = some k) : dInB x (.loc l) s = some (getD ks k).isSome := by
  have e : dicOf s (.loc l) = some (l, ks) := by simp [dicOf, h]
  unfold dInB
  rw [e]
  simp [hk]
theorem dIn_of {x y : D} {s : Store} {b : Bool} (h : dInB x y s = some b) : dIn x y s = some (.bl b, s) := by simp [dIn, h]
theorem dNotIn_of {x y : D} {s : Store} {b : Bool} (h : dInB x y s = some b) : dNotIn x y s = some (.bl !b, s) := by simp [dNotIn, h]
theorem dExtend_tup {s : Store} {l : Nat} {xs : List D} (h : s[l]? = some (.lst xs)) (zs : List D) (hz : xs.length + zs.length ≤ 1000000) : dExtend (.loc l) [.tup zs] s = some (.non, s.set l (.lst (xs ++ zs))) := by
  have q : xs.length + zs.length ≤ sizeLine := by rw [sizeLine_eq]; omega
  simp only [dExtend, h]
  rw [if_pos q]
/-! ### loops by place -/
theorem forL_at {gd : Store → Prop} {g : D → Sl → Option Sl} {b : MS} (xs : List D) (I : Nat → Sl → Store → Prop) (Q : RS → Prop) (hg : ∀ i env s, I i env s → gd s)
    (hs : ∀ i d env s, xs[i]? = some d → I i env s → Turns (I (i + 1)) Q (turn g b d env s)) (he : ∀ env s, I xs.length env s → Q (.nx env s)) {env : Sl} {s : Store} (h : I 0 env s) : Q (forL gd g b xs env s) := by
  refine forL_rule (fun ys env s => ∃ i, i ≤ xs.length ∧ ys = xs.drop i ∧ I i env s) Q (fun ys env s ⟨i, hi, _, q⟩ => hg i env s q) (fun x ys env s ⟨i, hi, e, q⟩ => ?_) (fun env s ⟨i, hi, e, q⟩ => ?_) ⟨0, Nat.zero_le _, rfl, h⟩
  · have hx : xs[i]? = some x := by
      have := congrArg (fun l : List D => l[0]?) e
      simpa using this.symm
    have hy : ys = xs.drop (i + 1) := by
      have := congrArg List.tail e
      simpa [List.tail_drop] using this
    have hlt := (List.getElem?_eq_some_iff.mp hx).1
    have t1 := hs i x env s hx q
    cases hb : turn g b x env s with
    | nx env2 s2 => rw [hb] at t1; exact ⟨i + 1, hlt, hy, t1⟩
    | ct env2 s2 => rw [hb] at t1; exact ⟨i + 1, hlt, hy, t1⟩
    | bk env2 s2 => rw [hb] at t1; exact t1
    | rt d s2 => rw [hb] at t1; exact t1
    | ex x env2 s2 => rw [hb] at t1; exact t1
    | no => rw [hb] at t1; exact t1
  · have : i = xs.length := by
      have := congrArg List.length e
      simp at this
      omega
    subst this
    exact he env s q
theorem forL_atT {gd : Store → Prop} {g : D → Sl → Option Sl} {b : MS} (xs : List D) (I : Nat → Sl → Store → Prop) (hg : ∀ i env s, I i env s → gd s)
    (hs : ∀ i d env s, xs[i]? = some d → I i env s → Turns (I (i + 1)) (fun _ => False) (turn g b d env s)) {env : Sl} {s : Store} (h : I 0 env s) : ∃ env' s', forL gd g b xs env s = .nx env' s' ∧ I xs.length env' s' :=
  forL_at xs I (fun r => ∃ env' s', r = .nx env' s' ∧ I xs.length env' s') hg (fun i d env s hi h => by
    have z := hs i d env s hi h
    cases q : turn g b d env s with
    | nx env2 s2 => rw [q] at z; exact z
    | ct env2 s2 => rw [q] at z; exact z
    | bk env2 s2 => rw [q] at z; exact z.elim
    | rt d s2 => rw [q] at z; exact z.elim
    | ex e env2 s2 => rw [q] at z; exact z.elim
    | no => rw [q] at z; exact z.elim) (fun env s h => ⟨env, s, rfl, h⟩) h
/-- a loop of yes-no turns: it goes on, or it returns -/
theorem forL_find {gd : Store → Prop} {g : D → Sl → Option Sl} {b : MS} (xs : List D) (I : Nat → Sl → Store → Prop) (ok : Nat → Bool) (out : Nat → D) (hg : ∀ i env s, I i env s → gd s)
    (hs : ∀ i d env s, xs[i]? = some d → I i env s → if ok i = true then Turns (I (i + 1)) (fun _ => False) (turn g b d env s) else ∃ s', turn g b d env s = .rt (out i) s' ∧ ∃ env', I i env' s') {env : Sl} {s : Store} (h : I 0 env s) :
    match (List.range xs.length).find? (fun i => !ok i) with
    | none => ∃ env' s', forL gd g b xs env s = .nx env' s' ∧ I xs.length env' s'
    | some i => ∃ s' env', forL gd g b xs env s = .rt (out i) s' ∧ I i env' s' := by
  have key : ∀ n, n ≤ xs.length → (∀ j, j < n → ok j = true) → ∀ env s, I n env s → match (List.range' n (xs.length - n)).find? (fun i => !ok i) with
      | none => ∃ env' s', forL gd g b (xs.drop n) env s = .nx env' s' ∧ I xs.length env' s'
      | some i => ∃ s' env', forL gd g b (xs.drop n) env s = .rt (out i) s' ∧ I i env' s' := by
    intro n
    induction hk : xs.length - n generalizing n with
    | zero =>
      intro hn _ env s hI
      have : n = xs.length := by omega
      subst this
      simp
      rw [forL_nil env s gd (hg _ _ _ hI)]
      exact ⟨_, _, rfl, hI⟩
    | succ k ih =>
      intro hn hall env s hI
      have hlt : n < xs.length := by omega
      rw [List.drop_eq_getElem_cons hlt, forL_cons env s gd (hg _ _ _ hI), List.range'_succ]
      have z := hs n xs[n] env s (by simp [hlt]) hI
      unfold turn at z
      by_cases c : ok n = true
      · rw [if_pos c] at z
        simp only [List.find?_cons, c, Bool.not_true]
        cases e1 : g xs[n] env with
        | none => rw [e1] at z; exact z.elim
        | some env1 =>
          rw [e1] at z
          dsimp only at z ⊢
          have hall' : ∀ j, j < n + 1 → ok j = true := fun j hj => by
            rcases Nat.lt_or_ge j n with w | w
            · exact hall j w
            · have : j = n := by omega
              rw [this]; exact c
          cases q : b env1 s with
          | nx env2 s2 => rw [q] at z; exact ih (n + 1) (by omega) hlt hall' env2 s2 z
          | ct env2 s2 => rw [q] at z; exact ih (n + 1) (by omega) hlt hall' env2 s2 z
          | bk env2 s2 => rw [q] at z; exact z.elim
          | rt d s2 => rw [q] at z; exact z.elim
          | ex e env2 s2 => rw [q] at z; exact z.elim
          | no => rw [q] at z; exact z.elim
      · rw [if_neg c] at z
        obtain ⟨s', h1, env', h2⟩ := z
        have c' : ok n = false := by simpa using c
        simp only [List.find?_cons, c', Bool.not_false]
        cases e1 : g xs[n] env with
        | none => rw [e1] at h1; cases h1
        | some env1 =>
          rw [e1] at h1
          dsimp only at h1 ⊢
          rw [h1]
          exact ⟨s', env', rfl, h2⟩
  have := key 0 (Nat.zero_le _) (fun j hj => absurd hj (Nat.not_lt_zero j)) env s h
  rw [Nat.sub_zero, ← List.range_eq_range', List.drop_zero] at this
  exact this
/-- range(i, j) -/
def rng2 (lo : Int) (n : Nat) : List D := (List.range n).map fun k => .int (lo + (k : Nat))
theorem rng2_get {lo : Int} {n i : Nat} {d : D} (h : (rng2 lo n)[i]? = some d) : i < n ∧ d = .int (lo + (i : Nat)) := by
  unfold rng2 at h
  rw [List.getElem?_map] at h
  cases e : (List.range n)[i]? with
  | none => rw [e] at h; cases h
  | some k =>
    rw [e] at h
    cases h
    obtain ⟨hl, he⟩ := List.getElem?_eq_some_iff.mp e
    simp at hl he
    exact ⟨hl, by rw [he]⟩
theorem rng2_len (lo : Int) (n : Nat) : (rng2 lo n).length = n := by simp [rng2]
theorem range2_int (i j : Int) (s : Store) (h0 : 0 ≤ i) (h1 : i ≤ 1000000000) (h2 : 0 ≤ j) (h3 : j ≤ 1000000000) : rangeOf2 [.int i, .int j] s = .ok (Itm.mk (rng2 i (j - i).toNat) always) s := rangeOf2_int s i j h0 h1 h2 h3
theorem rng_get {n i : Nat} {d : D} (h : (rng n)[i]? = some d) : i < n ∧ d = .int (i : Nat) := by
  obtain ⟨a, b⟩ := rng2_get (lo := 0) (n := n) h
  exact ⟨a, by rw [b, Int.zero_add]⟩
theorem rng_len (n : Nat) : (rng n).length = n := by simp [rng]
theorem map_get {α : Type} {f : α → D} {xs : List α} {i : Nat} {d : D} (h : (xs.map f)[i]? = some d) : ∃ x, xs[i]? = some x ∧ d = f x := by
  rw [List.getElem?_map] at h
  cases e : xs[i]? with
  | none => rw [e] at h; cases h
  | some x => rw [e] at h; cases h; exact ⟨x, rfl, rfl⟩
/-- a loop that looks for one that fails, and returns r there -/
theorem forL_all {α : Type} {gd : Store → Prop} {g : D → Sl → Option Sl} {b : MS} (f : α → D) (as : List α) (I : Sl → Prop) (s : Store) (ok : α → Bool) (r : D) (hg : gd s)
    (hs : ∀ a ∈ as, ∀ env, I env → if ok a = true then ∃ env', turn g b (f a) env s = .nx env' s ∧ I env' else turn g b (f a) env s = .rt r s) {env : Sl} (h : I env) :
    if as.all ok = true then ∃ env', forL gd g b (as.map f) env s = .nx env' s ∧ I env' else forL gd g b (as.map f) env s = .rt r s := by
  induction as generalizing env with
  | nil =>
    rw [List.map_nil, forL_nil env s gd hg]
    exact ⟨_, rfl, h⟩
  | cons a as ih =>
    rw [List.map_cons, forL_cons env s gd hg]
    have z := hs a (List.mem_cons_self ..) env h
    unfold turn at z
    by_cases c : ok a = true
    · rw [if_pos c] at z
      obtain ⟨env', z1, z2⟩ := z
      have q := ih (fun a' ha' => hs a' (List.mem_cons_of_mem _ ha')) z2
      cases e1 : g (f a) env with
      | none => rw [e1] at z1; cases z1
      | some env1 =>
        rw [e1] at z1
        dsimp only at z1 ⊢
        rw [z1]
        simpa [c] using q
    · rw [if_neg c] at z
      have c' : ok a = false := by simpa using c
      cases e1 : g (f a) env with
      | none => rw [e1] at z; cases z
      | some env1 =>
        rw [e1] at z
        dsimp only at z ⊢
        rw [z]
        simp [c']
theorem app_new (s : Store) (xs : List D) (y : D) (h : xs.length ≤ 1000000) : dAppend (.loc s.length) [y] (s ++ [.lst xs]) = some (.non, s ++ [.lst (xs ++ [y])]) := by
  have q := dAppend_loc (get_new s (.lst xs)) h y
  rw [q]
  simp
theorem ty_new (s : Store) (xs : List D) : tyOk "list" (s ++ [.lst xs]) (.loc s.length) = true := tyOk_list (get_new s (.lst xs))
theorem tyN_isi {s : Store} {d : D} {t : String} (h : tyN s d = some t) (T : String) : dIsi T d s = (kitB t T).map fun b => (.bl b, s) := by simp [h]
end Mi
namespace Mi
open PySem PySem.Spec PyProof.Rows L2
/-! ### more rules for mirrors -/
theorem tryAs_ex {i : Nat} {cs : List Str} {body : MS} {suite : Nat × Nat → MS} {env env2 : Sl} {s s2 : Store} {e : Ex} {r : RS} (h : body env s = .ex e env2 s2) (h1 : e.cls ∈ cs) (h2 : e.fs ≠ [])
    (h3 : ∀ g : Nat × Nat, clr i (suite g (env2.set i (some (.exv g.1 g.2 e.cls e.fs))) s2) = r) : sTryAs i cs body suite env s = r := by
  unfold sTryAs
  rw [h]
  simp only
  rw [if_pos ⟨h1, h2, fun g => by rw [h3 g]; exact (h3 (0, 0)).symm⟩]
  exact h3 (0, 0)
/-- what stood before stands, and something new behind it -/
def Ext (s s' : Store) : Prop := ∃ r, s' = s ++ r
theorem Ext.refl (s : Store) : Ext s s := ⟨[], by simp⟩
theorem Ext.mk (s r : Store) : Ext s (s ++ r) := ⟨r, rfl⟩
theorem Ext.trans {a b c : Store} (h : Ext a b) (k : Ext b c) : Ext a c := by
  obtain ⟨r, rfl⟩ := h
  obtain ⟨t, rfl⟩ := k
  exact ⟨r ++ t, by simp⟩
theorem Ext.get {a b : Store} (h : Ext a b) {l : Nat} {c : Cell} (e : a[l]? = some c) : b[l]? = some c := by
  obtain ⟨r, rfl⟩ := h
  rw [List.getElem?_append_left (lt_of_get e)]
  exact e
theorem Ext.le {a b : Store} (h : Ext a b) : a.length ≤ b.length := by
  obtain ⟨r, rfl⟩ := h
  simp
/-- an item of a tuple or a list, by place -/
theorem ix_map {α : Type} {f : α → D} {xs : List α} {i : Int} (h0 : 0 ≤ i) (h1 : i < xs.length) : ∃ a, a ∈ xs ∧ xs[i.toNat]? = some a ∧ ∀ s, dIx (.tup (xs.map f)) (.int i) s = some (f a, s) := by
  obtain ⟨n, rfl⟩ := Int.eq_ofNat_of_zero_le h0
  have hn : n < xs.length := by omega
  refine ⟨xs[n], List.getElem_mem _, by simp [hn], fun s => ?_⟩
  rw [dIx_tup, atI_ofNat _ _ (f xs[n]) (by simp [hn])]
  rfl
theorem ixL_map {α : Type} {f : α → D} {xs : List α} {s : Store} {l : Nat} (h : s[l]? = some (.lst (xs.map f))) {i : Int} (h0 : 0 ≤ i) (h1 : i < xs.length) : ∃ a, a ∈ xs ∧ xs[i.toNat]? = some a ∧ dIx (.loc l) (.int i) s = some (f a, s) := by
  obtain ⟨n, rfl⟩ := Int.eq_ofNat_of_zero_le h0
  have hn : n < xs.length := by omega
  refine ⟨xs[n], List.getElem_mem _, by simp [hn], ?_⟩
  rw [dIx_loc h, L2.atI_nat (v := f xs[n]) (by simp [hn])]
  rfl
theorem ix_mem {xs : List D} {i : Int} (h0 : 0 ≤ i) (h1 : i < xs.length) : ∃ a, a ∈ xs ∧ ∀ s, dIx (.tup xs) (.int i) s = some (a, s) := by
  obtain ⟨n, rfl⟩ := Int.eq_ofNat_of_zero_le h0
  have hn : n < xs.length := by omega
  refine ⟨xs[n], List.getElem_mem _, fun s => ?_⟩
  rw [dIx_tup, atI_ofNat _ _ xs[n] (by simp [hn])]
  rfl
theorem ixL_mem {xs : List D} {s : Store} {l : Nat} (h : s[l]? = some (.lst xs)) {i : Int} (h0 : 0 ≤ i) (h1 : i < xs.length) : ∃ a, a ∈ xs ∧ dIx (.loc l) (.int i) s = some (a, s) := by
  obtain ⟨n, rfl⟩ := Int.eq_ofNat_of_zero_le h0
  have hn : n < xs.length := by omega
  refine ⟨xs[n], List.getElem_mem _, ?_⟩
  rw [dIx_loc h, L2.atI_nat (v := xs[n]) (by simp [hn])]
  rfl
theorem dAdd_s {a b : Str} (h : a.length + b.length ≤ 1000000) (s : Store) : dAdd (.str a) (.str b) s = some (.str (a ++ b), s) := by
  have q := le_line h
  simp only [dAdd, q, if_true]
theorem cutS1 (ws : List Str) {k : Nat} (h : k ≤ ws.length) : cutD (ws.map D.str) none (some (k : Int)) = (ws.take k).map D.str := by
  unfold cutD
  rw [HT.sIx_none, HT.sIx_nat]
  simp [Nat.min_eq_left h]
theorem cutS2 (ws : List Str) {k : Nat} (h : k + 1 ≤ ws.length) : cutD (ws.map D.str) (some ((k : Int) + 1)) none = (ws.drop (k + 1)).map D.str := by
  unfold cutD
  rw [HT.sIx_none, show ((k : Int) + 1) = ((k + 1 : Nat) : Int) by omega, HT.sIx_nat, List.length_map, Nat.min_eq_left h, ← List.map_drop]
  rw [List.take_of_length_le (by simp)]
theorem sort_strs (A : List Str) : sortOk (A.map D.str) ∧ ∃ M : List Str, sortD (A.map D.str) = M.map D.str ∧ M.length = A.length ∧ M.Perm A := by
  refine ⟨⟨fun d hd => ?_, ?_, ?_⟩, A.mergeSort fun x y => PySem.W.dataLe false pyD (D.str x) (D.str y), ?_, List.length_mergeSort _, List.mergeSort_perm _ _⟩
  · obtain ⟨x, _, rfl⟩ := List.mem_map.mp hd
    exact ⟨rfl, by show PyData.depth (.str x) ≤ 60; simp [PyData.depth]⟩
  · rw [List.map_map]
    exact PySem.W.AllAlike.of (enc := fun x => pyD (D.str x)) fun x y => by show PySem.W.alike (.str x) (.str y) = true; simp [PySem.W.alike]
  · rw [List.map_map]
    exact PySem.W.Sortable.others (enc := fun x => pyD (D.str x)) fun x => ⟨by show PyData.str x ≠ .none; simp, fun xs => by show PyData.str x ≠ .tuple xs; simp⟩
  · unfold sortD
    rw [List.map_mergeSort (r := fun x y : Str => PySem.W.dataLe false pyD (D.str x) (D.str y)) (s := PySem.W.dataLe false pyD) fun _ _ _ _ => rfl]
/-- a comprehension by place -/
theorem lcL_at {gd : Store → Prop} {g : D → Sl → Option Sl} {t : ME Bool} {e : ME D} {env : Sl} (xs : List D) (I : Nat → List D → Store → Prop) (hg : ∀ i acc s, I i acc s → gd s)
    (hs : ∀ i d acc s, xs[i]? = some d → I i acc s → Kept (I (i + 1)) acc (pick g t e d env s)) {acc : List D} {s : Store} (h : I 0 acc s) : ∃ acc' s', lcL gd g t e env xs acc s = .ok acc' s' ∧ I xs.length acc' s' := by
  obtain ⟨acc', s', h1, i, hi, e, h2⟩ := lcL_thru (gd := gd) (g := g) (t := t) (e := e) (env := env) (fun ys acc s => ∃ i, i ≤ xs.length ∧ ys = xs.drop i ∧ I i acc s) (fun _ acc s ⟨i, hi, _, q⟩ => hg i acc s q) (fun x ys acc s ⟨i, hi, e, q⟩ => by
    have hx : xs[i]? = some x := by
      have := congrArg (fun l : List D => l[0]?) e
      simpa using this.symm
    have hy : ys = xs.drop (i + 1) := by
      have := congrArg List.tail e
      simpa [List.tail_drop] using this
    have hlt := (List.getElem?_eq_some_iff.mp hx).1
    have z := hs i x acc s hx q
    cases hp : pick g t _ x env s with
    | no => rw [hp] at z; exact z
    | ex x s => rw [hp] at z; exact z
    | ok o s2 =>
      rw [hp] at z
      cases o with
      | none => exact ⟨i + 1, hlt, hy, z⟩
      | some y => exact ⟨z.1, i + 1, hlt, hy, z.2⟩) (xs := xs) ⟨0, Nat.zero_le _, rfl, h⟩
  have : i = xs.length := by
    have := congrArg List.length e
    simp at this
    omega
  subst this
  exact ⟨acc', s', h1, h2⟩
/-! ### statement by statement -/
section
variable {P : RS → Prop} {i : Nat} {a : ME D} {t : ME Bool} {f g r : MS} {env env2 : Sl} {s s' s2 : Store} {d : D}
theorem st_set (h : a env s = .ok d s') (k : P (r (env.set i (some d)) s')) : P (sSeq (sSet i a) r env s) := by
  show P (RS.bind ((a env s).then env fun d s => .nx (env.set i (some d)) s) r)
  rw [h]
  exact k
theorem st_no (h : t env s = .ok false s') (k : P (r env s')) : P (sSeq (sIf t f sNil) r env s) := by
  show P (RS.bind ((t env s).then env fun b s => if b then f env s else sNil env s) r)
  rw [h]
  exact k
theorem st_else (h : t env s = .ok false s') (h2 : g env s' = .nx env2 s2) (k : P (r env2 s2)) : P (sSeq (sIf t f g) r env s) := by
  show P (RS.bind ((t env s).then env fun b s => if b then f env s else g env s) r)
  rw [h]
  show P (RS.bind (g env s') r)
  rw [h2]
  exact k
theorem st_yes (h : t env s = .ok true s') (h2 : f env s' = .nx env2 s2) (k : P (r env2 s2)) : P (sSeq (sIf t f g) r env s) := by
  show P (RS.bind ((t env s).then env fun b s => if b then f env s else g env s) r)
  rw [h]
  show P (RS.bind (f env s') r)
  rw [h2]
  exact k
theorem st_out (h : t env s = .ok true s') (h2 : f env s' = .rt d s2) (k : P (.rt d s2)) : P (sSeq (sIf t f g) r env s) := by
  show P (RS.bind ((t env s).then env fun b s => if b then f env s else g env s) r)
  rw [h]
  show P (RS.bind (f env s') r)
  rw [h2]
  exact k
theorem st_for {it : ME Itm} {x : Itm} {gt : D → Sl → Option Sl} {b : MS} (h : it env s = .ok x s') (h2 : forL x.guard gt b x.xs env s' = .nx env2 s2) (k : P (r env2 s2)) : P (sSeq (sFor it gt b) r env s) := by
  show P (RS.bind ((it env s).then env fun i s => forL i.guard gt b i.xs env s) r)
  rw [h]
  show P (RS.bind (forL x.guard gt b x.xs env s') r)
  rw [h2]
  exact k
theorem st_expr (h : a env s = .ok d s') (k : P (r env s')) : P (sSeq (sExpr a) r env s) := by
  show P (RS.bind ((a env s).then env fun _ s => .nx env s) r)
  rw [h]
  exact k
theorem st_ret (h : a env s = .ok d s') (k : P (.rt d s')) : P (sRet a env s) := by
  show P ((a env s).then env fun d s => .rt d s)
  rw [h]
  exact k
/-- it returns True -/
def Yes (r : RS) : Prop := ∃ s, r = .rt (.bl true) s
theorem Yes.fn {N n : Nat} {b : MS} {ds : List D} {s : Store} (h : Yes (b (ds.map some ++ List.replicate (N - n) none) s)) : ∃ s', fnM N n b ds s = .ok (.bl true) s' := by
  obtain ⟨s', e⟩ := h
  exact ⟨s', by rw [fnM_eq, e]⟩
end
end Mi
namespace Mi
open PySem PySem.Spec PyProof.Rows L2
/-! ### dict comprehensions -/
section
variable {K : PySem.W.Frag} {mg : Str → Option Value} {m m1 m2 : List Addr} {H H1 H2 : Hp} {s : Store} {p : Addr}
theorem lw_sideD {vs ws : List (Key × V)} (h : H p = some (.dK vs)) : Lw K m H m (upd H p (HO.dK ws)) :=
  ⟨⟨[], by simp⟩, fun b xs q => by
    rcases q with (q | ⟨ob, q⟩) | q
    · exact .inl (.inl (by rw [upd_ne (fun z => by subst z; rw [h] at q; cases q)]; exact q))
    · exact .inl (.inr ⟨ob, by rw [upd_ne (fun z => by subst z; rw [h] at q; cases q)]; exact q⟩)
    · exact .inr q, fun b xs q => by
    rcases q with ⟨ob, q⟩ | q
    · exact .inl ⟨ob, by rw [upd_ne (fun z => by subst z; rw [h] at q; cases q)]; exact q⟩
    · exact .inr q, fun b vfs q n => ⟨by rw [upd_ne (fun z => by subst z; rw [h] at q; cases q)]; exact q, n⟩, fun b xs q => by rw [upd_ne (fun z => by subst z; rw [h] at q; cases q)]; exact q⟩
theorem Rel.sideD (r : Rel K m H s) {vs ws : List (Key × V)} (h : H p = some (.dK vs)) (n : p ∉ m) : Rel K m (upd H p (HO.dK ws)) s :=
  ⟨r.len, r.nd, fun l a c h1 h2 => (r.at_ l a c h1 h2).monoW (lw_sideD h) (upd_ne fun z => by subst z; exact n (List.mem_of_getElem? h1))⟩
theorem Le.sideD (e : Le K m H m1 H1) {vs ws : List (Key × V)} (h0 : H p = none) (h : H1 p = some (.dK vs)) : Le K m H m1 (upd H1 p (HO.dK ws)) :=
  ⟨e.pre, fun a xs q => (lw_sideD (m := m1) h).tup a xs (e.tup a xs q), fun a xs q => (lw_sideD (m := m1) h).frl a xs (e.frl a xs q), fun b o q n => by
    rw [upd_ne (fun z => by subst z; rw [h0] at q; cases q)]; exact e.fr b o q n, e.nw, fun a xs q => (lw_sideD (K := K) (m := m1) h).trk a xs (e.trk a xs q)⟩
theorem lw_adoptD {vs : List (Key × V)} (h : H p = some (.dK vs)) : Lw K m H (m ++ [p]) H := ⟨⟨[p], rfl⟩, fun _ _ q => q, fun _ _ q => q, fun b vfs q n => ⟨q, fun z => by
    rcases List.mem_append.mp z with z | z
    · exact n z
    · rw [List.mem_singleton.mp z, h] at q; cases q⟩, fun _ _ q => q⟩
theorem Rel.adoptD (r : Rel K m H s) {xs : List (Key × D)} {vs : List (Key × V)} (n : p ∉ m) (h : H p = some (.dK vs)) (q : RepK K m H xs vs) : Rel K (m ++ [p]) H (s ++ [Cell.dic xs]) := by
  refine ⟨by simp [r.len], ?_, fun j b d h1 h2 => ?_⟩
  · rw [List.nodup_append]
    exact ⟨r.nd, by simp, fun x hx y hy => by rw [List.mem_singleton.mp hy]; exact fun z => n (z ▸ hx)⟩
  · rcases Nat.lt_or_ge j m.length with w | w
    · rw [List.getElem?_append_left w] at h1
      rw [List.getElem?_append_left (by rw [← r.len]; exact w)] at h2
      exact (r.at_ j b d h1 h2).monoW (lw_adoptD h) rfl
    · rw [List.getElem?_append_right w] at h1
      rw [List.getElem?_append_right (by rw [← r.len]; exact w), ← r.len] at h2
      cases hk : j - m.length with
      | zero =>
        rw [hk] at h1 h2
        simp at h1 h2
        subst h1; subst h2
        exact ⟨vs, h, q.monoW (lw_adoptD h)⟩
      | succ n => rw [hk] at h1; simp at h1
end
open Classical in
noncomputable def dcL (guard : Store → Prop) (g : D → Sl → Option Sl) (t : ME Bool) (ek ev : ME D) (env : Sl) : List D → List (Key × D) → Store → R (List (Key × D))
  | [], acc, s => if guard s then .ok acc s else .no
  | x :: xs, acc, s => if guard s then (match g x env with
    | none => .no
    | some env1 => match t env1 s with
      | .ok b s1 => if b then (match ek env1 s1 with
        | .ok y s2 => match ev env1 s2 with
          | .ok z s3 => match keyOf y with
            | some k => if acc.length < sizeLine then dcL guard g t ek ev env xs (putD acc k z) s3 else .no
            | none => .no
          | _ => .no
        | _ => .no) else dcL guard g t ek ev env xs acc s1
      | _ => .no) else .no
/-- {k: v for target in iter if ..} -/
noncomputable def eDc (it : ME Itm) (vs : List Nat) (g : D → Sl → Option Sl) (t : ME Bool) (ek ev : ME D) : ME D := fun env s => (it env s).bind fun i s => (dcL i.guard g t ek ev (wipeE env vs) i.xs [] s).bind fun acc s => .ok (.loc s.length) (s ++ [.dic acc])
section
variable {X : Cx} {W : WX}
theorem dc_run {fi : ME Itm} {vs : List Nat} {gt : D → Sl → Option Sl} {ft : ME Bool} {fk fv : ME D} : ∀ σ H Q, Te X.K X.mg W (eDc fi vs gt ft fk fv) σ H Q →
    tDc (Ti X.K X.mg W fi) (GTm X.K vs gt) (Tt X.K X.mg WF ft) (Te X.K X.mg WF fk) (Te X.K X.mg WF fv) vs σ H Q := fun σ H Q h =>
  Tm.bind (k := fun env (i : Itm) s => (dcL i.guard gt ft fk fv (wipeE env vs) i.xs [] s).bind fun acc s => R.ok (D.loc s.length) (s ++ [Cell.dic acc])) h fun m1 H1 env it J s1 r1 E1 p1 g1 => by
    intro P hP
    refine ⟨fun i k H => k = it.xs.length - i ∧ i ≤ it.xs.length ∧ ∃ m2 s2 acc accV, Le X.K m1 H1 m2 H ∧ Rel X.K m2 H s2 ∧ H P = some (.dK accV) ∧ P ∉ m2 ∧ RepK X.K m2 H acc accV ∧
        G X.K X.mg (Rep X.K) W σ m1 H1 Q ((dcL it.guard gt ft fk fv (wipeE env vs) (it.xs.drop i) acc s2).bind fun acc s => R.ok (D.loc s.length) (s ++ [Cell.dic acc])),
      ⟨it.xs.length, by simp, Nat.zero_le _, m1, s1, [], [], le_new hP, r1.tmp hP, upd_same, r1.new_notin hP, .nil, g1⟩, ?_⟩
    rintro i k H2 ⟨rfl, hi, m2, s2, acc, accV, l2, r2, hD, nD, pA, g2⟩
    by_cases hlt : i < it.xs.length
    · have hx : it.xs[i]? = some it.xs[i] := by simp [hlt]
      have hd : it.xs.drop i = it.xs[i] :: it.xs.drop (i + 1) := List.drop_eq_getElem_cons hlt
      rw [hd] at g2
      unfold dcL at g2
      by_cases hgd : it.guard s2
      · simp only [hgd, if_true] at g2
        obtain ⟨hall, _⟩ := p1 m2 H2 s2 l2 r2 hgd
        obtain ⟨hgo, hy⟩ := hall i _ hx
        refine .inr ⟨hgo, fun H' => ∃ m2 s2 acc accV, Le X.K m1 H1 m2 H' ∧ Rel X.K m2 H' s2 ∧ H' P = some (.dK accV) ∧ P ∉ m2 ∧ RepK X.K m2 H' acc accV ∧
          G X.K X.mg (Rep X.K) W σ m1 H1 Q ((dcL it.guard gt ft fk fv (wipeE env vs) (it.xs.drop (i + 1)) acc s2).bind fun acc s => R.ok (D.loc s.length) (s ++ [Cell.dic acc])),
          fun H' q => ⟨it.xs.length - (i + 1), by omega, rfl, hlt, q⟩, fun v H3 y => ?_⟩
        obtain ⟨l3, r3, p3⟩ := hy v H3 y
        cases q : gt it.xs[i] (wipeE env vs) with
        | none => simp only [q] at g2; exact g2.elim
        | some env3 =>
          simp only [q] at g2
          have l13 := l2.trans l3
          have hD3 := l3.fr P _ hD nD
          refine ⟨m2, wipeE env vs, s2, it.xs[i], env3, r3, relE_wipe (E1.mono l13) vs, p3, q, fun σ4 E4 k4 n4 => ⟨by rw [wipe_congr n4 k4, wipe_wipe], m2, env3, s2, r3, E4, ?_⟩⟩
          cases ht : ft env3 s2 with
          | no => rw [ht] at g2; exact g2.elim
          | ex x s4 => rw [ht] at g2; exact g2.elim
          | ok b s4 =>
            simp only [ht] at g2
            intro m5 H5 b' l5 r5 eb
            cases (show b = b' from eb)
            have hD5 := l5.fr P _ hD3 nD
            have nD5 : P ∉ m5 := fun z => by
              rcases l5.nw P z with w | w
              · exact nD w
              · rw [hD3] at w; cases w
            have l15 := l13.trans l5
            cases b with
            | false =>
              refine iteF ⟨m5, s4, acc, accV, l15, r5, hD5, nD5, (pA.mono l3).mono l5, ?_⟩
              simpa using g2
            | true =>
              simp only [if_true] at g2
              refine iteT ⟨m5, env3, s4, r5, E4.mono l5, ?_⟩
              cases he : fk env3 s4 with
              | no => rw [he] at g2; exact g2.elim
              | ex x s6 => rw [he] at g2; exact g2.elim
              | ok y s6 =>
                simp only [he] at g2
                intro m7 H7 yv l7 r7 p7
                have hD7 := l7.fr P _ hD5 nD5
                have nD7 : P ∉ m7 := fun z => by
                  rcases l7.nw P z with w | w
                  · exact nD5 w
                  · rw [hD5] at w; cases w
                refine ⟨m7, env3, s6, r7, (E4.mono l5).mono l7, ?_⟩
                cases hv : fv env3 s6 with
                | no => rw [hv] at g2; exact g2.elim
                | ex x s8 => rw [hv] at g2; exact g2.elim
                | ok z s8 =>
                  simp only [hv] at g2
                  intro m9 H9 zv l9 r9 p9
                  have hD9 := l9.fr P _ hD7 nD7
                  have nD9 : P ∉ m9 := fun z => by
                    rcases l9.nw P z with w | w
                    · exact nD7 w
                    · rw [hD7] at w; cases w
                  cases hk : keyOf y with
                  | none => simp only [hk] at g2; exact g2.elim
                  | some k =>
                    simp only [hk] at g2
                    by_cases hz : acc.length < sizeLine
                    · simp only [hz, if_true] at g2
                      have pA9 := (((pA.mono l3).mono l5).mono l7).mono l9
                      have pP := (repk_put (k := k) pA9 p9).monoW (lw_sideD (m := m9) (ws := putK accV k zv) hD9)
                      exact ⟨accV, k, keyOf_rep p7 hk, hD9, by rw [← repk_len pA]; exact hz, m9, s8, putD acc k z, putK accV k zv, ((l15.trans l7).trans l9).sideD hP hD9, r9.sideD hD9 nD9, upd_same, nD9, pP, g2⟩
                    · simp only [hz, if_false] at g2
                      exact g2.elim
      · simp only [hgd, if_false] at g2
        exact g2.elim
    · have e : i = it.xs.length := by omega
      subst e
      rw [List.drop_length] at g2
      unfold dcL at g2
      by_cases hgd : it.guard s2
      · simp only [hgd, if_true] at g2
        refine .inl ⟨(p1 m2 H2 s2 l2 r2 hgd).2, ?_⟩
        exact g2 (m2 ++ [P]) H2 (.ref P) (l2.adopt hP) (r2.adoptD nD hD pA) (.loc (len_get r2))
      · simp only [hgd, if_false] at g2
        exact g2.elim
variable {ek ev tg iter c : Expr} {ifs : List Expr} {scope : Scope} {own : List (Str × Nat)} {pos : Pos} {fi : ME Itm} {gt : D → Sl → Option Sl} {ft : ME Bool} {fk fv : ME D}
theorem ce_dc (hc : X.calm = true) (hN : X.N.Nodup) (hi : PI X tg iter (Ti X.K X.mg W fi)) (ok : BlkOk X.N X.env.scope scope own)
    (hg : ∀ (s : Shared) (H : Hp) (C : Addr) (cl : List (Str × Addr)) (fp : List Addr), PG (X.blk s H scope (compEnvC scope cl C X.env) fp) tg (GTm X.K (own.map (·.2)) gt)) (ht : ∀ (s : Shared) (H : Hp) (C : Addr) (cl : List (Str × Addr)) (fp : List Addr), PTs (X.blk s H scope (compEnvC scope cl C X.env) fp) ifs (Tt X.K X.mg WF ft))
    (hk : ∀ (s : Shared) (H : Hp) (C : Addr) (cl : List (Str × Addr)) (fp : List Addr), PE (X.blk s H scope (compEnvC scope cl C X.env) fp) ek (Te X.K X.mg WF fk))
    (he : ∀ (s : Shared) (H : Hp) (C : Addr) (cl : List (Str × Addr)) (fp : List Addr), PE (X.blk s H scope (compEnvC scope cl C X.env) fp) ev (Te X.K X.mg WF fv)) (hs : ∀ x, foldedSetIterable iter X.env x = pure x := by intro _; rfl) :
    PE X (.DictComp ek ev [⟨tg, iter, ifs, 0⟩] scope pos) (Te X.K X.mg W (eDc fi (own.map (·.2)) gt ft fk fv)) := PE.imp (pe_dc hc hN hi ok hg ht hk he hs) dc_run
end
/-! ### name = {k: v for ..} on one line -/
section
variable {X : Cx} {W : WX} {kx vx tg iter : Expr} {ifs : List Expr} {sc : Scope} {own : List (Str × Nat)} {cp sp np : Pos} {z : Str} {l : Nat}
theorem sw_dict {env : Env} {gs : List Comprehension} (kind : env.scope.kind = .function) (there : env.scope.names.lookup z = some .local) (line : (np.line == cp.line) = true)
    (none_own : (sc.names.any fun (n, k) => n == z && (k == .local || k == .cell)) = false) : swapsWith (.DictComp kx vx gs sc cp) (some (.Name z np)) l env = pure true := by
  have q1 : env.kindOf z = some .local := there
  have q2 : env.blockKind = .function := by
    unfold Env.blockKind
    rw [kind]
    rfl
  unfold swapsWith
  simp only [q2, q1, none_own, Expr.pos, line]
  rfl
theorem cs_setDc {i : Nat} {fi : ME Itm} {gt : D → Sl → Option Sl} {ft : ME Bool} {fk fv : ME D} (calm : X.calm = true) (nd : X.N.Nodup) (at_ : X.N[i]? = some z) (there : X.env.scope.names.lookup z = some .local)
    (swaps : swapsWith (.DictComp kx vx [⟨tg, iter, ifs, 0⟩] sc cp) (some (.Name z np)) sp.line X.env = pure true) (pi : PI X tg iter (Ti X.K X.mg W fi)) (ok : BlkOk X.N X.env.scope sc own)
    (pg : ∀ (s : Shared) (H : Hp) (C : Addr) (cl : List (Str × Addr)) (fp : List Addr), PG (X.blk s H sc (compEnvC sc cl C X.env) fp) tg (GTm X.K (own.map (·.2)) gt))
    (pt : ∀ (s : Shared) (H : Hp) (C : Addr) (cl : List (Str × Addr)) (fp : List Addr), PTs (X.blk s H sc (compEnvC sc cl C X.env) fp) ifs (Tt X.K X.mg WF ft))
    (pk : ∀ (s : Shared) (H : Hp) (C : Addr) (cl : List (Str × Addr)) (fp : List Addr), PE (X.blk s H sc (compEnvC sc cl C X.env) fp) kx (Te X.K X.mg WF fk))
    (pv : ∀ (s : Shared) (H : Hp) (C : Addr) (cl : List (Str × Addr)) (fp : List Addr), PE (X.blk s H sc (compEnvC sc cl C X.env) fp) vx (Te X.K X.mg WF fv)) (folds : ∀ x, foldedSetIterable iter X.env x = pure x := by intro _; rfl) :
    PS X (.Assign [.Name z np] (.DictComp kx vx [⟨tg, iter, ifs, 0⟩] sc cp) sp) (Ts X.K X.mg W (sSet i (eDc fi (own.map (·.2)) gt ft fk fv))) := by
  constructor
  intro pins s σ H Dn I told
  rw [exec_Assign_Name_used _ _ _ _ swaps]
  apply wpAny_bind
  apply wpAny_standAt
  apply wpAny_bind
  show wpAny _ X.A (do
    let _ ← comprehension (.DictComp kx vx [⟨tg, iter, ifs, 0⟩] sc cp) sc X.env (firstIterPos [⟨tg, iter, ifs, 0⟩] cp) newDict false (eval iter X.env) (some (assign (.Name z np) X.env))) _ _ s
  have asked : tDc (Ti X.K X.mg W fi) (GTm X.K (own.map (·.2)) gt) (Tt X.K X.mg WF ft) (Te X.K X.mg WF fk) (Te X.K X.mg WF fv) (own.map (·.2)) σ H (fun x H1 => gName i x σ H1 Dn.nx) :=
    dc_run σ H _ (Ts.ofE (k := fun env d s => RS.nx (env.set i (some d)) s) told fun m1 H1 env d v s1 r1 E1 p1 g1 => g1 m1 _ H1 .refl r1 (relE_set E1 p1 i))
  apply wpAny_bind
  refine thn (dc_core (Qf := fun _ t => L2.SP X pins Dn .next t) calm nd I pi ok pg pt pk pv folds asked ?_) (fun _ _ q => wpAny_pure (wpAny_pure q))
  intro L C t m H2 I2 q ns fpok
  show wpAny _ _ (assign (.Name z np) X.env (.ref L)) _ _ _
  apply wpAny_assign_Name
  refine store_ok2 (v := V.ref L) I2 nd at_ (.inl there) rfl ?_ (.inr there)
  rintro t2 I3 ⟨a, but, where_⟩
  obtain ⟨g0, g1, g2, g3, g4, g5⟩ := fpok
  have away : C ≠ a := where_.elim (fun e => e.symm ▸ g1) (fun e w => g4 z a e w.symm)
  refine ⟨m, ns.sameBut but away, fun h4 but2 => ?_⟩
  exact ⟨_, H2, I3.turned (t' := t2.toks) (fun b o nb e => (but2.2 b nb).trans e) g0 g1 g3 g4 g5, q⟩
end
/-! ### x[i], x a text besides -/
def dIxZ (x i : D) (s : Store) : Option (D × Store) := match x, i with
  | .str z, .int j => if z.length ≤ 1000000 then (L2.atI z.cps.toList j).map fun c => (.str ⟨#[c]⟩, s) else none
  | .str _, _ => none
  | x, i => dIxA x i s
def rIxZ (K : PySem.W.Frag) : R2 := fun x y H Q => (rIx K x y H Q ∨ rIxDic x y H Q) ∨ rIxS x y H Q
theorem ix_Z {X : Cx} (hu : X.A.units + 64 < cLine) : IxR X (rIxZ X.K) := (ix_any hu).or ix_str
section
variable {K : PySem.W.Frag}
theorem ops_ixZ : OpS K (rIxZ K) dIxZ := by
  intro mg W σ m H s x y dx dy Q r px py g
  by_cases hz : ∃ z, dx = .str z
  · obtain ⟨z, rfl⟩ := hz
    cases px
    cases dy with
    | int j =>
      cases py
      by_cases hl : z.length ≤ 1000000
      · cases e : L2.atI z.cps.toList j with
        | none => simp [dIxZ, hl, e] at g; exact g.elim
        | some c =>
          have g' : G K mg (Rep K) W σ m H Q (.ok (.str ⟨#[c]⟩) s) := by simpa [dIxZ, hl, e] using g
          exact .inr ⟨z, j, c, rfl, rfl, le_line hl, e, g'.now r (.str _)⟩
      · simp [dIxZ, hl] at g; exact g.elim
    | _ => exact g.elim
  · have e : dIxZ dx dy s = dIxA dx dy s := by
      cases dx <;> first | rfl | exact (hz ⟨_, rfl⟩).elim
    rw [e] at g
    exact .inl (ops_ixA r px py g)
theorem dIxZ_tup (xs : List D) (i : D) (s : Store) : dIxZ (.tup xs) i s = dIx (.tup xs) i s := by cases i <;> rfl
theorem dIxZ_locA (l : Nat) (i : D) (s : Store) : dIxZ (.loc l) i s = dIxA (.loc l) i s := by cases i <;> rfl
theorem dIxZ_loc {s : Store} {l : Nat} {xs : List D} (h : s[l]? = some (.lst xs)) (i : Int) : dIxZ (.loc l) (.int i) s = dIx (.loc l) (.int i) s := by
  rw [dIxZ_locA, dIxA_loc h, dIx_loc h]
theorem dIxZ_str {z : Str} (h : z.length ≤ 1000000) (j : Int) (s : Store) : dIxZ (.str z) (.int j) s = (L2.atI z.cps.toList j).map fun c => (.str ⟨#[c]⟩, s) := by
  show (if z.length ≤ 1000000 then _ else none) = _
  rw [if_pos h]
/-! ### [x] * n -/
noncomputable def dRep (x y : D) (s : Store) : Option (D × Store) := match x, y with
  | .loc l, .int k => match s[l]? with
    | some (.lst xs) => if -(2 ^ 63) ≤ k ∧ k < 2 ^ 63 ∧ xs.length * k.toNat ≤ sizeLine then some (.loc s.length, s ++ [.lst (List.replicate k.toNat xs).flatten]) else none
    | _ => none
  | _, _ => none
theorem reps_rep {m : List Addr} {H : Hp} {xs : List D} {vs : List V} (p : Reps K m H xs vs) : ∀ n, Reps K m H (List.replicate n xs).flatten (List.replicate n vs).flatten
  | 0 => .nil
  | n + 1 => by
    rw [List.replicate_succ, List.replicate_succ, List.flatten_cons, List.flatten_cons]
    exact p.append (reps_rep p n)
theorem ops_rep : OpS K rRep dRep := by
  intro mg W σ m H s x y dx dy Q r px py g
  unfold dRep at g
  split at g
  · rename_i l k
    cases py
    cases px with
    | loc hl =>
      split at g
      · rename_i xs q
        split at g
        · rename_i hz
          obtain ⟨vs, h1, h2⟩ := r.list hl q
          refine ⟨_, k, vs, rfl, rfl, h1, hz.1, hz.2.1, by rw [← h2.length]; exact hz.2.2, fun p hp => ?_⟩
          exact g (m ++ [p]) _ _ (le_more r hp) (rel_newlist r hp (reps_rep h2 k.toNat)) (.loc (len_get r))
        · exact g.elim
      · exact g.elim
  · exact g.elim
/-! ### t.index(z), a tuple of texts -/
def strsOf : List D → Option (List Str)
  | [] => some []
  | .str z :: r => (strsOf r).map fun q => z :: q
  | _ => none
theorem strsOf_map (zs : List Str) : strsOf (zs.map D.str) = some zs := by
  induction zs with
  | nil => rfl
  | cons z zs ih => simp [strsOf, ih]
theorem strs_reps {m : List Addr} {H : Hp} : ∀ {ds : List D} {vs : List V} {zs : List Str}, Reps K m H ds vs → strsOf ds = some zs → vs = zs.map V.str
  | [], _, _, .nil, e => by cases e; rfl
  | d :: ds, _, zs, .cons h r, e => by
    cases d with
    | str z =>
      cases h
      simp only [strsOf] at e
      cases q : strsOf ds with
      | none => rw [q] at e; cases e
      | some w =>
        rw [q] at e
        cases e
        rw [List.map_cons, strs_reps r q]
    | _ => cases e
def rTix (K : PySem.W.Frag) : V → List V → Hp → VK → Prop := fun x xs H Q => ∃ p, ∃ ys : List Str, ∃ z j, x = .ref p ∧ xs = [.str z] ∧ SqT K H p (ys.map V.str) ∧ ys[j]? = some z ∧ (∀ m, m < j → ys[m]? ≠ some z) ∧ Q (.int (j : Nat)) H
theorem mt_tix {X : Cx} : MtR X "tuple.index" (rTix X.K) := mt_tup_index
def dTix (x : D) (ys : List D) (s : Store) : Option (D × Store) := match x, ys with
  | .tup xs, [.str z] => (strsOf xs).bind fun zs => (zs.findIdx? fun w => decide (w = z)).map fun j => (.int (j : Nat), s)
  | _, _ => none
theorem mts_tix : MtS K (rTix K) dTix := by
  intro mg W σ m H s x d xs ds Q r p ps g
  unfold dTix at g
  split at g
  · rename_i ys z
    obtain ⟨w, rfl, h⟩ := reps1 ps
    cases h
    obtain ⟨a, vs, rfl, h1, h2⟩ := p.sqT
    cases e : strsOf ys with
    | none => rw [e] at g; exact g.elim
    | some zs =>
      rw [e, Option.bind_some] at g
      cases q : zs.findIdx? fun w => decide (w = z) with
      | none => rw [q] at g; exact g.elim
      | some j =>
        rw [q] at g
        obtain ⟨hj, q1, q2⟩ := List.findIdx?_eq_some_iff_getElem.mp q
        have ev := strs_reps h2 e
        subst ev
        have hz : zs[j] = z := of_decide_eq_true q1
        refine ⟨a, zs, z, j, rfl, rfl, h1, by rw [List.getElem?_eq_getElem hj, hz], fun i hi w => ?_, g.now r (.int _)⟩
        have hi' : i < zs.length := by omega
        rw [List.getElem?_eq_getElem hi'] at w
        have := q2 i hi
        simp only [decide_eq_true_eq] at this
        exact this (Option.some.inj w)
  · exact g.elim
end
/-! ### list(d), d a dict -/
def keyD : Key → D
  | .inl i => .int i
  | .inr z => .str z
def rListA (K : PySem.W.Frag) : List V → Hp → VK → Prop := fun xs H Q => (∃ p ys, xs = [.ref p] ∧ (SqL K H p ys ∨ SqT K H p ys) ∧ ∀ l, H l = none → Q (.ref l) (upd H l (.lst ys))) ∨
  (∃ d kvs, xs = [V.ref d] ∧ Rd H d (.dT kvs) ∧ ∀ p bs, H p = none → IsKeys H kvs bs → Q (.ref p) (upd H p (.lst (bs.map V.ref)))) ∨
  ∃ (a : Addr) (kvs : List (Key × V)), xs = [.ref a] ∧ Rd H a (.dK kvs) ∧ ∀ p, H p = none → Q (.ref p) (upd H p (.lst (kvs.map fun kv => kV kv.1)))
theorem call_listA {X : Cx} (hc : X.calm = true) : CallR X (.type "list") (rListA X.K) := call_list_of.or ((call_list_dT hc).or (call_listD hc))
def dListA (ds : List D) (s : Store) : Option (D × Store) := match ds with
  | [x] => match dicOf s x with
    | some (_, ks) => some (.loc s.length, s ++ [.lst (ks.map fun kv => keyD kv.1)])
    | none => match dctOf s x with
      | some (_, ks) => some (.loc s.length, s ++ [.lst (ks.map fun kv => .tup (kv.1.map keyD))])
      | none => dList [x] s
  | _ => none
section
variable {K : PySem.W.Frag} {m : List Addr} {H : Hp}
theorem keyD_rep (k : Key) : Rep K m H (keyD k) (kV k) := by
  cases k with
  | inl i => exact .int i
  | inr z => exact .str z
theorem keysD_rep : ∀ ks : List Key, Reps K m H (ks.map keyD) (ks.map kV)
  | [] => .nil
  | k :: ks => .cons (keyD_rep k) (keysD_rep ks)
theorem reps_keysK : ∀ {ks : List (Key × D)} {vs : List (Key × V)}, RepK K m H ks vs → Reps K m H (ks.map fun kv => keyD kv.1) (vs.map fun kv => kV kv.1)
  | _, _, .nil => .nil
  | _, _, .cons (k := k) _ r => .cons (keyD_rep k) (reps_keysK r)
theorem reps_keysT : ∀ {ks : List (List Key × D)} {vs : List (List Key × V)} {bs : List Addr}, RepK K m H ks vs → IsKeys H vs bs → Reps K m H (ks.map fun kv => .tup (kv.1.map keyD)) (bs.map V.ref)
  | _, _, _, .nil, q => by cases q; exact .nil
  | _, _, _, .cons (k := k) _ r, q => by
    cases q with
    | cons h t => exact .cons (.tup h (keysD_rep k)) (reps_keysT r t)
theorem fns_listA : FnS K (rListA K) dListA := by
  intro mg W σ m H s xs ds Q r p g
  unfold dListA at g
  split at g
  · rename_i x
    obtain ⟨v, rfl, h⟩ := reps1 p
    cases e : dicOf s x with
    | some o =>
      obtain ⟨l, ks⟩ := o
      rw [e] at g
      obtain ⟨a, vs, _, rfl, _, h1, h2⟩ := dicOf_at r h e
      refine .inr (.inr ⟨a, vs, rfl, .inl h1, fun q hq => ?_⟩)
      exact g (m ++ [q]) _ _ (le_more r hq) (rel_newlist r hq (reps_keysK h2)) (.loc (len_get r))
    | none =>
      rw [e] at g
      simp only at g
      cases e2 : dctOf s x with
      | some o =>
        obtain ⟨l, ks⟩ := o
        rw [e2] at g
        obtain ⟨a, vs, _, rfl, _, h1, h2⟩ := dctOf_at r h e2
        refine .inr (.inl ⟨a, vs, rfl, .inl h1, fun q bs hq hk => ?_⟩)
        exact g (m ++ [q]) _ _ (le_more r hq) (rel_newlist r hq (reps_keysT h2 hk)) (.loc (len_get r))
      | none =>
        rw [e2] at g
        exact .inl (fns_list r p g)
  · exact g.elim
end
/-! ### a, b = e, e a list -/
/-- a list taken apart -/
def sAsgL (n : Nat) (r : List D → Sl → Option Sl) (e : ME D) : MS := fun env s => (e env s).then env fun d s => match lstOf s d with
  | some xs => if xs.length = n then (match r xs env with | some env' => .nx env' s | none => .no) else .no
  | none => .no
section
variable {X : Cx} {W : WX} {pos : Pos} {tpos : Pos} {es : List Expr} {e : Expr} {fe : ME D}
theorem cs_asgL {k n : Nat} {r : List D → Sl → Option Sl} {vs : List Nat} (hc : X.calm = true) (he : PE X e (Te X.K X.mg W fe)) (h : PGs X es (GTs X.K vs r)) (hn : (assignEach es X.env).length = n := by rfl) (hst : (assignEach es X.env).findIdx? (·.1) = none := by rfl)
    (hs : swapsWithSole [.Tuple es k tpos] e pos.line X.env = pure false := by rfl) (hw : swappedStores [.Tuple es k tpos] e X.env = pure none := by rfl)
    (h1 : (assignEach [.Tuple es k tpos] X.env).map (·.2) = [assign (.Tuple es k tpos) X.env] := by rfl) : PS X (.Assign [.Tuple es k tpos] e pos) (Ts X.K X.mg W (sAsgL n r fe)) := PS.imp (ps_asg he (pg_lst (n := n) hc h hn hst) hs hw h1) fun Dn σ H h =>
  Ts.ofE (k := fun env d s => match lstOf s d with
  | some xs => if xs.length = n then (match r xs env with | some env' => RS.nx env' s | none => .no) else .no
  | none => .no) h fun m1 H1 env d v s1 r1 E1 p1 g1 => by
    cases q : lstOf s1 d with
    | none => simp only [q] at g1; exact g1.elim
    | some xs =>
      simp only [q] at g1
      by_cases hl : xs.length = n
      · simp only [hl, if_true] at g1
        cases q2 : r xs env with
        | none => simp only [q2] at g1; exact g1.elim
        | some env' =>
          simp only [q2] at g1
          obtain ⟨a, ws, rfl, hq, rr⟩ := lstOf_sq r1 p1 q
          exact ⟨a, ws, rfl, hq, by rw [← rr.length]; exact hl, m1, env, s1, xs, env', r1, E1, rr, q2, fun σ' E' _ _ => g1 m1 σ' H1 .refl r1 E'⟩
      · simp only [hl, if_false] at g1
        exact g1.elim
end
end Mi
namespace Law
open PySem PySem.Spec PyProof.Rows L2 Mi
/-! ### the text -/
def topS (i : Nat) : Stmt := PySem.Challenge.pw_beforeinall_k26_walks_judged.main.body.getD i (.Pass ⟨0, 0, 0, 0⟩)
abbrev s_plain_record : Stmt := topS 5
abbrev s_is_plain : Stmt := topS 6
abbrev s_need_plain : Stmt := topS 8
abbrev s_node_list : Stmt := topS 9
abbrev s_step_list : Stmt := topS 10
abbrev s_weight_table : Stmt := topS 11
abbrev s_is_integer : Stmt := topS 13
abbrev s_sum_of : Stmt := topS 15
abbrev s_is_step : Stmt := topS 16
abbrev s_is_walk : Stmt := topS 17
abbrev s_d_law_pool : Stmt := topS 19
abbrev s_d_law_draw : Stmt := topS 20
abbrev s_d_law_deeds : Stmt := topS 21
abbrev s_d_law_book : Stmt := topS 22
abbrev s_d_law_table : Stmt := topS 23
abbrev s_d_law_is : Stmt := topS 24
abbrev s_d_law_walk : Stmt := topS 25
abbrev s_d_law_total : Stmt := topS 26
abbrev s_d_law_told : Stmt := topS 27
abbrev s_d_law_put : Stmt := topS 28
abbrev s_d_law_bent : Stmt := topS 29
abbrev s_d_law_asked : Stmt := topS 30
abbrev s_d_law_word : Stmt := topS 31
abbrev s_d_law_plain : Stmt := topS 32
abbrev s_law : Stmt := topS 33
theorem sc_plain_record : FnScope ["record"] ["record"] (defScope s_plain_record) := ⟨rfl, rfl, rfl, by decide +kernel, rfl, by decide +kernel, by decide +kernel⟩
theorem sc_is_plain : FnScope ["book", "_", "record"] ["book"] (defScope s_is_plain) := ⟨rfl, rfl, rfl, by decide +kernel, rfl, by decide +kernel, by decide +kernel⟩
theorem sc_need_plain : FnScope ["book"] ["book"] (defScope s_need_plain) := ⟨rfl, rfl, rfl, by decide +kernel, rfl, by decide +kernel, by decide +kernel⟩
theorem sc_node_list : FnScope ["book"] ["book"] (defScope s_node_list) := ⟨rfl, rfl, rfl, by decide +kernel, rfl, by decide +kernel, by decide +kernel⟩
theorem sc_step_list : FnScope ["book", "first", "last", "deeds", "entries", "places", "found", "at", "deed", "entry", "record", "low", "high"] ["book"] (defScope s_step_list) := ⟨rfl, rfl, rfl, by decide +kernel, rfl, by decide +kernel, by decide +kernel⟩
theorem sc_weight_table : FnScope ["book", "nodes", "weights", "one", "other", "entry", "weight"] ["book"] (defScope s_weight_table) := ⟨rfl, rfl, rfl, by decide +kernel, rfl, by decide +kernel, by decide +kernel⟩
theorem sc_is_integer : FnScope ["thing"] ["thing"] (defScope s_is_integer) := ⟨rfl, rfl, rfl, by decide +kernel, rfl, by decide +kernel, by decide +kernel⟩
theorem sc_sum_of : FnScope ["book", "walk", "weights", "step"] ["book", "walk"] (defScope s_sum_of) := ⟨rfl, rfl, rfl, by decide +kernel, rfl, by decide +kernel, by decide +kernel⟩
theorem sc_is_step : FnScope ["weights", "thing"] ["weights", "thing"] (defScope s_is_step) := ⟨rfl, rfl, rfl, by decide +kernel, rfl, by decide +kernel, by decide +kernel⟩
theorem sc_is_walk : FnScope ["book", "start", "end", "least", "thing", "weights", "here", "total", "step"] ["book", "start", "end", "least", "thing"] (defScope s_is_walk) := ⟨rfl, rfl, rfl, by decide +kernel, rfl, by decide +kernel, by decide +kernel⟩
theorem sc_d_law_pool : FnScope ["script", "cells", "cell"] ["script"] (defScope s_d_law_pool) := ⟨rfl, rfl, rfl, by decide +kernel, rfl, by decide +kernel, by decide +kernel⟩
theorem sc_d_law_draw : FnScope ["pool", "many", "cells", "turn", "at", "cell", "one", "two"] ["pool", "many"] (defScope s_d_law_draw) := ⟨rfl, rfl, rfl, by decide +kernel, rfl, by decide +kernel, by decide +kernel⟩
theorem sc_d_law_deeds : FnScope ["pool", "many", "words", "letter", "tail", "out", "step", "at"] ["pool", "many"] (defScope s_d_law_deeds) := ⟨rfl, rfl, rfl, by decide +kernel, rfl, by decide +kernel, by decide +kernel⟩
theorem sc_d_law_book : FnScope ["pool", "names", "count", "first", "last", "entries", "step", "digger", "one", "other", "low", "least", "record", "at"] ["pool", "names", "count"] (defScope s_d_law_book) := ⟨rfl, rfl, rfl, by decide +kernel, rfl, by decide +kernel, by decide +kernel⟩
theorem sc_d_law_table : FnScope ["book", "out", "deed", "at", "record"] ["book"] (defScope s_d_law_table) := ⟨rfl, rfl, rfl, by decide +kernel, rfl, by decide +kernel, by decide +kernel⟩
theorem sc_d_law_is : FnScope ["table", "start", "end", "least", "thing", "node", "total", "step"] ["table", "start", "end", "least", "thing"] (defScope s_d_law_is) := ⟨rfl, rfl, rfl, by decide +kernel, rfl, by decide +kernel, by decide +kernel⟩
theorem sc_d_law_walk : FnScope ["pool", "steps", "start", "most", "node", "out", "turn", "step", "here"] ["pool", "steps", "start", "most"] (defScope s_d_law_walk) := ⟨rfl, rfl, rfl, by decide +kernel, rfl, by decide +kernel, by decide +kernel⟩
theorem sc_d_law_total : FnScope ["table", "walk", "total", "step"] ["table", "walk"] (defScope s_d_law_total) := ⟨rfl, rfl, rfl, by decide +kernel, rfl, by decide +kernel, by decide +kernel⟩
theorem sc_d_law_told : FnScope ["told", "due"] ["told", "due"] (defScope s_d_law_told) := ⟨rfl, rfl, rfl, by decide +kernel, rfl, by decide +kernel, by decide +kernel⟩
theorem sc_d_law_put : FnScope ["row", "at", "thing"] ["row", "at", "thing"] (defScope s_d_law_put) := ⟨rfl, rfl, rfl, by decide +kernel, rfl, by decide +kernel, by decide +kernel⟩
theorem sc_d_law_bent : FnScope ["pool", "walk", "many", "strange", "kind", "at", "step", "other"] ["pool", "walk", "many"] (defScope s_d_law_bent) := ⟨rfl, rfl, rfl, by decide +kernel, rfl, by decide +kernel, by decide +kernel⟩
theorem sc_d_law_asked : FnScope ["pool", "book", "table", "start", "walk", "end", "total", "told", "other", "at", "step", "thing", "least"] ["pool", "book", "table", "start", "walk"] (defScope s_d_law_asked) := ⟨rfl, rfl, rfl, by decide +kernel, rfl, by decide +kernel, by decide +kernel⟩
theorem sc_d_law_word : FnScope ["odd", "walk", "judge", "refused"] ["odd", "walk", "judge"] (defScope s_d_law_word) := ⟨rfl, rfl, rfl, by decide +kernel, rfl, by decide +kernel, by decide +kernel⟩
theorem sc_d_law_plain : FnScope ["pool", "book", "walk", "odd", "word"] ["pool", "book", "walk"] (defScope s_d_law_plain) := ⟨rfl, rfl, rfl, by decide +kernel, rfl, by decide +kernel, by decide +kernel⟩
theorem sc_law : FnScope ["script", "pool", "many", "count", "most", "names", "book", "table", "steps", "nodes", "start", "here", "ahead", "back", "walk", "step"] ["script"] (defScope s_law) := ⟨rfl, rfl, rfl, by decide +kernel, rfl, by decide +kernel, by decide +kernel⟩
abbrev s_BadStep : Stmt := (clsBody (topS 3)).getD 0 (.Pass ⟨0, 0, 0, 0⟩)
theorem sc_BadStep : FnScope ["self", "word"] ["self", "word"] (defScope s_BadStep) := ⟨rfl, rfl, rfl, by decide +kernel, rfl, by decide +kernel, by decide +kernel⟩
/-! ### what the top has left -/
structure Fx (K : PySem.W.Frag) (mg : Str → Option Value) where
  a_plain_record : Addr
  d_plain_record : FuncData
  F_plain_record : Fun K "plain_record" "plain_record" s_plain_record a_plain_record d_plain_record
  g_plain_record : mg "plain_record" = some (.ref a_plain_record)
  a_is_plain : Addr
  d_is_plain : FuncData
  F_is_plain : Fun K "is_plain" "is_plain" s_is_plain a_is_plain d_is_plain
  g_is_plain : mg "is_plain" = some (.ref a_is_plain)
  a_need_plain : Addr
  d_need_plain : FuncData
  F_need_plain : Fun K "need_plain" "need_plain" s_need_plain a_need_plain d_need_plain
  g_need_plain : mg "need_plain" = some (.ref a_need_plain)
  a_node_list : Addr
  d_node_list : FuncData
  F_node_list : Fun K "node_list" "node_list" s_node_list a_node_list d_node_list
  g_node_list : mg "node_list" = some (.ref a_node_list)
  a_step_list : Addr
  d_step_list : FuncData
  F_step_list : Fun K "step_list" "step_list" s_step_list a_step_list d_step_list
  g_step_list : mg "step_list" = some (.ref a_step_list)
  a_weight_table : Addr
  d_weight_table : FuncData
  F_weight_table : Fun K "weight_table" "weight_table" s_weight_table a_weight_table d_weight_table
  g_weight_table : mg "weight_table" = some (.ref a_weight_table)
  a_is_integer : Addr
  d_is_integer : FuncData
  F_is_integer : Fun K "is_integer" "is_integer" s_is_integer a_is_integer d_is_integer
  g_is_integer : mg "is_integer" = some (.ref a_is_integer)
  a_sum_of : Addr
  d_sum_of : FuncData
  F_sum_of : Fun K "sum_of" "sum_of" s_sum_of a_sum_of d_sum_of
  g_sum_of : mg "sum_of" = some (.ref a_sum_of)
  a_is_step : Addr
  d_is_step : FuncData
  F_is_step : Fun K "is_step" "is_step" s_is_step a_is_step d_is_step
  g_is_step : mg "is_step" = some (.ref a_is_step)
  a_is_walk : Addr
  d_is_walk : FuncData
  F_is_walk : Fun K "is_walk" "is_walk" s_is_walk a_is_walk d_is_walk
  g_is_walk : mg "is_walk" = some (.ref a_is_walk)
  a_d_law_pool : Addr
  d_d_law_pool : FuncData
  F_d_law_pool : Fun K "_law_pool" "_law_pool" s_d_law_pool a_d_law_pool d_d_law_pool
  g_d_law_pool : mg "_law_pool" = some (.ref a_d_law_pool)
  a_d_law_draw : Addr
  d_d_law_draw : FuncData
  F_d_law_draw : Fun K "_law_draw" "_law_draw" s_d_law_draw a_d_law_draw d_d_law_draw
  g_d_law_draw : mg "_law_draw" = some (.ref a_d_law_draw)
  a_d_law_deeds : Addr
  d_d_law_deeds : FuncData
  F_d_law_deeds : Fun K "_law_deeds" "_law_deeds" s_d_law_deeds a_d_law_deeds d_d_law_deeds
  g_d_law_deeds : mg "_law_deeds" = some (.ref a_d_law_deeds)
  a_d_law_book : Addr
  d_d_law_book : FuncData
  F_d_law_book : Fun K "_law_book" "_law_book" s_d_law_book a_d_law_book d_d_law_book
  g_d_law_book : mg "_law_book" = some (.ref a_d_law_book)
  a_d_law_table : Addr
  d_d_law_table : FuncData
  F_d_law_table : Fun K "_law_table" "_law_table" s_d_law_table a_d_law_table d_d_law_table
  g_d_law_table : mg "_law_table" = some (.ref a_d_law_table)
  a_d_law_is : Addr
  d_d_law_is : FuncData
  F_d_law_is : Fun K "_law_is" "_law_is" s_d_law_is a_d_law_is d_d_law_is
  g_d_law_is : mg "_law_is" = some (.ref a_d_law_is)
  a_d_law_walk : Addr
  d_d_law_walk : FuncData
  F_d_law_walk : Fun K "_law_walk" "_law_walk" s_d_law_walk a_d_law_walk d_d_law_walk
  g_d_law_walk : mg "_law_walk" = some (.ref a_d_law_walk)
  a_d_law_total : Addr
  d_d_law_total : FuncData
  F_d_law_total : Fun K "_law_total" "_law_total" s_d_law_total a_d_law_total d_d_law_total
  g_d_law_total : mg "_law_total" = some (.ref a_d_law_total)
  a_d_law_told : Addr
  d_d_law_told : FuncData
  F_d_law_told : Fun K "_law_told" "_law_told" s_d_law_told a_d_law_told d_d_law_told
  g_d_law_told : mg "_law_told" = some (.ref a_d_law_told)
  a_d_law_put : Addr
  d_d_law_put : FuncData
  F_d_law_put : Fun K "_law_put" "_law_put" s_d_law_put a_d_law_put d_d_law_put
  g_d_law_put : mg "_law_put" = some (.ref a_d_law_put)
  a_d_law_bent : Addr
  d_d_law_bent : FuncData
  F_d_law_bent : Fun K "_law_bent" "_law_bent" s_d_law_bent a_d_law_bent d_d_law_bent
  g_d_law_bent : mg "_law_bent" = some (.ref a_d_law_bent)
  a_d_law_asked : Addr
  d_d_law_asked : FuncData
  F_d_law_asked : Fun K "_law_asked" "_law_asked" s_d_law_asked a_d_law_asked d_d_law_asked
  g_d_law_asked : mg "_law_asked" = some (.ref a_d_law_asked)
  a_d_law_word : Addr
  d_d_law_word : FuncData
  F_d_law_word : Fun K "_law_word" "_law_word" s_d_law_word a_d_law_word d_d_law_word
  g_d_law_word : mg "_law_word" = some (.ref a_d_law_word)
  a_d_law_plain : Addr
  d_d_law_plain : FuncData
  F_d_law_plain : Fun K "_law_plain" "_law_plain" s_d_law_plain a_d_law_plain d_d_law_plain
  g_d_law_plain : mg "_law_plain" = some (.ref a_d_law_plain)
  a_law : Addr
  d_law : FuncData
  F_law : Fun K "law" "law" s_law a_law d_law
  g_law : mg "law" = some (.ref a_law)
  c_BadStep : Addr
  i_BadStep : Addr
  d_BadStep : FuncData
  gc_BadStep : mg "BadStep" = some (.ref c_BadStep)
  T_BadStep : OexC K c_BadStep
  iC_BadStep : PySem.W.findIn K (.ref c_BadStep) "__init__" = some (some (.ref i_BadStep))
  tI_BadStep : PySem.W.typeIn K (.ref i_BadStep) = some (.type "function")
  F_BadStep : Fun K "__init__" "BadStep.__init__" s_BadStep i_BadStep d_BadStep
  xf_BadStep : XfC K c_BadStep
  te_BadStep : PySem.W.exmOne K (.ref c_BadStep) (.ref c_BadStep) = some true
  no_BadStep_word : PySem.W.findIn K (.ref c_BadStep) "word" = some none
  b_all : mg "all" = none
  b_bool : mg "bool" = none
  b_enumerate : mg "enumerate" = none
  b_int : mg "int" = none
  b_isinstance : mg "isinstance" = none
  b_len : mg "len" = none
  b_list : mg "list" = none
  b_range : mg "range" = none
  b_sorted : mg "sorted" = none
  b_str : mg "str" = none
  b_sum : mg "sum" = none
  b_tuple : mg "tuple" = none
variable {P : Program} {w : World} {K : PySem.W.Frag} {mg : Str → Option Value} {base : Heap}
theorem bd_plain_record (X : Fx K mg) : Binds K X.d_plain_record ["record"] [] := X.F_plain_record.binds (ps := ["record"]) fun _ _ _ _ _ _ us hl => match us, hl with | [_], _ => rfl
theorem bd_is_plain (X : Fx K mg) : Binds K X.d_is_plain ["book"] [] := X.F_is_plain.binds (ps := ["book"]) fun _ _ _ _ _ _ us hl => match us, hl with | [_], _ => rfl
theorem bd_need_plain (X : Fx K mg) : Binds K X.d_need_plain ["book"] [] := X.F_need_plain.binds (ps := ["book"]) fun _ _ _ _ _ _ us hl => match us, hl with | [_], _ => rfl
theorem bd_node_list (X : Fx K mg) : Binds K X.d_node_list ["book"] [] := X.F_node_list.binds (ps := ["book"]) fun _ _ _ _ _ _ us hl => match us, hl with | [_], _ => rfl
theorem bd_step_list (X : Fx K mg) : Binds K X.d_step_list ["book"] [] := X.F_step_list.binds (ps := ["book"]) fun _ _ _ _ _ _ us hl => match us, hl with | [_], _ => rfl
theorem bd_weight_table (X : Fx K mg) : Binds K X.d_weight_table ["book"] [] := X.F_weight_table.binds (ps := ["book"]) fun _ _ _ _ _ _ us hl => match us, hl with | [_], _ => rfl
theorem bd_is_integer (X : Fx K mg) : Binds K X.d_is_integer ["thing"] [] := X.F_is_integer.binds (ps := ["thing"]) fun _ _ _ _ _ _ us hl => match us, hl with | [_], _ => rfl
theorem bd_sum_of (X : Fx K mg) : Binds K X.d_sum_of ["book", "walk"] [] := X.F_sum_of.binds (ps := ["book", "walk"]) fun _ _ _ _ _ _ us hl => match us, hl with | [_, _], _ => rfl
theorem bd_is_step (X : Fx K mg) : Binds K X.d_is_step ["weights", "thing"] [] := X.F_is_step.binds (ps := ["weights", "thing"]) fun _ _ _ _ _ _ us hl => match us, hl with | [_, _], _ => rfl
theorem bd_is_walk (X : Fx K mg) : Binds K X.d_is_walk ["book", "start", "end", "least", "thing"] [] := X.F_is_walk.binds (ps := ["book", "start", "end", "least", "thing"]) fun _ _ _ _ _ _ us hl => match us, hl with | [_, _, _, _, _], _ => rfl
theorem bd_d_law_pool (X : Fx K mg) : Binds K X.d_d_law_pool ["script"] [] := X.F_d_law_pool.binds (ps := ["script"]) fun _ _ _ _ _ _ us hl => match us, hl with | [_], _ => rfl
theorem bd_d_law_draw (X : Fx K mg) : Binds K X.d_d_law_draw ["pool", "many"] [] := X.F_d_law_draw.binds (ps := ["pool", "many"]) fun _ _ _ _ _ _ us hl => match us, hl with | [_, _], _ => rfl
theorem bd_d_law_deeds (X : Fx K mg) : Binds K X.d_d_law_deeds ["pool", "many"] [] := X.F_d_law_deeds.binds (ps := ["pool", "many"]) fun _ _ _ _ _ _ us hl => match us, hl with | [_, _], _ => rfl
theorem bd_d_law_book (X : Fx K mg) : Binds K X.d_d_law_book ["pool", "names", "count"] [] := X.F_d_law_book.binds (ps := ["pool", "names", "count"]) fun _ _ _ _ _ _ us hl => match us, hl with | [_, _, _], _ => rfl
theorem bd_d_law_table (X : Fx K mg) : Binds K X.d_d_law_table ["book"] [] := X.F_d_law_table.binds (ps := ["book"]) fun _ _ _ _ _ _ us hl => match us, hl with | [_], _ => rfl
theorem bd_d_law_is (X : Fx K mg) : Binds K X.d_d_law_is ["table", "start", "end", "least", "thing"] [] := X.F_d_law_is.binds (ps := ["table", "start", "end", "least", "thing"]) fun _ _ _ _ _ _ us hl => match us, hl with | [_, _, _, _, _], _ => rfl
theorem bd_d_law_walk (X : Fx K mg) : Binds K X.d_d_law_walk ["pool", "steps", "start", "most"] [] := X.F_d_law_walk.binds (ps := ["pool", "steps", "start", "most"]) fun _ _ _ _ _ _ us hl => match us, hl with | [_, _, _, _], _ => rfl
theorem bd_d_law_total (X : Fx K mg) : Binds K X.d_d_law_total ["table", "walk"] [] := X.F_d_law_total.binds (ps := ["table", "walk"]) fun _ _ _ _ _ _ us hl => match us, hl with | [_, _], _ => rfl
theorem bd_d_law_told (X : Fx K mg) : Binds K X.d_d_law_told ["told", "due"] [] := X.F_d_law_told.binds (ps := ["told", "due"]) fun _ _ _ _ _ _ us hl => match us, hl with | [_, _], _ => rfl
theorem bd_d_law_put (X : Fx K mg) : Binds K X.d_d_law_put ["row", "at", "thing"] [] := X.F_d_law_put.binds (ps := ["row", "at", "thing"]) fun _ _ _ _ _ _ us hl => match us, hl with | [_, _, _], _ => rfl
theorem bd_d_law_bent (X : Fx K mg) : Binds K X.d_d_law_bent ["pool", "walk", "many"] [] := X.F_d_law_bent.binds (ps := ["pool", "walk", "many"]) fun _ _ _ _ _ _ us hl => match us, hl with | [_, _, _], _ => rfl
theorem bd_d_law_asked (X : Fx K mg) : Binds K X.d_d_law_asked ["pool", "book", "table", "start", "walk"] [] := X.F_d_law_asked.binds (ps := ["pool", "book", "table", "start", "walk"]) fun _ _ _ _ _ _ us hl => match us, hl with | [_, _, _, _, _], _ => rfl
theorem bd_d_law_word (X : Fx K mg) : Binds K X.d_d_law_word ["odd", "walk", "judge"] [] := X.F_d_law_word.binds (ps := ["odd", "walk", "judge"]) fun _ _ _ _ _ _ us hl => match us, hl with | [_, _, _], _ => rfl
theorem bd_d_law_plain (X : Fx K mg) : Binds K X.d_d_law_plain ["pool", "book", "walk"] [] := X.F_d_law_plain.binds (ps := ["pool", "book", "walk"]) fun _ _ _ _ _ _ us hl => match us, hl with | [_, _, _], _ => rfl
theorem bd_law (X : Fx K mg) : Binds K X.d_law ["script"] [] := X.F_law.binds (ps := ["script"]) fun _ _ _ _ _ _ us hl => match us, hl with | [_], _ => rfl
theorem bi_BadStep (X : Fx K mg) : Binds K X.d_BadStep ["self", "word"] [] := X.F_BadStep.binds (ps := ["self", "word"]) fun _ _ _ _ _ _ us hl => match us, hl with | [_, _], _ => rfl
theorem oi_BadStep (X : Fx K mg) : FnOk P w K mg base (L2.CX P w) 1 X.i_BadStep X.d_BadStep ["self", "word"] (spI1 X.c_BadStep "word") := okI1 X.F_BadStep sc_BadStep rfl rfl X.T_BadStep X.no_BadStep_word fun cdv A outer s H E => pss_one (ps_ost (pv 0) (pv 1))
/-! ### mirrors and derivations -/
noncomputable def b_plain_record : MS := sRet (eOr (e2 dEq (e2 dIxA (eV 0) (eC (.int 0))) (eC (.str "gap"))) (eAnd (e2 dEq (e2 dIxA (eV 0) (eC (.int 0))) (eC (.str "years"))) (e2 dEq (eFn dLen (aCons (e2 dIxA (eV 0) (eC (.int 2))) (aNil))) (eC (.int 1)))))
noncomputable def m_plain_record : List D → Store → R D := fnM 1 1 b_plain_record
theorem ok_plain_record (X : Fx K mg) : FnOk P w K mg base (L2.CX P w) 1 X.a_plain_record X.d_plain_record ["record"] (spM K mg 1 m_plain_record) :=
  okM (k := 0) X.F_plain_record sc_plain_record rfl fun cdv A outer s H E hr tk =>
    (css_one (cs_ret (ce_or (ce_cmp (opA_eq hr.units) ops_eq (ce_ix (ix_any hr.units) ops_ixA (ce_v 0) (ce_int) (fun _ _ => rfl)) (ce_str) (nomark _)) (ce_one (ce_and (ce_cmp (opA_eq hr.units) ops_eq (ce_ix (ix_any hr.units) ops_ixA (ce_v 0) (ce_int) (fun _ _ => rfl)) (ce_str) (nomark _)) (ce_one (ce_cmp (opA_eq hr.units) ops_eq (ce_callB call_len fns_len (by rfl) X.b_len (by decide +kernel) (ca_cons (ce_ix (ix_any hr.units) ops_ixA (ce_v 0) (ce_int) (fun _ _ => rfl)) (ca_nil))) (ce_int) (nomark _))))))) :
      PSs _ _ (Ts _ _ _ b_plain_record))
noncomputable def b_node_list : MS := sRet (e2 dAdd (eLst (aCons (eC (.str "")) (aNil))) (eFn dListA (aCons (e2 dIxA (eV 0) (eC (.int 2))) (aNil))))
noncomputable def m_node_list : List D → Store → R D := fnM 1 1 b_node_list
theorem ok_node_list (X : Fx K mg) : FnOk P w K mg base (L2.CX P w) 1 X.a_node_list X.d_node_list ["book"] (spM K mg 1 m_node_list) :=
  okM (k := 0) X.F_node_list sc_node_list rfl fun cdv A outer s H E hr tk =>
    (css_one (cs_ret (ce_op op_addA ops_add (ce_lst (ca_cons (ce_str) (ca_nil))) (ce_callTy (call_listA rfl) fns_listA (by rfl) X.b_list (by decide +kernel) (ca_cons (ce_ix (ix_any hr.units) ops_ixA (ce_v 0) (ce_int) (fun _ _ => rfl)) (ca_nil))))) :
      PSs _ _ (Ts _ _ _ b_node_list))
noncomputable def bl_step_list_1 : MS := sSeq (sSet 10 (e2 dIxA (eV 9) (eC (.int 1))))
  (sIf (tV (e2 dEq (e2 dIxA (eV 10) (eC (.int 0))) (eC (.str "gap")))) (sExpr (eMt "list" dAppend (eV 6) (aCons (eTup (aCons (e2 dIxA (eV 5) (e2 dIxA (eV 10) (eC (.int 1)))) (aCons (e2 dIxA (eV 5) (e2 dIxA (eV 10) (eC (.int 2)))) (aCons (eV 7) (aCons (e2 dIxA (eV 10) (eC (.int 3))) (aNil)))))) (aNil)))) (sSeq (sAsg (gT 2 (gsC (gN 11) (gsC (gN 12) (gsN)))) (e2 dIxA (e2 dIxA (eV 10) (eC (.int 2))) (eC (.int 0))))
  (sSeq (sExpr (eMt "list" dAppend (eV 6) (aCons (eTup (aCons (eC (.int 0)) (aCons (e2 dIxA (eV 5) (e2 dIxA (eV 10) (eC (.int 1)))) (aCons (eV 7) (aCons (eV 11) (aNil)))))) (aNil))))
  (sExpr (eMt "list" dAppend (eV 6) (aCons (eTup (aCons (e2 dIxA (eV 5) (e2 dIxA (eV 10) (eC (.int 1)))) (aCons (eC (.int 0)) (aCons (eV 7) (aCons (e1 dNeg (eV 12)) (aNil)))))) (aNil)))))))
noncomputable def bl_step_list_2 : MS := sSeq (sPut pAny (eV 5) (eV 8) (e2 dAdd (eV 7) (eC (.int 1))))
  (sSeq (sExpr (eMt "list" dAppend (eV 6) (aCons (eTup (aCons (eC (.int 0)) (aCons (e2 dAdd (eV 7) (eC (.int 1))) (aCons (e1 dNeg (eC (.int 1))) (aCons (eV 1) (aNil)))))) (aNil))))
  (sExpr (eMt "list" dAppend (eV 6) (aCons (eTup (aCons (e2 dAdd (eV 7) (eC (.int 1))) (aCons (eC (.int 0)) (aCons (e1 dNeg (eC (.int 1))) (aCons (e1 dNeg (eV 2)) (aNil)))))) (aNil)))))
noncomputable def b_step_list : MS := sSeq (sAsg (gT 4 (gsC (gN 1) (gsC (gN 2) (gsC (gN 3) (gsC (gN 4) (gsN)))))) (eV 0))
  (sSeq (sSet 5 (eDict0))
  (sSeq (sSet 6 (eLst (aNil)))
  (sSeq (sFor (iEnm (aCons (eV 3) (aNil))) (gT 2 (gsC (gN 7) (gsC (gN 8) (gsN)))) (bl_step_list_2))
  (sSeq (sFor (iEnm (aCons (eV 4) (aNil))) (gT 2 (gsC (gN 7) (gsC (gN 9) (gsN)))) (bl_step_list_1))
  (sRet (eV 6))))))
noncomputable def m_step_list : List D → Store → R D := fnM 13 1 b_step_list
theorem ok_step_list (X : Fx K mg) : FnOk P w K mg base (L2.CX P w) 1 X.a_step_list X.d_step_list ["book"] (spM K mg 1 m_step_list) :=
  okM (k := 0) X.F_step_list sc_step_list rfl fun cdv A outer s H E hr tk =>
    (css_cons (cs_asg (ce_v 0) (cg_tup (n := 4) rfl (cgs_cons (us := [1, 2, 3, 4]) (cg_name (i := 1) sc_step_list.nd rfl (by first | exact Or.inl rfl | exact Or.inr rfl)) (cgs_cons (us := [2, 3, 4]) (cg_name (i := 2) sc_step_list.nd rfl (by first | exact Or.inl rfl | exact Or.inr rfl)) (cgs_cons (us := [3, 4]) (cg_name (i := 3) sc_step_list.nd rfl (by first | exact Or.inl rfl | exact Or.inr rfl)) (cgs_cons (us := [4]) (cg_name (i := 4) sc_step_list.nd rfl (by first | exact Or.inl rfl | exact Or.inr rfl)) (cgs_nil (vs := []))))))))
    (css_cons (cs_set (j := 5) sc_step_list.nd rfl (Or.inl rfl) (ce_dict0))
    (css_cons (cs_set (j := 6) sc_step_list.nd rfl (Or.inl rfl) (ce_lst (ca_nil)))
    (css_cons (cs_for (passes_of rfl) rfl (ci_enum (by rfl) X.b_enumerate (ca_cons (ce_v 3) (ca_nil))) (cg_tup (n := 2) rfl (cgs_cons (us := [7, 8]) (cg_name (i := 7) sc_step_list.nd rfl (by first | exact Or.inl rfl | exact Or.inr rfl)) (cgs_cons (us := [8]) (cg_name (i := 8) sc_step_list.nd rfl (by first | exact Or.inl rfl | exact Or.inr rfl)) (cgs_nil (vs := []))))) (css_cons (cs_put (ce_op op_addA ops_add (ce_v 7) (ce_int)) (ce_v 5) (ce_v 8) (set_any hr.units) puts_any)
    (css_cons (cs_expr (ce_bm PySem.F.plainAttrs_list PySem.F.slot_list_append PySem.F.type_list_append mt_append mts_append (ce_v 6) (ca_cons (ce_tup (ca_cons (ce_int) (ca_cons (ce_op op_addA ops_add (ce_v 7) (ce_int)) (ca_cons (ce_un un_neg uns_neg (ce_int)) (ca_cons (ce_v 1) (ca_nil)))))) (ca_nil))))
    (css_one (cs_expr (ce_bm PySem.F.plainAttrs_list PySem.F.slot_list_append PySem.F.type_list_append mt_append mts_append (ce_v 6) (ca_cons (ce_tup (ca_cons (ce_op op_addA ops_add (ce_v 7) (ce_int)) (ca_cons (ce_int) (ca_cons (ce_un un_neg uns_neg (ce_int)) (ca_cons (ce_un un_neg uns_neg (ce_v 2)) (ca_nil)))))) (ca_nil))))))))
    (css_cons (cs_for (passes_of rfl) rfl (ci_enum (by rfl) X.b_enumerate (ca_cons (ce_v 4) (ca_nil))) (cg_tup (n := 2) rfl (cgs_cons (us := [7, 9]) (cg_name (i := 7) sc_step_list.nd rfl (by first | exact Or.inl rfl | exact Or.inr rfl)) (cgs_cons (us := [9]) (cg_name (i := 9) sc_step_list.nd rfl (by first | exact Or.inl rfl | exact Or.inr rfl)) (cgs_nil (vs := []))))) (css_cons (cs_set (j := 10) sc_step_list.nd rfl (Or.inl rfl) (ce_ix (ix_any hr.units) ops_ixA (ce_v 9) (ce_int) (fun _ _ => rfl)))
    (css_one (cs_if (ct_cmp (opA_eq hr.units) ops_eq (ce_ix (ix_any hr.units) ops_ixA (ce_v 10) (ce_int) (fun _ _ => rfl)) (ce_str) (nomark _)) (css_one (cs_expr (ce_bm PySem.F.plainAttrs_list PySem.F.slot_list_append PySem.F.type_list_append mt_append mts_append (ce_v 6) (ca_cons (ce_tup (ca_cons (ce_ix (ix_any hr.units) ops_ixA (ce_v 5) (ce_ix (ix_any hr.units) ops_ixA (ce_v 10) (ce_int) (fun _ _ => rfl)) (fun _ _ => rfl)) (ca_cons (ce_ix (ix_any hr.units) ops_ixA (ce_v 5) (ce_ix (ix_any hr.units) ops_ixA (ce_v 10) (ce_int) (fun _ _ => rfl)) (fun _ _ => rfl)) (ca_cons (ce_v 7) (ca_cons (ce_ix (ix_any hr.units) ops_ixA (ce_v 10) (ce_int) (fun _ _ => rfl)) (ca_nil)))))) (ca_nil))))) (css_cons (cs_asg (ce_ix (ix_any hr.units) ops_ixA (ce_ix (ix_any hr.units) ops_ixA (ce_v 10) (ce_int) (fun _ _ => rfl)) (ce_int) (fun _ _ => rfl)) (cg_tup (n := 2) rfl (cgs_cons (us := [11, 12]) (cg_name (i := 11) sc_step_list.nd rfl (by first | exact Or.inl rfl | exact Or.inr rfl)) (cgs_cons (us := [12]) (cg_name (i := 12) sc_step_list.nd rfl (by first | exact Or.inl rfl | exact Or.inr rfl)) (cgs_nil (vs := []))))))
    (css_cons (cs_expr (ce_bm PySem.F.plainAttrs_list PySem.F.slot_list_append PySem.F.type_list_append mt_append mts_append (ce_v 6) (ca_cons (ce_tup (ca_cons (ce_int) (ca_cons (ce_ix (ix_any hr.units) ops_ixA (ce_v 5) (ce_ix (ix_any hr.units) ops_ixA (ce_v 10) (ce_int) (fun _ _ => rfl)) (fun _ _ => rfl)) (ca_cons (ce_v 7) (ca_cons (ce_v 11) (ca_nil)))))) (ca_nil))))
    (css_one (cs_expr (ce_bm PySem.F.plainAttrs_list PySem.F.slot_list_append PySem.F.type_list_append mt_append mts_append (ce_v 6) (ca_cons (ce_tup (ca_cons (ce_ix (ix_any hr.units) ops_ixA (ce_v 5) (ce_ix (ix_any hr.units) ops_ixA (ce_v 10) (ce_int) (fun _ _ => rfl)) (fun _ _ => rfl)) (ca_cons (ce_int) (ca_cons (ce_v 7) (ca_cons (ce_un un_neg uns_neg (ce_v 12)) (ca_nil)))))) (ca_nil)))))))))))
    (css_one (cs_ret (ce_v 6))))))) :
      PSs _ _ (Ts _ _ _ b_step_list))
noncomputable def b_is_integer : MS := sRet (eAnd (e1 (dIsi "int") (eV 0)) (eNot (e1 (dIsi "bool") (eV 0))))
noncomputable def m_is_integer : List D → Store → R D := fnM 1 1 b_is_integer
theorem ok_is_integer (X : Fx K mg) : FnOk P w K mg base (L2.CX P w) 1 X.a_is_integer X.d_is_integer ["thing"] (spM K mg 1 m_is_integer) :=
  okM (k := 0) X.F_is_integer sc_is_integer rfl fun cdv A outer s H E hr tk =>
    (css_one (cs_ret (ce_and (ce_isi (T := "int") (by rfl) X.b_isinstance (by rfl) X.b_int (by decide +kernel) (ce_v 0)) (ce_one (ce_not (ce_isi (T := "bool") (by rfl) X.b_isinstance (by rfl) X.b_bool (by decide +kernel) (ce_v 0)))))) :
      PSs _ _ (Ts _ _ _ b_is_integer))
noncomputable def le_d_law_pool_1 : ME D := eFn dInt (aCons (eV 2) (aNil))
noncomputable def b_d_law_pool : MS := sSeq (sSet 1 (eLc (iSeq (eV 0)) [2] (gN 2) (tT) (le_d_law_pool_1)))
  (sSeq (sIf (tV (e2 dEq (eV 1) (eLst (aNil)))) (sSet 1 (eLst (aCons (eC (.int 95)) (aNil)))) (sNil))
  (sRet (eLst (aCons (eV 1) (aCons (eC (.int 0)) (aNil))))))
noncomputable def m_d_law_pool : List D → Store → R D := fnM 3 1 b_d_law_pool
theorem ok_d_law_pool (X : Fx K mg) : FnOk P w K mg base (L2.CX P w) 1 X.a_d_law_pool X.d_d_law_pool ["script"] (spM K mg 1 m_d_law_pool) :=
  okM (k := 0) X.F_d_law_pool sc_d_law_pool rfl fun cdv A outer s H E hr tk =>
    (css_cons (cs_setLc (i := 1) (own := [("cell", 2)]) rfl sc_d_law_pool.nd rfl rfl (sw_true rfl rfl rfl (by decide +kernel)) (ci_seq (ce_v 0)) (blkOk_by (N := ["script", "cells", "cell"]) (sc := defScope s_d_law_pool) (by decide +kernel)) (fun _ _ _ _ _ => cg_name (i := 2) sc_d_law_pool.nd rfl (by first | exact Or.inl rfl | exact Or.inr rfl)) (fun _ _ _ _ _ => cts_nil) (fun _ _ _ _ _ => ce_callTy call_int1 fns_int (by rfl) X.b_int (by decide +kernel) (ca_cons (ce_v 2) (ca_nil))))
    (css_cons (cs_if (ct_cmp (opA_eq hr.units) ops_eq (ce_v 1) (ce_lst (ca_nil)) (nomark _)) (css_one (cs_set (j := 1) sc_d_law_pool.nd rfl (Or.inl rfl) (ce_lst (ca_cons (ce_int) (ca_nil))))) (css_nil))
    (css_one (cs_ret (ce_lst (ca_cons (ce_v 1) (ca_cons (ce_int) (ca_nil))))))) :
      PSs _ _ (Ts _ _ _ b_d_law_pool))
noncomputable def b_d_law_draw : MS := sSeq (sSet 2 (e2 dIxA (eV 0) (eC (.int 0))))
  (sSeq (sSet 3 (e2 dIxA (eV 0) (eC (.int 1))))
  (sSeq (sPut pAny (eV 0) (eC (.int 1)) (e2 dAdd (eV 3) (eC (.int 1))))
  (sSeq (sSet 4 (e2 dMod (eV 3) (eFn dLen (aCons (eV 2) (aNil)))))
  (sSeq (sSet 5 (e2 dIxA (eV 2) (eV 4)))
  (sSeq (sIf (tV (e2 dGe (eV 5) (eC (.int 1000000000000000000)))) (sSeq (sPut pAny (eV 2) (eV 4) (e2 dDiv (eV 5) (eV 1)))
  (sRet (e2 dMod (eFn dInt (aCons (eV 5) (aNil))) (eV 1)))) (sNil))
  (sSeq (sSet 6 (e2 dMod (eFn dInt (aCons (e2 dAdd (e2 dAdd (e2 dMul (eV 5) (eC (.int 44027))) (e2 dMul (eV 3) (eC (.int 5881)))) (eC (.int 59))) (aNil))) (eC (.int 1000099))))
  (sSeq (sSet 7 (e2 dMod (eFn dInt (aCons (e2 dAdd (e2 dAdd (e2 dMul (eV 6) (eV 6)) (e2 dMul (eV 6) (eC (.int 3889)))) (e2 dMul (eV 3) (eC (.int 71)))) (aNil))) (eC (.int 999931))))
  (sRet (e2 dMod (eV 7) (eV 1))))))))))
noncomputable def m_d_law_draw : List D → Store → R D := fnM 8 2 b_d_law_draw
theorem ok_d_law_draw (X : Fx K mg) : FnOk P w K mg base (L2.CX P w) 1 X.a_d_law_draw X.d_d_law_draw ["pool", "many"] (spM K mg 2 m_d_law_draw) :=
  okM (k := 0) X.F_d_law_draw sc_d_law_draw rfl fun cdv A outer s H E hr tk =>
    (css_cons (cs_set (j := 2) sc_d_law_draw.nd rfl (Or.inl rfl) (ce_ix (ix_any hr.units) ops_ixA (ce_v 0) (ce_int) (fun _ _ => rfl)))
    (css_cons (cs_set (j := 3) sc_d_law_draw.nd rfl (Or.inl rfl) (ce_ix (ix_any hr.units) ops_ixA (ce_v 0) (ce_int) (fun _ _ => rfl)))
    (css_cons (cs_put (ce_op op_addA ops_add (ce_v 3) (ce_int)) (ce_v 0) (ce_int) (set_any hr.units) puts_any)
    (css_cons (cs_set (j := 4) sc_d_law_draw.nd rfl (Or.inl rfl) (ce_op op_mod ops_mod (ce_v 3) (ce_callB call_len fns_len (by rfl) X.b_len (by decide +kernel) (ca_cons (ce_v 2) (ca_nil)))))
    (css_cons (cs_set (j := 5) sc_d_law_draw.nd rfl (Or.inl rfl) (ce_ix (ix_any hr.units) ops_ixA (ce_v 2) (ce_v 4) (fun _ _ => rfl)))
    (css_cons (cs_if (ct_cmp opA_ge ops_ge (ce_v 5) (ce_int) (nomark _)) (css_cons (cs_put (ce_op op_fdiv ops_div (ce_v 5) (ce_v 1)) (ce_v 2) (ce_v 4) (set_any hr.units) puts_any)
    (css_one (cs_ret (ce_op op_mod ops_mod (ce_callTy call_int1 fns_int (by rfl) X.b_int (by decide +kernel) (ca_cons (ce_v 5) (ca_nil))) (ce_v 1))))) (css_nil))
    (css_cons (cs_set (j := 6) sc_d_law_draw.nd rfl (Or.inl rfl) (ce_op op_mod ops_mod (ce_callTy call_int1 fns_int (by rfl) X.b_int (by decide +kernel) (ca_cons (ce_op op_addA ops_add (ce_op op_addA ops_add (ce_op op_mul ops_mul (ce_v 5) (ce_int)) (ce_op op_mul ops_mul (ce_v 3) (ce_int))) (ce_int)) (ca_nil))) (ce_int)))
    (css_cons (cs_set (j := 7) sc_d_law_draw.nd rfl (Or.inl rfl) (ce_op op_mod ops_mod (ce_callTy call_int1 fns_int (by rfl) X.b_int (by decide +kernel) (ca_cons (ce_op op_addA ops_add (ce_op op_addA ops_add (ce_op op_mul ops_mul (ce_v 6) (ce_v 6)) (ce_op op_mul ops_mul (ce_v 6) (ce_int))) (ce_op op_mul ops_mul (ce_v 3) (ce_int))) (ca_nil))) (ce_int)))
    (css_one (cs_ret (ce_op op_mod ops_mod (ce_v 7) (ce_v 1))))))))))) :
      PSs _ _ (Ts _ _ _ b_d_law_draw))
noncomputable def bl_d_law_table_1 : MS := sSeq (sSet 4 (e2 dIxA (e2 dIxA (e2 dIxA (eV 0) (eC (.int 3))) (eV 3)) (eC (.int 1))))
  (sIf (tV (e2 dEq (e2 dIxA (eV 4) (eC (.int 0))) (eC (.str "gap")))) (sPut pAny (eV 1) (eTup (aCons (e2 dIxA (eV 4) (eC (.int 1))) (aCons (e2 dIxA (eV 4) (eC (.int 2))) (aCons (eV 3) (aNil))))) (e2 dIxA (eV 4) (eC (.int 3)))) (sSeq (sPut pAny (eV 1) (eTup (aCons (eC (.str "")) (aCons (e2 dIxA (eV 4) (eC (.int 1))) (aCons (eV 3) (aNil))))) (e2 dIxA (e2 dIxA (e2 dIxA (eV 4) (eC (.int 2))) (eC (.int 0))) (eC (.int 0))))
  (sPut pAny (eV 1) (eTup (aCons (e2 dIxA (eV 4) (eC (.int 1))) (aCons (eC (.str "")) (aCons (eV 3) (aNil))))) (e2 dSub (eC (.int 0)) (e2 dIxA (e2 dIxA (e2 dIxA (eV 4) (eC (.int 2))) (eC (.int 0))) (eC (.int 1)))))))
noncomputable def bl_d_law_table_2 : MS := sSeq (sPut pAny (eV 1) (eTup (aCons (eC (.str "")) (aCons (eV 2) (aCons (e1 dNeg (eC (.int 1))) (aNil))))) (e2 dIxA (eV 0) (eC (.int 0))))
  (sPut pAny (eV 1) (eTup (aCons (eV 2) (aCons (eC (.str "")) (aCons (e1 dNeg (eC (.int 1))) (aNil))))) (e2 dSub (eC (.int 0)) (e2 dIxA (eV 0) (eC (.int 1)))))
noncomputable def b_d_law_table : MS := sSeq (sSet 1 (eDict0T))
  (sSeq (sFor (iSeq (e2 dIxA (eV 0) (eC (.int 2)))) (gN 2) (bl_d_law_table_2))
  (sSeq (sFor (iRange1 (aCons (eFn dLen (aCons (e2 dIxA (eV 0) (eC (.int 3))) (aNil))) (aNil))) (gN 3) (bl_d_law_table_1))
  (sRet (eV 1))))
noncomputable def m_d_law_table : List D → Store → R D := fnM 5 1 b_d_law_table
theorem ok_d_law_table (X : Fx K mg) : FnOk P w K mg base (L2.CX P w) 1 X.a_d_law_table X.d_d_law_table ["book"] (spM K mg 1 m_d_law_table) :=
  okM (k := 0) X.F_d_law_table sc_d_law_table rfl fun cdv A outer s H E hr tk =>
    (css_cons (cs_set (j := 1) sc_d_law_table.nd rfl (Or.inl rfl) (ce_dict0T))
    (css_cons (cs_for (passes_of rfl) rfl (ci_seq (ce_ix (ix_any hr.units) ops_ixA (ce_v 0) (ce_int) (fun _ _ => rfl))) (cg_name (i := 2) sc_d_law_table.nd rfl (by first | exact Or.inl rfl | exact Or.inr rfl)) (css_cons (cs_put (ce_ix (ix_any hr.units) ops_ixA (ce_v 0) (ce_int) (fun _ _ => rfl)) (ce_v 1) (ce_tup (ca_cons (ce_str) (ca_cons (ce_v 2) (ca_cons (ce_un un_neg uns_neg (ce_int)) (ca_nil))))) (set_any hr.units) puts_any)
    (css_one (cs_put (ce_op op_sub ops_sub (ce_int) (ce_ix (ix_any hr.units) ops_ixA (ce_v 0) (ce_int) (fun _ _ => rfl))) (ce_v 1) (ce_tup (ca_cons (ce_v 2) (ca_cons (ce_str) (ca_cons (ce_un un_neg uns_neg (ce_int)) (ca_nil))))) (set_any hr.units) puts_any))))
    (css_cons (cs_for (passes_of rfl) rfl (ci_range1 (by rfl) X.b_range (ca_cons (ce_callB call_len fns_len (by rfl) X.b_len (by decide +kernel) (ca_cons (ce_ix (ix_any hr.units) ops_ixA (ce_v 0) (ce_int) (fun _ _ => rfl)) (ca_nil))) (ca_nil))) (cg_name (i := 3) sc_d_law_table.nd rfl (by first | exact Or.inl rfl | exact Or.inr rfl)) (css_cons (cs_set (j := 4) sc_d_law_table.nd rfl (Or.inl rfl) (ce_ix (ix_any hr.units) ops_ixA (ce_ix (ix_any hr.units) ops_ixA (ce_ix (ix_any hr.units) ops_ixA (ce_v 0) (ce_int) (fun _ _ => rfl)) (ce_v 3) (fun _ _ => rfl)) (ce_int) (fun _ _ => rfl)))
    (css_one (cs_if (ct_cmp (opA_eq hr.units) ops_eq (ce_ix (ix_any hr.units) ops_ixA (ce_v 4) (ce_int) (fun _ _ => rfl)) (ce_str) (nomark _)) (css_one (cs_put (ce_ix (ix_any hr.units) ops_ixA (ce_v 4) (ce_int) (fun _ _ => rfl)) (ce_v 1) (ce_tup (ca_cons (ce_ix (ix_any hr.units) ops_ixA (ce_v 4) (ce_int) (fun _ _ => rfl)) (ca_cons (ce_ix (ix_any hr.units) ops_ixA (ce_v 4) (ce_int) (fun _ _ => rfl)) (ca_cons (ce_v 3) (ca_nil))))) (set_any hr.units) puts_any)) (css_cons (cs_put (ce_ix (ix_any hr.units) ops_ixA (ce_ix (ix_any hr.units) ops_ixA (ce_ix (ix_any hr.units) ops_ixA (ce_v 4) (ce_int) (fun _ _ => rfl)) (ce_int) (fun _ _ => rfl)) (ce_int) (fun _ _ => rfl)) (ce_v 1) (ce_tup (ca_cons (ce_str) (ca_cons (ce_ix (ix_any hr.units) ops_ixA (ce_v 4) (ce_int) (fun _ _ => rfl)) (ca_cons (ce_v 3) (ca_nil))))) (set_any hr.units) puts_any)
    (css_one (cs_put (ce_op op_sub ops_sub (ce_int) (ce_ix (ix_any hr.units) ops_ixA (ce_ix (ix_any hr.units) ops_ixA (ce_ix (ix_any hr.units) ops_ixA (ce_v 4) (ce_int) (fun _ _ => rfl)) (ce_int) (fun _ _ => rfl)) (ce_int) (fun _ _ => rfl))) (ce_v 1) (ce_tup (ca_cons (ce_ix (ix_any hr.units) ops_ixA (ce_v 4) (ce_int) (fun _ _ => rfl)) (ca_cons (ce_str) (ca_cons (ce_v 3) (ca_nil))))) (set_any hr.units) puts_any)))))))
    (css_one (cs_ret (ce_v 1))))) :
      PSs _ _ (Ts _ _ _ b_d_law_table))
noncomputable def bl_d_law_is_1 : MS := sSeq (sIf (tOr (tNot (tTru (e1 (dIsi "tuple") (eV 7)))) (tV (e2 dNe (eFn dLen (aCons (eV 7) (aNil))) (eC (.int 3))))) (sRet (eC (.bl false))) (sNil))
  (sSeq (sIf (tOr (tNot (tTru (e1 (dIsi "str") (e2 dIxA (eV 7) (eC (.int 0)))))) (tOr (tNot (tTru (e1 (dIsi "str") (e2 dIxA (eV 7) (eC (.int 1)))))) (tV (e2 dNe (e2 dIxA (eV 7) (eC (.int 0))) (eV 5))))) (sRet (eC (.bl false))) (sNil))
  (sSeq (sIf (tOr (tNot (tTru (e1 (dIsi "int") (e2 dIxA (eV 7) (eC (.int 2)))))) (tOr (tTru (e1 (dIsi "bool") (e2 dIxA (eV 7) (eC (.int 2))))) (tV (e2 dNotIn (eV 7) (eV 0))))) (sRet (eC (.bl false))) (sNil))
  (sSeq (sSet 6 (e2 dAdd (eV 6) (e2 dIxA (eV 0) (eV 7))))
  (sSet 5 (e2 dIxA (eV 7) (eC (.int 1)))))))
noncomputable def b_d_law_is : MS := sSeq (sIf (tNot (tTru (e1 (dIsi "tuple") (eV 4)))) (sRet (eC (.bl false))) (sNil))
  (sSeq (sSet 5 (eV 1))
  (sSeq (sSet 6 (eC (.int 0)))
  (sSeq (sFor (iSeq (eV 4)) (gN 7) (bl_d_law_is_1))
  (sRet (eAnd (e2 dEq (eV 5) (eV 2)) (e2 dGe (eV 6) (eV 3)))))))
noncomputable def m_d_law_is : List D → Store → R D := fnM 8 5 b_d_law_is
theorem ok_d_law_is (X : Fx K mg) : FnOk P w K mg base (L2.CX P w) 1 X.a_d_law_is X.d_d_law_is ["table", "start", "end", "least", "thing"] (spM K mg 5 m_d_law_is) :=
  okM (k := 0) X.F_d_law_is sc_d_law_is rfl fun cdv A outer s H E hr tk =>
    (css_cons (cs_if (ct_not (ct_tru (ce_isi (T := "tuple") (by rfl) X.b_isinstance (by rfl) X.b_tuple (by decide +kernel) (ce_v 4)))) (css_one (cs_ret (ce_bl))) (css_nil))
    (css_cons (cs_set (j := 5) sc_d_law_is.nd rfl (Or.inl rfl) (ce_v 1))
    (css_cons (cs_set (j := 6) sc_d_law_is.nd rfl (Or.inl rfl) (ce_int))
    (css_cons (cs_for (passes_of rfl) rfl (ci_seq (ce_v 4)) (cg_name (i := 7) sc_d_law_is.nd rfl (by first | exact Or.inl rfl | exact Or.inr rfl)) (css_cons (cs_if (PW.pt (cw_or (ct_not (ct_tru (ce_isi (T := "tuple") (by rfl) X.b_isinstance (by rfl) X.b_tuple (by decide +kernel) (ce_v 7)))) (cw_or1 (ct_cmp (opA_ne hr.units) ops_ne (ce_callB call_len fns_len (by rfl) X.b_len (by decide +kernel) (ca_cons (ce_v 7) (ca_nil))) (ce_int) (nomark _))))) (css_one (cs_ret (ce_bl))) (css_nil))
    (css_cons (cs_if (PW.pt (cw_or (ct_not (ct_tru (ce_isi (T := "str") (by rfl) X.b_isinstance (by rfl) X.b_str (by decide +kernel) (ce_ix (ix_any hr.units) ops_ixA (ce_v 7) (ce_int) (fun _ _ => rfl))))) (cw_or (ct_not (ct_tru (ce_isi (T := "str") (by rfl) X.b_isinstance (by rfl) X.b_str (by decide +kernel) (ce_ix (ix_any hr.units) ops_ixA (ce_v 7) (ce_int) (fun _ _ => rfl))))) (cw_or1 (ct_cmp (opA_ne hr.units) ops_ne (ce_ix (ix_any hr.units) ops_ixA (ce_v 7) (ce_int) (fun _ _ => rfl)) (ce_v 5) (nomark _)))))) (css_one (cs_ret (ce_bl))) (css_nil))
    (css_cons (cs_if (PW.pt (cw_or (ct_not (ct_tru (ce_isi (T := "int") (by rfl) X.b_isinstance (by rfl) X.b_int (by decide +kernel) (ce_ix (ix_any hr.units) ops_ixA (ce_v 7) (ce_int) (fun _ _ => rfl))))) (cw_or (ct_tru (ce_isi (T := "bool") (by rfl) X.b_isinstance (by rfl) X.b_bool (by decide +kernel) (ce_ix (ix_any hr.units) ops_ixA (ce_v 7) (ce_int) (fun _ _ => rfl)))) (cw_or1 (ct_cmp (opA_notin (un65 hr)) ops_notin (ce_v 7) (ce_v 0) (by with_unfolding_all rfl)))))) (css_one (cs_ret (ce_bl))) (css_nil))
    (css_cons (cs_set (j := 6) sc_d_law_is.nd rfl (Or.inl rfl) (ce_op op_addA ops_add (ce_v 6) (ce_ix (ix_any hr.units) ops_ixA (ce_v 0) (ce_v 7) (fun _ _ => rfl))))
    (css_one (cs_set (j := 5) sc_d_law_is.nd rfl (Or.inl rfl) (ce_ix (ix_any hr.units) ops_ixA (ce_v 7) (ce_int) (fun _ _ => rfl)))))))))
    (css_one (cs_ret (ce_and (ce_cmp (opA_eq hr.units) ops_eq (ce_v 5) (ce_v 2) (nomark _)) (ce_one (ce_cmp opA_ge ops_ge (ce_v 6) (ce_v 3) (nomark _))))))))) :
      PSs _ _ (Ts _ _ _ b_d_law_is))
noncomputable def bl_d_law_total_1 : MS := sSet 2 (e2 dAdd (eV 2) (e2 dIxA (eV 0) (eV 3)))
noncomputable def b_d_law_total : MS := sSeq (sSet 2 (eC (.int 0)))
  (sSeq (sFor (iSeq (eV 1)) (gN 3) (bl_d_law_total_1))
  (sRet (eV 2)))
noncomputable def m_d_law_total : List D → Store → R D := fnM 4 2 b_d_law_total
theorem ok_d_law_total (X : Fx K mg) : FnOk P w K mg base (L2.CX P w) 1 X.a_d_law_total X.d_d_law_total ["table", "walk"] (spM K mg 2 m_d_law_total) :=
  okM (k := 0) X.F_d_law_total sc_d_law_total rfl fun cdv A outer s H E hr tk =>
    (css_cons (cs_set (j := 2) sc_d_law_total.nd rfl (Or.inl rfl) (ce_int))
    (css_cons (cs_for (passes_of rfl) rfl (ci_seq (ce_v 1)) (cg_name (i := 3) sc_d_law_total.nd rfl (by first | exact Or.inl rfl | exact Or.inr rfl)) (css_one (cs_set (j := 2) sc_d_law_total.nd rfl (Or.inl rfl) (ce_op op_addA ops_add (ce_v 2) (ce_ix (ix_any hr.units) ops_ixA (ce_v 0) (ce_v 3) (fun _ _ => rfl))))))
    (css_one (cs_ret (ce_v 2)))) :
      PSs _ _ (Ts _ _ _ b_d_law_total))
noncomputable def b_d_law_told : MS := sRet (eAnd (e1 (dIsi "bool") (eV 0)) (e2 dEq (eV 0) (eV 1)))
noncomputable def m_d_law_told : List D → Store → R D := fnM 2 2 b_d_law_told
theorem ok_d_law_told (X : Fx K mg) : FnOk P w K mg base (L2.CX P w) 1 X.a_d_law_told X.d_d_law_told ["told", "due"] (spM K mg 2 m_d_law_told) :=
  okM (k := 0) X.F_d_law_told sc_d_law_told rfl fun cdv A outer s H E hr tk =>
    (css_one (cs_ret (ce_and (ce_isi (T := "bool") (by rfl) X.b_isinstance (by rfl) X.b_bool (by decide +kernel) (ce_v 0)) (ce_one (ce_cmp (opA_eq hr.units) ops_eq (ce_v 0) (ce_v 1) (nomark _))))) :
      PSs _ _ (Ts _ _ _ b_d_law_told))
noncomputable def b_d_law_put : MS := sRet (e2 dAdd (e2 dAdd (eSl dSl (eV 0) (oNone) (oSome (eV 1))) (eTup (aCons (eV 2) (aNil)))) (eSl dSl (eV 0) (oSome (e2 dAdd (eV 1) (eC (.int 1)))) (oNone)))
noncomputable def m_d_law_put : List D → Store → R D := fnM 3 3 b_d_law_put
theorem ok_d_law_put (X : Fx K mg) : FnOk P w K mg base (L2.CX P w) 1 X.a_d_law_put X.d_d_law_put ["row", "at", "thing"] (spM K mg 3 m_d_law_put) :=
  okM (k := 0) X.F_d_law_put sc_d_law_put rfl fun cdv A outer s H E hr tk =>
    (css_one (cs_ret (ce_op op_addA ops_add (ce_op op_addA ops_add (ce_sl sl_LT sls_LT (ce_v 0) (co_none) (co_some (ce_v 1))) (ce_tup (ca_cons (ce_v 2) (ca_nil)))) (ce_sl sl_LT sls_LT (ce_v 0) (co_some (ce_op op_addA ops_add (ce_v 1) (ce_int))) (co_none)))) :
      PSs _ _ (Ts _ _ _ b_d_law_put))
noncomputable def le_is_plain_1 : ME D := eCall m_plain_record (aCons (eV 2) (aNil))
noncomputable def b_is_plain : MS := sRet (eFn dAll (aCons (eLc (iSeq (e2 dIxA (eV 0) (eC (.int 3)))) [1, 2] (gT 2 (gsC (gN 1) (gsC (gN 2) (gsN)))) (tT) (le_is_plain_1)) (aNil)))
noncomputable def m_is_plain : List D → Store → R D := fnM 3 1 b_is_plain
theorem ok_is_plain (X : Fx K mg) : FnOk P w K mg base (L2.CX P w) 2 X.a_is_plain X.d_is_plain ["book"] (spM K mg 1 m_is_plain) :=
  okM (k := 1) X.F_is_plain sc_is_plain rfl fun cdv A outer s H E hr tk =>
    (css_one (cs_ret (ce_callB (cr_all rfl) fns_all (by rfl) X.b_all (by decide +kernel) (ca_cons (ce_lc (own := [("_", 1), ("record", 2)]) rfl sc_is_plain.nd (ci_seq (ce_ix (ix_any hr.units) ops_ixA (ce_v 0) (ce_int) (fun _ _ => rfl))) (blkOk_by (N := ["book", "_", "record"]) (sc := defScope s_is_plain) (by decide +kernel)) (fun _ _ _ _ _ => cg_tup (n := 2) rfl (cgs_cons (us := [1, 2]) (cg_name (i := 1) sc_is_plain.nd rfl (by first | exact Or.inl rfl | exact Or.inr rfl)) (cgs_cons (us := [2]) (cg_name (i := 2) sc_is_plain.nd rfl (by first | exact Or.inl rfl | exact Or.inr rfl)) (cgs_nil (vs := []))))) (fun _ _ _ _ _ => cts_nil) (fun _ _ _ _ _ => ce_call (n := 1) (ok_plain_record X) (hr.mono (by decide)) takes0 (by rfl) X.g_plain_record X.F_plain_record.kp (bd_plain_record X) (an_cons an_nil) (ca_cons (ce_v 2) (ca_nil)))) (ca_nil)))) :
      PSs _ _ (Ts _ _ _ b_is_plain))
noncomputable def bl_weight_table_1 : MS := sPut pAny (eV 2) (eTup (aCons (e2 dIxA (eV 1) (eV 3)) (aCons (e2 dIxA (eV 1) (eV 4)) (aCons (eV 5) (aNil))))) (eV 6)
noncomputable def b_weight_table : MS := sSeq (sSet 1 (eCall m_node_list (aCons (eV 0) (aNil))))
  (sSeq (sSet 2 (eDict0T))
  (sSeq (sFor (iSeq (eCall m_step_list (aCons (eV 0) (aNil)))) (gT 4 (gsC (gN 3) (gsC (gN 4) (gsC (gN 5) (gsC (gN 6) (gsN)))))) (bl_weight_table_1))
  (sRet (eV 2))))
noncomputable def m_weight_table : List D → Store → R D := fnM 7 1 b_weight_table
theorem ok_weight_table (X : Fx K mg) : FnOk P w K mg base (L2.CX P w) 2 X.a_weight_table X.d_weight_table ["book"] (spM K mg 1 m_weight_table) :=
  okM (k := 1) X.F_weight_table sc_weight_table rfl fun cdv A outer s H E hr tk =>
    (css_cons (cs_set (j := 1) sc_weight_table.nd rfl (Or.inl rfl) (ce_call (n := 1) (ok_node_list X) (hr.mono (by decide)) tk (by rfl) X.g_node_list X.F_node_list.kp (bd_node_list X) (an_cons an_nil) (ca_cons (ce_v 0) (ca_nil))))
    (css_cons (cs_set (j := 2) sc_weight_table.nd rfl (Or.inl rfl) (ce_dict0T))
    (css_cons (cs_for (passes_of rfl) rfl (ci_seq (ce_call (n := 1) (ok_step_list X) (hr.mono (by decide)) tk (by rfl) X.g_step_list X.F_step_list.kp (bd_step_list X) (an_cons an_nil) (ca_cons (ce_v 0) (ca_nil)))) (cg_tup (n := 4) rfl (cgs_cons (us := [3, 4, 5, 6]) (cg_name (i := 3) sc_weight_table.nd rfl (by first | exact Or.inl rfl | exact Or.inr rfl)) (cgs_cons (us := [4, 5, 6]) (cg_name (i := 4) sc_weight_table.nd rfl (by first | exact Or.inl rfl | exact Or.inr rfl)) (cgs_cons (us := [5, 6]) (cg_name (i := 5) sc_weight_table.nd rfl (by first | exact Or.inl rfl | exact Or.inr rfl)) (cgs_cons (us := [6]) (cg_name (i := 6) sc_weight_table.nd rfl (by first | exact Or.inl rfl | exact Or.inr rfl)) (cgs_nil (vs := []))))))) (css_one (cs_put (ce_v 6) (ce_v 2) (ce_tup (ca_cons (ce_ix (ix_any hr.units) ops_ixA (ce_v 1) (ce_v 3) (fun _ _ => rfl)) (ca_cons (ce_ix (ix_any hr.units) ops_ixA (ce_v 1) (ce_v 4) (fun _ _ => rfl)) (ca_cons (ce_v 5) (ca_nil))))) (set_any hr.units) puts_any)))
    (css_one (cs_ret (ce_v 2))))) :
      PSs _ _ (Ts _ _ _ b_weight_table))
noncomputable def b_is_step : MS := sSeq (sIf (tOr (tNot (tTru (e1 (dIsi "tuple") (eV 1)))) (tV (e2 dNe (eFn dLen (aCons (eV 1) (aNil))) (eC (.int 3))))) (sRet (eC (.bl false))) (sNil))
  (sSeq (sIf (tOr (tNot (tTru (e1 (dIsi "str") (e2 dIxA (eV 1) (eC (.int 0)))))) (tOr (tNot (tTru (e1 (dIsi "str") (e2 dIxA (eV 1) (eC (.int 1)))))) (tNot (tTru (eCall m_is_integer (aCons (e2 dIxA (eV 1) (eC (.int 2))) (aNil))))))) (sRet (eC (.bl false))) (sNil))
  (sRet (e2 dIn (eV 1) (eV 0))))
noncomputable def m_is_step : List D → Store → R D := fnM 2 2 b_is_step
theorem ok_is_step (X : Fx K mg) : FnOk P w K mg base (L2.CX P w) 2 X.a_is_step X.d_is_step ["weights", "thing"] (spM K mg 2 m_is_step) :=
  okM (k := 1) X.F_is_step sc_is_step rfl fun cdv A outer s H E hr tk =>
    (css_cons (cs_if (PW.pt (cw_or (ct_not (ct_tru (ce_isi (T := "tuple") (by rfl) X.b_isinstance (by rfl) X.b_tuple (by decide +kernel) (ce_v 1)))) (cw_or1 (ct_cmp (opA_ne hr.units) ops_ne (ce_callB call_len fns_len (by rfl) X.b_len (by decide +kernel) (ca_cons (ce_v 1) (ca_nil))) (ce_int) (nomark _))))) (css_one (cs_ret (ce_bl))) (css_nil))
    (css_cons (cs_if (PW.pt (cw_or (ct_not (ct_tru (ce_isi (T := "str") (by rfl) X.b_isinstance (by rfl) X.b_str (by decide +kernel) (ce_ix (ix_any hr.units) ops_ixA (ce_v 1) (ce_int) (fun _ _ => rfl))))) (cw_or (ct_not (ct_tru (ce_isi (T := "str") (by rfl) X.b_isinstance (by rfl) X.b_str (by decide +kernel) (ce_ix (ix_any hr.units) ops_ixA (ce_v 1) (ce_int) (fun _ _ => rfl))))) (cw_or1 (ct_not (ct_tru (ce_call (n := 1) (ok_is_integer X) (hr.mono (by decide)) tk (by rfl) X.g_is_integer X.F_is_integer.kp (bd_is_integer X) (an_cons an_nil) (ca_cons (ce_ix (ix_any hr.units) ops_ixA (ce_v 1) (ce_int) (fun _ _ => rfl)) (ca_nil))))))))) (css_one (cs_ret (ce_bl))) (css_nil))
    (css_one (cs_ret (ce_cmp (opA_in (un65 hr)) ops_in (ce_v 1) (ce_v 0) (by with_unfolding_all rfl))))) :
      PSs _ _ (Ts _ _ _ b_is_step))
noncomputable def bl_d_law_deeds_1 : MS := sSeq (sSet 7 (eCall m_d_law_draw (aCons (eV 0) (aCons (eFn dLen (aCons (eV 2) (aNil))) (aNil)))))
  (sSeq (sExpr (eMt "list" dAppend (eV 5) (aCons (e2 dIxA (eV 2) (eV 7)) (aNil))))
  (sSet 2 (e2 dAdd (eSl dSl (eV 2) (oNone) (oSome (eV 7))) (eSl dSl (eV 2) (oSome (e2 dAdd (eV 7) (eC (.int 1)))) (oNone)))))
noncomputable def bl_d_law_deeds_2 : MS := sExpr (eMt "list" dAppend (eV 2) (aCons (e2 dAdd (eV 3) (eV 4)) (aNil)))
noncomputable def bl_d_law_deeds_3 : MS := sFor (iSeq (eLst (aCons (eC (.str "")) (aCons (eC (.str "0")) (aCons (eC (.str "1")) (aCons (eC (.str "5")) (aCons (eC (.str "'")) (aCons (eC (.str "0'")) (aCons (eC (.str "y")) (aCons (eC (.str "by")) (aCons (eC (.str "33")) (aNil)))))))))))) (gN 4) (bl_d_law_deeds_2)
noncomputable def b_d_law_deeds : MS := sSeq (sSet 2 (eLst (aNil)))
  (sSeq (sFor (iSeq (eLst (aCons (eC (.str "f")) (aCons (eC (.str "g")) (aCons (eC (.str "h")) (aCons (eC (.str "wa")) (aCons (eC (.str "l")) (aNil)))))))) (gN 3) (bl_d_law_deeds_3))
  (sSeq (sSet 5 (eLst (aNil)))
  (sSeq (sFor (iRange1 (aCons (eV 1) (aNil))) (gN 6) (bl_d_law_deeds_1))
  (sRet (eV 5)))))
noncomputable def m_d_law_deeds : List D → Store → R D := fnM 8 2 b_d_law_deeds
theorem ok_d_law_deeds (X : Fx K mg) : FnOk P w K mg base (L2.CX P w) 2 X.a_d_law_deeds X.d_d_law_deeds ["pool", "many"] (spM K mg 2 m_d_law_deeds) :=
  okM (k := 1) X.F_d_law_deeds sc_d_law_deeds rfl fun cdv A outer s H E hr tk =>
    (css_cons (cs_set (j := 2) sc_d_law_deeds.nd rfl (Or.inl rfl) (ce_lst (ca_nil)))
    (css_cons (cs_for (passes_of rfl) rfl (ci_seq (ce_lst (ca_cons (ce_str) (ca_cons (ce_str) (ca_cons (ce_str) (ca_cons (ce_str) (ca_cons (ce_str) (ca_nil)))))))) (cg_name (i := 3) sc_d_law_deeds.nd rfl (by first | exact Or.inl rfl | exact Or.inr rfl)) (css_one (cs_for (passes_of rfl) rfl (ci_seq (ce_lst (ca_cons (ce_str) (ca_cons (ce_str) (ca_cons (ce_str) (ca_cons (ce_str) (ca_cons (ce_str) (ca_cons (ce_str) (ca_cons (ce_str) (ca_cons (ce_str) (ca_cons (ce_str) (ca_nil)))))))))))) (cg_name (i := 4) sc_d_law_deeds.nd rfl (by first | exact Or.inl rfl | exact Or.inr rfl)) (css_one (cs_expr (ce_bm PySem.F.plainAttrs_list PySem.F.slot_list_append PySem.F.type_list_append mt_append mts_append (ce_v 2) (ca_cons (ce_op op_addA ops_add (ce_v 3) (ce_v 4)) (ca_nil))))))))
    (css_cons (cs_set (j := 5) sc_d_law_deeds.nd rfl (Or.inl rfl) (ce_lst (ca_nil)))
    (css_cons (cs_for (passes_of rfl) rfl (ci_range1 (by rfl) X.b_range (ca_cons (ce_v 1) (ca_nil))) (cg_name (i := 6) sc_d_law_deeds.nd rfl (by first | exact Or.inl rfl | exact Or.inr rfl)) (css_cons (cs_set (j := 7) sc_d_law_deeds.nd rfl (Or.inl rfl) (ce_call (n := 2) (ok_d_law_draw X) (hr.mono (by decide)) tk (by rfl) X.g_d_law_draw X.F_d_law_draw.kp (bd_d_law_draw X) (an_cons (an_cons an_nil)) (ca_cons (ce_v 0) (ca_cons (ce_callB call_len fns_len (by rfl) X.b_len (by decide +kernel) (ca_cons (ce_v 2) (ca_nil))) (ca_nil)))))
    (css_cons (cs_expr (ce_bm PySem.F.plainAttrs_list PySem.F.slot_list_append PySem.F.type_list_append mt_append mts_append (ce_v 5) (ca_cons (ce_ix (ix_any hr.units) ops_ixA (ce_v 2) (ce_v 7) (fun _ _ => rfl)) (ca_nil))))
    (css_one (cs_set (j := 2) sc_d_law_deeds.nd rfl (Or.inl rfl) (ce_op op_addA ops_add (ce_sl sl_LT sls_LT (ce_v 2) (co_none) (co_some (ce_v 7))) (ce_sl sl_LT sls_LT (ce_v 2) (co_some (ce_op op_addA ops_add (ce_v 7) (ce_int))) (co_none))))))))
    (css_one (cs_ret (ce_v 5)))))) :
      PSs _ _ (Ts _ _ _ b_d_law_deeds))
noncomputable def bl_d_law_book_1 : MS := sSeq (sSet 13 (eCall m_d_law_draw (aCons (eV 0) (aCons (e2 dAdd (eFn dLen (aCons (eV 5) (aNil))) (eC (.int 1))) (aNil)))))
  (sExpr (eMt "list" dInsert (eV 5) (aCons (eV 13) (aCons (eTup (aCons (eC (.str "cy")) (aCons (eV 12) (aNil)))) (aNil)))))
noncomputable def bl_d_law_book_2 : MS := sSeq (sSet 7 (e2 dIxA (eLst (aCons (eC (.str "ann")) (aCons (eC (.str "bob")) (aCons (eC (.str "told")) (aNil))))) (eCall m_d_law_draw (aCons (eV 0) (aCons (eC (.int 3)) (aNil))))))
  (sSeq (sSet 8 (eCall m_d_law_draw (aCons (eV 0) (aCons (eFn dLen (aCons (eV 1) (aNil))) (aNil)))))
  (sIf (tAnd (tV (e2 dGt (eFn dLen (aCons (eV 1) (aNil))) (eC (.int 1)))) (tV (e2 dGt (eCall m_d_law_draw (aCons (eV 0) (aCons (eC (.int 4)) (aNil)))) (eC (.int 0))))) (sSeq (sSet 9 (e2 dMod (eFn dInt (aCons (e2 dAdd (e2 dAdd (eV 8) (eC (.int 1))) (eCall m_d_law_draw (aCons (eV 0) (aCons (e2 dSub (eFn dLen (aCons (eV 1) (aNil))) (eC (.int 1))) (aNil))))) (aNil))) (eFn dLen (aCons (eV 1) (aNil)))))
  (sExpr (eMt "list" dAppend (eV 5) (aCons (eTup (aCons (eV 7) (aCons (eTup (aCons (eC (.str "gap")) (aCons (e2 dIxA (eV 1) (eV 8)) (aCons (e2 dIxA (eV 1) (eV 9)) (aCons (e2 dSub (eCall m_d_law_draw (aCons (eV 0) (aCons (eC (.int 13)) (aNil)))) (eC (.int 6))) (aNil)))))) (aNil)))) (aNil))))) (sSeq (sSet 10 (e2 dAdd (e2 dSub (eV 3) (eC (.int 2))) (eCall m_d_law_draw (aCons (eV 0) (aCons (e2 dAdd (e2 dSub (eV 4) (eV 3)) (eC (.int 4))) (aNil))))))
  (sExpr (eMt "list" dAppend (eV 5) (aCons (eTup (aCons (eV 7) (aCons (eTup (aCons (eC (.str "years")) (aCons (e2 dIxA (eV 1) (eV 8)) (aCons (eTup (aCons (eTup (aCons (eV 10) (aCons (e2 dAdd (eV 10) (eCall m_d_law_draw (aCons (eV 0) (aCons (eC (.int 6)) (aNil))))) (aNil)))) (aNil))) (aNil))))) (aNil)))) (aNil)))))))
noncomputable def b_d_law_book : MS := sSeq (sSet 3 (e2 dIxA (eLst (aCons (eC (.int 0)) (aCons (e1 dNeg (eC (.int 6))) (aCons (eC (.int 3)) (aCons (e1 dNeg (eC (.int 9000))) (aCons (eC (.int 800)) (aNil))))))) (eCall m_d_law_draw (aCons (eV 0) (aCons (eC (.int 5)) (aNil))))))
  (sSeq (sSet 4 (e2 dAdd (eV 3) (e2 dIxA (eLst (aCons (eC (.int 0)) (aCons (eC (.int 1)) (aCons (eC (.int 8)) (aCons (eC (.int 70)) (aNil)))))) (eCall m_d_law_draw (aCons (eV 0) (aCons (eC (.int 4)) (aNil)))))))
  (sSeq (sSet 5 (eLst (aNil)))
  (sSeq (sFor (iRange1 (aCons (eV 2) (aNil))) (gN 6) (bl_d_law_book_2))
  (sSeq (sIf (tV (e2 dGt (eFn dLen (aCons (eV 1) (aNil))) (eC (.int 1)))) (sSeq (sSet 11 (e2 dSub (eCall m_d_law_draw (aCons (eV 0) (aCons (eC (.int 9)) (aNil)))) (eC (.int 4))))
  (sFor (iSeq (eLst (aCons (eTup (aCons (eC (.str "gap")) (aCons (e2 dIxA (eV 1) (eC (.int 0))) (aCons (e2 dIxA (eV 1) (eC (.int 1))) (aCons (eV 11) (aNil)))))) (aCons (eTup (aCons (eC (.str "gap")) (aCons (e2 dIxA (eV 1) (eC (.int 1))) (aCons (e2 dIxA (eV 1) (eC (.int 0))) (aCons (e2 dSub (eC (.int 0)) (eV 11)) (aNil)))))) (aNil))))) (gN 12) (bl_d_law_book_1))) (sNil))
  (sRet (eTup (aCons (eV 3) (aCons (eV 4) (aCons (eFn dTuple (aCons (eFn dSorted (aCons (eV 1) (aNil))) (aNil))) (aCons (eFn dTuple (aCons (eV 5) (aNil))) (aNil)))))))))))
noncomputable def m_d_law_book : List D → Store → R D := fnM 14 3 b_d_law_book
theorem ok_d_law_book (X : Fx K mg) : FnOk P w K mg base (L2.CX P w) 2 X.a_d_law_book X.d_d_law_book ["pool", "names", "count"] (spM K mg 3 m_d_law_book) :=
  okM (k := 1) X.F_d_law_book sc_d_law_book rfl fun cdv A outer s H E hr tk =>
    (css_cons (cs_set (j := 3) sc_d_law_book.nd rfl (Or.inl rfl) (ce_ix (ix_any hr.units) ops_ixA (ce_lst (ca_cons (ce_int) (ca_cons (ce_un un_neg uns_neg (ce_int)) (ca_cons (ce_int) (ca_cons (ce_un un_neg uns_neg (ce_int)) (ca_cons (ce_int) (ca_nil))))))) (ce_call (n := 2) (ok_d_law_draw X) (hr.mono (by decide)) tk (by rfl) X.g_d_law_draw X.F_d_law_draw.kp (bd_d_law_draw X) (an_cons (an_cons an_nil)) (ca_cons (ce_v 0) (ca_cons (ce_int) (ca_nil)))) (fun _ _ => rfl)))
    (css_cons (cs_set (j := 4) sc_d_law_book.nd rfl (Or.inl rfl) (ce_op op_addA ops_add (ce_v 3) (ce_ix (ix_any hr.units) ops_ixA (ce_lst (ca_cons (ce_int) (ca_cons (ce_int) (ca_cons (ce_int) (ca_cons (ce_int) (ca_nil)))))) (ce_call (n := 2) (ok_d_law_draw X) (hr.mono (by decide)) tk (by rfl) X.g_d_law_draw X.F_d_law_draw.kp (bd_d_law_draw X) (an_cons (an_cons an_nil)) (ca_cons (ce_v 0) (ca_cons (ce_int) (ca_nil)))) (fun _ _ => rfl))))
    (css_cons (cs_set (j := 5) sc_d_law_book.nd rfl (Or.inl rfl) (ce_lst (ca_nil)))
    (css_cons (cs_for (passes_of rfl) rfl (ci_range1 (by rfl) X.b_range (ca_cons (ce_v 2) (ca_nil))) (cg_name (i := 6) sc_d_law_book.nd rfl (by first | exact Or.inl rfl | exact Or.inr rfl)) (css_cons (cs_set (j := 7) sc_d_law_book.nd rfl (Or.inl rfl) (ce_ix (ix_any hr.units) ops_ixA (ce_lst (ca_cons (ce_str) (ca_cons (ce_str) (ca_cons (ce_str) (ca_nil))))) (ce_call (n := 2) (ok_d_law_draw X) (hr.mono (by decide)) tk (by rfl) X.g_d_law_draw X.F_d_law_draw.kp (bd_d_law_draw X) (an_cons (an_cons an_nil)) (ca_cons (ce_v 0) (ca_cons (ce_int) (ca_nil)))) (fun _ _ => rfl)))
    (css_cons (cs_set (j := 8) sc_d_law_book.nd rfl (Or.inl rfl) (ce_call (n := 2) (ok_d_law_draw X) (hr.mono (by decide)) tk (by rfl) X.g_d_law_draw X.F_d_law_draw.kp (bd_d_law_draw X) (an_cons (an_cons an_nil)) (ca_cons (ce_v 0) (ca_cons (ce_callB call_len fns_len (by rfl) X.b_len (by decide +kernel) (ca_cons (ce_v 1) (ca_nil))) (ca_nil)))))
    (css_one (cs_if (PW.pt (cw_and (ct_cmp opA_gt ops_gt (ce_callB call_len fns_len (by rfl) X.b_len (by decide +kernel) (ca_cons (ce_v 1) (ca_nil))) (ce_int) (nomark _)) (cw_and1 (ct_cmp opA_gt ops_gt (ce_call (n := 2) (ok_d_law_draw X) (hr.mono (by decide)) tk (by rfl) X.g_d_law_draw X.F_d_law_draw.kp (bd_d_law_draw X) (an_cons (an_cons an_nil)) (ca_cons (ce_v 0) (ca_cons (ce_int) (ca_nil)))) (ce_int) (nomark _))))) (css_cons (cs_set (j := 9) sc_d_law_book.nd rfl (Or.inl rfl) (ce_op op_mod ops_mod (ce_callTy call_int1 fns_int (by rfl) X.b_int (by decide +kernel) (ca_cons (ce_op op_addA ops_add (ce_op op_addA ops_add (ce_v 8) (ce_int)) (ce_call (n := 2) (ok_d_law_draw X) (hr.mono (by decide)) tk (by rfl) X.g_d_law_draw X.F_d_law_draw.kp (bd_d_law_draw X) (an_cons (an_cons an_nil)) (ca_cons (ce_v 0) (ca_cons (ce_op op_sub ops_sub (ce_callB call_len fns_len (by rfl) X.b_len (by decide +kernel) (ca_cons (ce_v 1) (ca_nil))) (ce_int)) (ca_nil))))) (ca_nil))) (ce_callB call_len fns_len (by rfl) X.b_len (by decide +kernel) (ca_cons (ce_v 1) (ca_nil)))))
    (css_one (cs_expr (ce_bm PySem.F.plainAttrs_list PySem.F.slot_list_append PySem.F.type_list_append mt_append mts_append (ce_v 5) (ca_cons (ce_tup (ca_cons (ce_v 7) (ca_cons (ce_tup (ca_cons (ce_str) (ca_cons (ce_ix (ix_any hr.units) ops_ixA (ce_v 1) (ce_v 8) (fun _ _ => rfl)) (ca_cons (ce_ix (ix_any hr.units) ops_ixA (ce_v 1) (ce_v 9) (fun _ _ => rfl)) (ca_cons (ce_op op_sub ops_sub (ce_call (n := 2) (ok_d_law_draw X) (hr.mono (by decide)) tk (by rfl) X.g_d_law_draw X.F_d_law_draw.kp (bd_d_law_draw X) (an_cons (an_cons an_nil)) (ca_cons (ce_v 0) (ca_cons (ce_int) (ca_nil)))) (ce_int)) (ca_nil)))))) (ca_nil)))) (ca_nil)))))) (css_cons (cs_set (j := 10) sc_d_law_book.nd rfl (Or.inl rfl) (ce_op op_addA ops_add (ce_op op_sub ops_sub (ce_v 3) (ce_int)) (ce_call (n := 2) (ok_d_law_draw X) (hr.mono (by decide)) tk (by rfl) X.g_d_law_draw X.F_d_law_draw.kp (bd_d_law_draw X) (an_cons (an_cons an_nil)) (ca_cons (ce_v 0) (ca_cons (ce_op op_addA ops_add (ce_op op_sub ops_sub (ce_v 4) (ce_v 3)) (ce_int)) (ca_nil))))))
    (css_one (cs_expr (ce_bm PySem.F.plainAttrs_list PySem.F.slot_list_append PySem.F.type_list_append mt_append mts_append (ce_v 5) (ca_cons (ce_tup (ca_cons (ce_v 7) (ca_cons (ce_tup (ca_cons (ce_str) (ca_cons (ce_ix (ix_any hr.units) ops_ixA (ce_v 1) (ce_v 8) (fun _ _ => rfl)) (ca_cons (ce_tup (ca_cons (ce_tup (ca_cons (ce_v 10) (ca_cons (ce_op op_addA ops_add (ce_v 10) (ce_call (n := 2) (ok_d_law_draw X) (hr.mono (by decide)) tk (by rfl) X.g_d_law_draw X.F_d_law_draw.kp (bd_d_law_draw X) (an_cons (an_cons an_nil)) (ca_cons (ce_v 0) (ca_cons (ce_int) (ca_nil))))) (ca_nil)))) (ca_nil))) (ca_nil))))) (ca_nil)))) (ca_nil)))))))))))
    (css_cons (cs_if (ct_cmp opA_gt ops_gt (ce_callB call_len fns_len (by rfl) X.b_len (by decide +kernel) (ca_cons (ce_v 1) (ca_nil))) (ce_int) (nomark _)) (css_cons (cs_set (j := 11) sc_d_law_book.nd rfl (Or.inl rfl) (ce_op op_sub ops_sub (ce_call (n := 2) (ok_d_law_draw X) (hr.mono (by decide)) tk (by rfl) X.g_d_law_draw X.F_d_law_draw.kp (bd_d_law_draw X) (an_cons (an_cons an_nil)) (ca_cons (ce_v 0) (ca_cons (ce_int) (ca_nil)))) (ce_int)))
    (css_one (cs_for (passes_of rfl) rfl (ci_seq (ce_lst (ca_cons (ce_tup (ca_cons (ce_str) (ca_cons (ce_ix (ix_any hr.units) ops_ixA (ce_v 1) (ce_int) (fun _ _ => rfl)) (ca_cons (ce_ix (ix_any hr.units) ops_ixA (ce_v 1) (ce_int) (fun _ _ => rfl)) (ca_cons (ce_v 11) (ca_nil)))))) (ca_cons (ce_tup (ca_cons (ce_str) (ca_cons (ce_ix (ix_any hr.units) ops_ixA (ce_v 1) (ce_int) (fun _ _ => rfl)) (ca_cons (ce_ix (ix_any hr.units) ops_ixA (ce_v 1) (ce_int) (fun _ _ => rfl)) (ca_cons (ce_op op_sub ops_sub (ce_int) (ce_v 11)) (ca_nil)))))) (ca_nil))))) (cg_name (i := 12) sc_d_law_book.nd rfl (by first | exact Or.inl rfl | exact Or.inr rfl)) (css_cons (cs_set (j := 13) sc_d_law_book.nd rfl (Or.inl rfl) (ce_call (n := 2) (ok_d_law_draw X) (hr.mono (by decide)) tk (by rfl) X.g_d_law_draw X.F_d_law_draw.kp (bd_d_law_draw X) (an_cons (an_cons an_nil)) (ca_cons (ce_v 0) (ca_cons (ce_op op_addA ops_add (ce_callB call_len fns_len (by rfl) X.b_len (by decide +kernel) (ca_cons (ce_v 5) (ca_nil))) (ce_int)) (ca_nil)))))
    (css_one (cs_expr (ce_bm PySem.F.plainAttrs_list PySem.F.slot_list_insert PySem.F.type_list_insert mt_insert mts_insert (ce_v 5) (ca_cons (ce_v 13) (ca_cons (ce_tup (ca_cons (ce_str) (ca_cons (ce_v 12) (ca_nil)))) (ca_nil)))))))))) (css_nil))
    (css_one (cs_ret (ce_tup (ca_cons (ce_v 3) (ca_cons (ce_v 4) (ca_cons (ce_callTy call_tuple_of fns_tuple (by rfl) X.b_tuple (by decide +kernel) (ca_cons (ce_callB (cr_sortedB hr.units) fns_sorted (by rfl) X.b_sorted (by decide +kernel) (ca_cons (ce_v 1) (ca_nil))) (ca_nil))) (ca_cons (ce_callTy call_tuple_of fns_tuple (by rfl) X.b_tuple (by decide +kernel) (ca_cons (ce_v 5) (ca_nil))) (ca_nil)))))))))))) :
      PSs _ _ (Ts _ _ _ b_d_law_book))
noncomputable def lt_d_law_walk_1 : ME Bool := tV (e2 dEq (e2 dIxA (eV 7) (eC (.int 0))) (eV 4))
noncomputable def le_d_law_walk_2 : ME D := eV 7
noncomputable def bl_d_law_walk_3 : MS := sSeq (sSet 8 (eLc (iSeq (eV 1)) [7] (gN 7) (lt_d_law_walk_1) (le_d_law_walk_2)))
  (sSeq (sIf (tV (e2 dEq (eV 8) (eLst (aNil)))) (sBrk) (sNil))
  (sSeq (sSet 7 (e2 dIxA (eV 8) (eCall m_d_law_draw (aCons (eV 0) (aCons (eFn dLen (aCons (eV 8) (aNil))) (aNil))))))
  (sSeq (sExpr (eMt "list" dAppend (eV 5) (aCons (eV 7) (aNil))))
  (sSet 4 (e2 dIxA (eV 7) (eC (.int 1)))))))
noncomputable def b_d_law_walk : MS := sSeq (sSet 4 (eV 2))
  (sSeq (sSet 5 (eLst (aNil)))
  (sSeq (sFor (iRange1 (aCons (eV 3) (aNil))) (gN 6) (bl_d_law_walk_3))
  (sRet (eFn dTuple (aCons (eV 5) (aNil))))))
noncomputable def m_d_law_walk : List D → Store → R D := fnM 9 4 b_d_law_walk
theorem ok_d_law_walk (X : Fx K mg) : FnOk P w K mg base (L2.CX P w) 2 X.a_d_law_walk X.d_d_law_walk ["pool", "steps", "start", "most"] (spM K mg 4 m_d_law_walk) :=
  okM (k := 1) X.F_d_law_walk sc_d_law_walk rfl fun cdv A outer s H E hr tk =>
    (css_cons (cs_set (j := 4) sc_d_law_walk.nd rfl (Or.inr rfl) (ce_v 2))
    (css_cons (cs_set (j := 5) sc_d_law_walk.nd rfl (Or.inl rfl) (ce_lst (ca_nil)))
    (css_cons (cs_for (passes_of rfl) rfl (ci_range1 (by rfl) X.b_range (ca_cons (ce_v 3) (ca_nil))) (cg_name (i := 6) sc_d_law_walk.nd rfl (by first | exact Or.inl rfl | exact Or.inr rfl)) (css_cons (cs_setLc (i := 8) (own := [("step", 7)]) rfl sc_d_law_walk.nd rfl rfl (sw_true rfl rfl rfl (by decide +kernel)) (ci_seq (ce_v 1)) (blkOk_by (N := ["pool", "steps", "start", "most", "node", "out", "turn", "step", "here"]) (sc := defScope s_d_law_walk) (by decide +kernel)) (fun _ _ _ _ _ => cg_name (i := 7) sc_d_law_walk.nd rfl (by first | exact Or.inl rfl | exact Or.inr rfl)) (fun _ _ _ _ _ => cts_one (ct_cmp (opA_eq hr.units) ops_eq (ce_ix (ix_any hr.units) ops_ixA (ce_v 7) (ce_int) (fun _ _ => rfl)) (ce_v 4) (nomark _))) (fun _ _ _ _ _ => ce_v 7))
    (css_cons (cs_if (ct_cmp (opA_eq hr.units) ops_eq (ce_v 8) (ce_lst (ca_nil)) (nomark _)) (css_one (cs_break)) (css_nil))
    (css_cons (cs_set (j := 7) sc_d_law_walk.nd rfl (Or.inl rfl) (ce_ix (ix_any hr.units) ops_ixA (ce_v 8) (ce_call (n := 2) (ok_d_law_draw X) (hr.mono (by decide)) tk (by rfl) X.g_d_law_draw X.F_d_law_draw.kp (bd_d_law_draw X) (an_cons (an_cons an_nil)) (ca_cons (ce_v 0) (ca_cons (ce_callB call_len fns_len (by rfl) X.b_len (by decide +kernel) (ca_cons (ce_v 8) (ca_nil))) (ca_nil)))) (fun _ _ => rfl)))
    (css_cons (cs_expr (ce_bm PySem.F.plainAttrs_list PySem.F.slot_list_append PySem.F.type_list_append mt_append mts_append (ce_v 5) (ca_cons (ce_v 7) (ca_nil))))
    (css_one (cs_set (j := 4) sc_d_law_walk.nd rfl (Or.inr rfl) (ce_ix (ix_any hr.units) ops_ixA (ce_v 7) (ce_int) (fun _ _ => rfl)))))))))
    (css_one (cs_ret (ce_callTy call_tuple_of fns_tuple (by rfl) X.b_tuple (by decide +kernel) (ca_cons (ce_v 5) (ca_nil))))))) :
      PSs _ _ (Ts _ _ _ b_d_law_walk))
noncomputable def b_d_law_bent : MS := sSeq (sSet 3 (eLst (aCons (eC .non) (aCons (eC (.int 0)) (aCons (eC (.bl true)) (aCons (eC (.str "")) (aCons (eTup (aNil)) (aCons (eLst (aNil)) (aCons (eTup (aCons (eTup (aNil)) (aNil))) (aCons (eTup (aCons (eC (.str "")) (aNil))) (aCons (eTup (aCons (eTup (aCons (eC (.str "")) (aNil))) (aNil))) (aCons (eTup (aCons (eTup (aCons (eC (.str "")) (aCons (eC (.str "")) (aNil)))) (aNil))) (aCons (eTup (aCons (eTup (aCons (eC (.int 1)) (aCons (eC (.int 2)) (aCons (eC (.int 3)) (aNil))))) (aNil))) (aCons (eC (.str "walk")) (aCons (eTup (aCons (eC .non) (aNil))) (aNil))))))))))))))))
  (sSeq (sSet 4 (eCall m_d_law_draw (aCons (eV 0) (aCons (eC (.int 13)) (aNil)))))
  (sSeq (sIf (tOr (tV (e2 dEq (eV 4) (eC (.int 0)))) (tV (e2 dEq (eV 1) (eTup (aNil))))) (sRet (e2 dIxA (eV 3) (eCall m_d_law_draw (aCons (eV 0) (aCons (eFn dLen (aCons (eV 3) (aNil))) (aNil)))))) (sNil))
  (sSeq (sSet 5 (eCall m_d_law_draw (aCons (eV 0) (aCons (eFn dLen (aCons (eV 1) (aNil))) (aNil)))))
  (sSeq (sIf (tV (e2 dEq (eCall m_d_law_draw (aCons (eV 0) (aCons (eC (.int 2)) (aNil)))) (eC (.int 0)))) (sSet 5 (e2 dSub (e2 dSub (eFn dLen (aCons (eV 1) (aNil))) (eC (.int 1))) (eCall m_d_law_draw (aCons (eV 0) (aCons (e2 dAdd (eC (.int 1)) (e2 dDiv (eFn dLen (aCons (eV 1) (aNil))) (eC (.int 4)))) (aNil)))))) (sNil))
  (sSeq (sSet 6 (e2 dIxA (eV 1) (eV 5)))
  (sSeq (sIf (tV (e2 dEq (eV 4) (eC (.int 1)))) (sRet (eFn dListA (aCons (eV 1) (aNil)))) (sNil))
  (sSeq (sIf (tV (e2 dEq (eV 4) (eC (.int 2)))) (sRet (eCall m_d_law_put (aCons (eV 1) (aCons (eV 5) (aCons (eFn dListA (aCons (eV 6) (aNil))) (aNil)))))) (sNil))
  (sSeq (sIf (tV (e2 dEq (eV 4) (eC (.int 3)))) (sRet (eCall m_d_law_put (aCons (eV 1) (aCons (eV 5) (aCons (e2 dIxA (eTup (aCons (e2 dAdd (eV 6) (eTup (aCons (eC (.int 0)) (aNil)))) (aCons (eSl dSl (eV 6) (oNone) (oSome (eC (.int 2)))) (aCons (eTup (aCons (eV 6) (aNil))) (aCons (e2 dAdd (eV 6) (eV 6)) (aNil)))))) (eCall m_d_law_draw (aCons (eV 0) (aCons (eC (.int 4)) (aNil))))) (aNil)))))) (sNil))
  (sSeq (sIf (tV (e2 dEq (eV 4) (eC (.int 4)))) (sSeq (sSet 7 (e2 dIxA (eLst (aCons (eC (.bl true)) (aCons (eC (.bl false)) (aCons (eFn dStr (aCons (e2 dIxA (eV 6) (eC (.int 2))) (aNil))) (aCons (eC .non) (aCons (eTup (aCons (e2 dIxA (eV 6) (eC (.int 2))) (aNil))) (aCons (e2 dAdd (e2 dPow (eC (.int 10)) (eC (.int 40))) (e2 dIxA (eV 6) (eC (.int 2)))) (aNil)))))))) (eCall m_d_law_draw (aCons (eV 0) (aCons (eC (.int 6)) (aNil))))))
  (sRet (eCall m_d_law_put (aCons (eV 1) (aCons (eV 5) (aCons (eTup (aCons (e2 dIxA (eV 6) (eC (.int 0))) (aCons (e2 dIxA (eV 6) (eC (.int 1))) (aCons (eV 7) (aNil))))) (aNil))))))) (sNil))
  (sSeq (sIf (tOr (tV (e2 dEq (eV 4) (eC (.int 5)))) (tV (e2 dEq (eV 4) (eC (.int 6))))) (sSeq (sSet 7 (e2 dIxA (eLst (aCons (e2 dAdd (e2 dIxA (eV 6) (eC (.int 2))) (eC (.int 1))) (aCons (e2 dSub (e2 dIxA (eV 6) (eC (.int 2))) (eC (.int 1))) (aCons (e1 dNeg (eC (.int 1))) (aCons (e1 dNeg (eC (.int 2))) (aCons (eV 2) (aCons (eCall m_d_law_draw (aCons (eV 0) (aCons (e2 dAdd (eV 2) (eC (.int 1))) (aNil)))) (aNil)))))))) (eCall m_d_law_draw (aCons (eV 0) (aCons (eC (.int 6)) (aNil))))))
  (sRet (eCall m_d_law_put (aCons (eV 1) (aCons (eV 5) (aCons (eTup (aCons (e2 dIxA (eV 6) (eC (.int 0))) (aCons (e2 dIxA (eV 6) (eC (.int 1))) (aCons (eV 7) (aNil))))) (aNil))))))) (sNil))
  (sSeq (sIf (tV (e2 dEq (eV 4) (eC (.int 7)))) (sRet (eCall m_d_law_put (aCons (eV 1) (aCons (eV 5) (aCons (eTup (aCons (e2 dIxA (eV 6) (eC (.int 1))) (aCons (e2 dIxA (eV 6) (eC (.int 0))) (aCons (e2 dIxA (eV 6) (eC (.int 2))) (aNil))))) (aNil)))))) (sNil))
  (sSeq (sIf (tV (e2 dEq (eV 4) (eC (.int 8)))) (sRet (e2 dAdd (eSl dSl (eV 1) (oNone) (oSome (eV 5))) (eSl dSl (eV 1) (oSome (e2 dAdd (eV 5) (eC (.int 1)))) (oNone)))) (sNil))
  (sSeq (sIf (tV (e2 dEq (eV 4) (eC (.int 9)))) (sSeq (sSet 7 (eCall m_d_law_draw (aCons (eV 0) (aCons (eFn dLen (aCons (eV 1) (aNil))) (aNil)))))
  (sRet (eCall m_d_law_put (aCons (eCall m_d_law_put (aCons (eV 1) (aCons (eV 5) (aCons (e2 dIxA (eV 1) (eV 7)) (aNil))))) (aCons (eV 7) (aCons (eV 6) (aNil))))))) (sNil))
  (sSeq (sIf (tV (e2 dEq (eV 4) (eC (.int 10)))) (sRet (e2 dAdd (e2 dAdd (eSl dSl (eV 1) (oNone) (oSome (eV 5))) (eTup (aCons (eV 6) (aNil)))) (eSl dSl (eV 1) (oSome (eV 5)) (oNone)))) (sNil))
  (sSeq (sIf (tV (e2 dEq (eV 4) (eC (.int 11)))) (sSeq (sSet 7 (e2 dIxA (eLst (aCons (eC (.str "zz")) (aCons (eC .non) (aCons (eC (.int 0)) (aCons (e2 dAdd (e2 dIxA (eV 6) (eC (.int 0))) (eC (.str "0"))) (aCons (eTup (aCons (e2 dIxA (eV 6) (eC (.int 1))) (aNil))) (aNil))))))) (eCall m_d_law_draw (aCons (eV 0) (aCons (eC (.int 5)) (aNil))))))
  (sRet (eCall m_d_law_put (aCons (eV 1) (aCons (eV 5) (aCons (e2 dIxA (eTup (aCons (eTup (aCons (eV 7) (aCons (e2 dIxA (eV 6) (eC (.int 1))) (aCons (e2 dIxA (eV 6) (eC (.int 2))) (aNil))))) (aCons (eTup (aCons (e2 dIxA (eV 6) (eC (.int 0))) (aCons (eV 7) (aCons (e2 dIxA (eV 6) (eC (.int 2))) (aNil))))) (aNil)))) (eCall m_d_law_draw (aCons (eV 0) (aCons (eC (.int 2)) (aNil))))) (aNil))))))) (sNil))
  (sRet (e2 dIxA (eTup (aCons (e1 dRev (eV 1)) (aCons (e2 dAdd (eV 1) (eV 1)) (aCons (eSl dSl (eV 1) (oNone) (oSome (eV 5))) (aCons (eSl dSl (eV 1) (oSome (eV 5)) (oNone)) (aCons (eTup (aCons (eV 1) (aNil))) (aNil))))))) (eCall m_d_law_draw (aCons (eV 0) (aCons (eC (.int 5)) (aNil)))))))))))))))))))))
noncomputable def m_d_law_bent : List D → Store → R D := fnM 8 3 b_d_law_bent
theorem ok_d_law_bent (X : Fx K mg) : FnOk P w K mg base (L2.CX P w) 2 X.a_d_law_bent X.d_d_law_bent ["pool", "walk", "many"] (spM K mg 3 m_d_law_bent) :=
  okM (k := 1) X.F_d_law_bent sc_d_law_bent rfl fun cdv A outer s H E hr tk =>
    (css_cons (cs_set (j := 3) sc_d_law_bent.nd rfl (Or.inl rfl) (ce_lst (ca_cons (ce_non) (ca_cons (ce_int) (ca_cons (ce_bl) (ca_cons (ce_str) (ca_cons (ce_tup (ca_nil)) (ca_cons (ce_lst (ca_nil)) (ca_cons (ce_tup (ca_cons (ce_tup (ca_nil)) (ca_nil))) (ca_cons (ce_tup (ca_cons (ce_str) (ca_nil))) (ca_cons (ce_tup (ca_cons (ce_tup (ca_cons (ce_str) (ca_nil))) (ca_nil))) (ca_cons (ce_tup (ca_cons (ce_tup (ca_cons (ce_str) (ca_cons (ce_str) (ca_nil)))) (ca_nil))) (ca_cons (ce_tup (ca_cons (ce_tup (ca_cons (ce_int) (ca_cons (ce_int) (ca_cons (ce_int) (ca_nil))))) (ca_nil))) (ca_cons (ce_str) (ca_cons (ce_tup (ca_cons (ce_non) (ca_nil))) (ca_nil))))))))))))))))
    (css_cons (cs_set (j := 4) sc_d_law_bent.nd rfl (Or.inl rfl) (ce_call (n := 2) (ok_d_law_draw X) (hr.mono (by decide)) tk (by rfl) X.g_d_law_draw X.F_d_law_draw.kp (bd_d_law_draw X) (an_cons (an_cons an_nil)) (ca_cons (ce_v 0) (ca_cons (ce_int) (ca_nil)))))
    (css_cons (cs_if (PW.pt (cw_or (ct_cmp (opA_eq hr.units) ops_eq (ce_v 4) (ce_int) (nomark _)) (cw_or1 (ct_cmp (opA_eq hr.units) ops_eq (ce_v 1) (ce_tup (ca_nil)) (nomark _))))) (css_one (cs_ret (ce_ix (ix_any hr.units) ops_ixA (ce_v 3) (ce_call (n := 2) (ok_d_law_draw X) (hr.mono (by decide)) tk (by rfl) X.g_d_law_draw X.F_d_law_draw.kp (bd_d_law_draw X) (an_cons (an_cons an_nil)) (ca_cons (ce_v 0) (ca_cons (ce_callB call_len fns_len (by rfl) X.b_len (by decide +kernel) (ca_cons (ce_v 3) (ca_nil))) (ca_nil)))) (fun _ _ => rfl)))) (css_nil))
    (css_cons (cs_set (j := 5) sc_d_law_bent.nd rfl (Or.inl rfl) (ce_call (n := 2) (ok_d_law_draw X) (hr.mono (by decide)) tk (by rfl) X.g_d_law_draw X.F_d_law_draw.kp (bd_d_law_draw X) (an_cons (an_cons an_nil)) (ca_cons (ce_v 0) (ca_cons (ce_callB call_len fns_len (by rfl) X.b_len (by decide +kernel) (ca_cons (ce_v 1) (ca_nil))) (ca_nil)))))
    (css_cons (cs_if (ct_cmp (opA_eq hr.units) ops_eq (ce_call (n := 2) (ok_d_law_draw X) (hr.mono (by decide)) tk (by rfl) X.g_d_law_draw X.F_d_law_draw.kp (bd_d_law_draw X) (an_cons (an_cons an_nil)) (ca_cons (ce_v 0) (ca_cons (ce_int) (ca_nil)))) (ce_int) (nomark _)) (css_one (cs_set (j := 5) sc_d_law_bent.nd rfl (Or.inl rfl) (ce_op op_sub ops_sub (ce_op op_sub ops_sub (ce_callB call_len fns_len (by rfl) X.b_len (by decide +kernel) (ca_cons (ce_v 1) (ca_nil))) (ce_int)) (ce_call (n := 2) (ok_d_law_draw X) (hr.mono (by decide)) tk (by rfl) X.g_d_law_draw X.F_d_law_draw.kp (bd_d_law_draw X) (an_cons (an_cons an_nil)) (ca_cons (ce_v 0) (ca_cons (ce_op op_addA ops_add (ce_int) (ce_op op_fdiv ops_div (ce_callB call_len fns_len (by rfl) X.b_len (by decide +kernel) (ca_cons (ce_v 1) (ca_nil))) (ce_int))) (ca_nil))))))) (css_nil))
    (css_cons (cs_set (j := 6) sc_d_law_bent.nd rfl (Or.inl rfl) (ce_ix (ix_any hr.units) ops_ixA (ce_v 1) (ce_v 5) (fun _ _ => rfl)))
    (css_cons (cs_if (ct_cmp (opA_eq hr.units) ops_eq (ce_v 4) (ce_int) (nomark _)) (css_one (cs_ret (ce_callTy (call_listA rfl) fns_listA (by rfl) X.b_list (by decide +kernel) (ca_cons (ce_v 1) (ca_nil))))) (css_nil))
    (css_cons (cs_if (ct_cmp (opA_eq hr.units) ops_eq (ce_v 4) (ce_int) (nomark _)) (css_one (cs_ret (ce_call (n := 3) (ok_d_law_put X) (hr.mono (by decide)) tk (by rfl) X.g_d_law_put X.F_d_law_put.kp (bd_d_law_put X) (an_cons (an_cons (an_cons an_nil))) (ca_cons (ce_v 1) (ca_cons (ce_v 5) (ca_cons (ce_callTy (call_listA rfl) fns_listA (by rfl) X.b_list (by decide +kernel) (ca_cons (ce_v 6) (ca_nil))) (ca_nil))))))) (css_nil))
    (css_cons (cs_if (ct_cmp (opA_eq hr.units) ops_eq (ce_v 4) (ce_int) (nomark _)) (css_one (cs_ret (ce_call (n := 3) (ok_d_law_put X) (hr.mono (by decide)) tk (by rfl) X.g_d_law_put X.F_d_law_put.kp (bd_d_law_put X) (an_cons (an_cons (an_cons an_nil))) (ca_cons (ce_v 1) (ca_cons (ce_v 5) (ca_cons (ce_ix (ix_any hr.units) ops_ixA (ce_tup (ca_cons (ce_op op_addA ops_add (ce_v 6) (ce_tup (ca_cons (ce_int) (ca_nil)))) (ca_cons (ce_sl sl_LT sls_LT (ce_v 6) (co_none) (co_some (ce_int))) (ca_cons (ce_tup (ca_cons (ce_v 6) (ca_nil))) (ca_cons (ce_op op_addA ops_add (ce_v 6) (ce_v 6)) (ca_nil)))))) (ce_call (n := 2) (ok_d_law_draw X) (hr.mono (by decide)) tk (by rfl) X.g_d_law_draw X.F_d_law_draw.kp (bd_d_law_draw X) (an_cons (an_cons an_nil)) (ca_cons (ce_v 0) (ca_cons (ce_int) (ca_nil)))) (fun _ _ => rfl)) (ca_nil))))))) (css_nil))
    (css_cons (cs_if (ct_cmp (opA_eq hr.units) ops_eq (ce_v 4) (ce_int) (nomark _)) (css_cons (cs_set (j := 7) sc_d_law_bent.nd rfl (Or.inl rfl) (ce_ix (ix_any hr.units) ops_ixA (ce_lst (ca_cons (ce_bl) (ca_cons (ce_bl) (ca_cons (ce_callTy call_strA fns_str (by rfl) X.b_str (by decide +kernel) (ca_cons (ce_ix (ix_any hr.units) ops_ixA (ce_v 6) (ce_int) (fun _ _ => rfl)) (ca_nil))) (ca_cons (ce_non) (ca_cons (ce_tup (ca_cons (ce_ix (ix_any hr.units) ops_ixA (ce_v 6) (ce_int) (fun _ _ => rfl)) (ca_nil))) (ca_cons (ce_op op_addA ops_add (ce_op op_pow ops_pow (ce_int) (ce_int)) (ce_ix (ix_any hr.units) ops_ixA (ce_v 6) (ce_int) (fun _ _ => rfl))) (ca_nil)))))))) (ce_call (n := 2) (ok_d_law_draw X) (hr.mono (by decide)) tk (by rfl) X.g_d_law_draw X.F_d_law_draw.kp (bd_d_law_draw X) (an_cons (an_cons an_nil)) (ca_cons (ce_v 0) (ca_cons (ce_int) (ca_nil)))) (fun _ _ => rfl)))
    (css_one (cs_ret (ce_call (n := 3) (ok_d_law_put X) (hr.mono (by decide)) tk (by rfl) X.g_d_law_put X.F_d_law_put.kp (bd_d_law_put X) (an_cons (an_cons (an_cons an_nil))) (ca_cons (ce_v 1) (ca_cons (ce_v 5) (ca_cons (ce_tup (ca_cons (ce_ix (ix_any hr.units) ops_ixA (ce_v 6) (ce_int) (fun _ _ => rfl)) (ca_cons (ce_ix (ix_any hr.units) ops_ixA (ce_v 6) (ce_int) (fun _ _ => rfl)) (ca_cons (ce_v 7) (ca_nil))))) (ca_nil)))))))) (css_nil))
    (css_cons (cs_if (PW.pt (cw_or (ct_cmp (opA_eq hr.units) ops_eq (ce_v 4) (ce_int) (nomark _)) (cw_or1 (ct_cmp (opA_eq hr.units) ops_eq (ce_v 4) (ce_int) (nomark _))))) (css_cons (cs_set (j := 7) sc_d_law_bent.nd rfl (Or.inl rfl) (ce_ix (ix_any hr.units) ops_ixA (ce_lst (ca_cons (ce_op op_addA ops_add (ce_ix (ix_any hr.units) ops_ixA (ce_v 6) (ce_int) (fun _ _ => rfl)) (ce_int)) (ca_cons (ce_op op_sub ops_sub (ce_ix (ix_any hr.units) ops_ixA (ce_v 6) (ce_int) (fun _ _ => rfl)) (ce_int)) (ca_cons (ce_un un_neg uns_neg (ce_int)) (ca_cons (ce_un un_neg uns_neg (ce_int)) (ca_cons (ce_v 2) (ca_cons (ce_call (n := 2) (ok_d_law_draw X) (hr.mono (by decide)) tk (by rfl) X.g_d_law_draw X.F_d_law_draw.kp (bd_d_law_draw X) (an_cons (an_cons an_nil)) (ca_cons (ce_v 0) (ca_cons (ce_op op_addA ops_add (ce_v 2) (ce_int)) (ca_nil)))) (ca_nil)))))))) (ce_call (n := 2) (ok_d_law_draw X) (hr.mono (by decide)) tk (by rfl) X.g_d_law_draw X.F_d_law_draw.kp (bd_d_law_draw X) (an_cons (an_cons an_nil)) (ca_cons (ce_v 0) (ca_cons (ce_int) (ca_nil)))) (fun _ _ => rfl)))
    (css_one (cs_ret (ce_call (n := 3) (ok_d_law_put X) (hr.mono (by decide)) tk (by rfl) X.g_d_law_put X.F_d_law_put.kp (bd_d_law_put X) (an_cons (an_cons (an_cons an_nil))) (ca_cons (ce_v 1) (ca_cons (ce_v 5) (ca_cons (ce_tup (ca_cons (ce_ix (ix_any hr.units) ops_ixA (ce_v 6) (ce_int) (fun _ _ => rfl)) (ca_cons (ce_ix (ix_any hr.units) ops_ixA (ce_v 6) (ce_int) (fun _ _ => rfl)) (ca_cons (ce_v 7) (ca_nil))))) (ca_nil)))))))) (css_nil))
    (css_cons (cs_if (ct_cmp (opA_eq hr.units) ops_eq (ce_v 4) (ce_int) (nomark _)) (css_one (cs_ret (ce_call (n := 3) (ok_d_law_put X) (hr.mono (by decide)) tk (by rfl) X.g_d_law_put X.F_d_law_put.kp (bd_d_law_put X) (an_cons (an_cons (an_cons an_nil))) (ca_cons (ce_v 1) (ca_cons (ce_v 5) (ca_cons (ce_tup (ca_cons (ce_ix (ix_any hr.units) ops_ixA (ce_v 6) (ce_int) (fun _ _ => rfl)) (ca_cons (ce_ix (ix_any hr.units) ops_ixA (ce_v 6) (ce_int) (fun _ _ => rfl)) (ca_cons (ce_ix (ix_any hr.units) ops_ixA (ce_v 6) (ce_int) (fun _ _ => rfl)) (ca_nil))))) (ca_nil))))))) (css_nil))
    (css_cons (cs_if (ct_cmp (opA_eq hr.units) ops_eq (ce_v 4) (ce_int) (nomark _)) (css_one (cs_ret (ce_op op_addA ops_add (ce_sl sl_LT sls_LT (ce_v 1) (co_none) (co_some (ce_v 5))) (ce_sl sl_LT sls_LT (ce_v 1) (co_some (ce_op op_addA ops_add (ce_v 5) (ce_int))) (co_none))))) (css_nil))
    (css_cons (cs_if (ct_cmp (opA_eq hr.units) ops_eq (ce_v 4) (ce_int) (nomark _)) (css_cons (cs_set (j := 7) sc_d_law_bent.nd rfl (Or.inl rfl) (ce_call (n := 2) (ok_d_law_draw X) (hr.mono (by decide)) tk (by rfl) X.g_d_law_draw X.F_d_law_draw.kp (bd_d_law_draw X) (an_cons (an_cons an_nil)) (ca_cons (ce_v 0) (ca_cons (ce_callB call_len fns_len (by rfl) X.b_len (by decide +kernel) (ca_cons (ce_v 1) (ca_nil))) (ca_nil)))))
    (css_one (cs_ret (ce_call (n := 3) (ok_d_law_put X) (hr.mono (by decide)) tk (by rfl) X.g_d_law_put X.F_d_law_put.kp (bd_d_law_put X) (an_cons (an_cons (an_cons an_nil))) (ca_cons (ce_call (n := 3) (ok_d_law_put X) (hr.mono (by decide)) tk (by rfl) X.g_d_law_put X.F_d_law_put.kp (bd_d_law_put X) (an_cons (an_cons (an_cons an_nil))) (ca_cons (ce_v 1) (ca_cons (ce_v 5) (ca_cons (ce_ix (ix_any hr.units) ops_ixA (ce_v 1) (ce_v 7) (fun _ _ => rfl)) (ca_nil))))) (ca_cons (ce_v 7) (ca_cons (ce_v 6) (ca_nil)))))))) (css_nil))
    (css_cons (cs_if (ct_cmp (opA_eq hr.units) ops_eq (ce_v 4) (ce_int) (nomark _)) (css_one (cs_ret (ce_op op_addA ops_add (ce_op op_addA ops_add (ce_sl sl_LT sls_LT (ce_v 1) (co_none) (co_some (ce_v 5))) (ce_tup (ca_cons (ce_v 6) (ca_nil)))) (ce_sl sl_LT sls_LT (ce_v 1) (co_some (ce_v 5)) (co_none))))) (css_nil))
    (css_cons (cs_if (ct_cmp (opA_eq hr.units) ops_eq (ce_v 4) (ce_int) (nomark _)) (css_cons (cs_set (j := 7) sc_d_law_bent.nd rfl (Or.inl rfl) (ce_ix (ix_any hr.units) ops_ixA (ce_lst (ca_cons (ce_str) (ca_cons (ce_non) (ca_cons (ce_int) (ca_cons (ce_op op_addA ops_add (ce_ix (ix_any hr.units) ops_ixA (ce_v 6) (ce_int) (fun _ _ => rfl)) (ce_str)) (ca_cons (ce_tup (ca_cons (ce_ix (ix_any hr.units) ops_ixA (ce_v 6) (ce_int) (fun _ _ => rfl)) (ca_nil))) (ca_nil))))))) (ce_call (n := 2) (ok_d_law_draw X) (hr.mono (by decide)) tk (by rfl) X.g_d_law_draw X.F_d_law_draw.kp (bd_d_law_draw X) (an_cons (an_cons an_nil)) (ca_cons (ce_v 0) (ca_cons (ce_int) (ca_nil)))) (fun _ _ => rfl)))
    (css_one (cs_ret (ce_call (n := 3) (ok_d_law_put X) (hr.mono (by decide)) tk (by rfl) X.g_d_law_put X.F_d_law_put.kp (bd_d_law_put X) (an_cons (an_cons (an_cons an_nil))) (ca_cons (ce_v 1) (ca_cons (ce_v 5) (ca_cons (ce_ix (ix_any hr.units) ops_ixA (ce_tup (ca_cons (ce_tup (ca_cons (ce_v 7) (ca_cons (ce_ix (ix_any hr.units) ops_ixA (ce_v 6) (ce_int) (fun _ _ => rfl)) (ca_cons (ce_ix (ix_any hr.units) ops_ixA (ce_v 6) (ce_int) (fun _ _ => rfl)) (ca_nil))))) (ca_cons (ce_tup (ca_cons (ce_ix (ix_any hr.units) ops_ixA (ce_v 6) (ce_int) (fun _ _ => rfl)) (ca_cons (ce_v 7) (ca_cons (ce_ix (ix_any hr.units) ops_ixA (ce_v 6) (ce_int) (fun _ _ => rfl)) (ca_nil))))) (ca_nil)))) (ce_call (n := 2) (ok_d_law_draw X) (hr.mono (by decide)) tk (by rfl) X.g_d_law_draw X.F_d_law_draw.kp (bd_d_law_draw X) (an_cons (an_cons an_nil)) (ca_cons (ce_v 0) (ca_cons (ce_int) (ca_nil)))) (fun _ _ => rfl)) (ca_nil)))))))) (css_nil))
    (css_one (cs_ret (ce_ix (ix_any hr.units) ops_ixA (ce_tup (ca_cons (ce_back (ce_v 1)) (ca_cons (ce_op op_addA ops_add (ce_v 1) (ce_v 1)) (ca_cons (ce_sl sl_LT sls_LT (ce_v 1) (co_none) (co_some (ce_v 5))) (ca_cons (ce_sl sl_LT sls_LT (ce_v 1) (co_some (ce_v 5)) (co_none)) (ca_cons (ce_tup (ca_cons (ce_v 1) (ca_nil))) (ca_nil))))))) (ce_call (n := 2) (ok_d_law_draw X) (hr.mono (by decide)) tk (by rfl) X.g_d_law_draw X.F_d_law_draw.kp (bd_d_law_draw X) (an_cons (an_cons an_nil)) (ca_cons (ce_v 0) (ca_cons (ce_int) (ca_nil)))) (fun _ _ => rfl))))))))))))))))))) :
      PSs _ _ (Ts _ _ _ b_d_law_bent))
noncomputable def b_need_plain : MS := sIf (tNot (tTru (eCall m_is_plain (aCons (eV 0) (aNil))))) (sRaise "BadStep" ["word"] (aCons (eC (.str "plain")) (aNil))) (sNil)
noncomputable def m_need_plain : List D → Store → R D := fnM 1 1 b_need_plain
theorem ok_need_plain (X : Fx K mg) : FnOk P w K mg base (L2.CX P w) 3 X.a_need_plain X.d_need_plain ["book"] (spM K mg 1 m_need_plain) :=
  okM (k := 2) X.F_need_plain sc_need_plain rfl fun cdv A outer s H E hr tk =>
    (css_one (cs_if (ct_not (ct_tru (ce_call (n := 1) (ok_is_plain X) (hr.mono (by decide)) tk (by rfl) X.g_is_plain X.F_is_plain.kp (bd_is_plain X) (an_cons an_nil) (ca_cons (ce_v 0) (ca_nil))))) (css_one (cs_raise1 rfl tk X.gc_BadStep X.T_BadStep X.iC_BadStep X.tI_BadStep (oi_BadStep X) (hr.mono (by decide)) (bi_BadStep X) (by rfl) (ca_cons (ce_str) (ca_nil)))) (css_nil)) :
      PSs _ _ (Ts _ _ _ b_need_plain))
noncomputable def le_sum_of_1 : ME D := e2 dIxA (eV 2) (eV 3)
noncomputable def b_sum_of : MS := sSeq (sExpr (eCall m_need_plain (aCons (eV 0) (aNil))))
  (sSeq (sSet 2 (eCall m_weight_table (aCons (eV 0) (aNil))))
  (sRet (eFn dSum (aCons (eLc (iSeq (eV 1)) [3] (gN 3) (tT) (le_sum_of_1)) (aNil)))))
noncomputable def m_sum_of : List D → Store → R D := fnM 4 2 b_sum_of
theorem ok_sum_of (X : Fx K mg) : FnOk P w K mg base (L2.CX P w) 4 X.a_sum_of X.d_sum_of ["book", "walk"] (spM K mg 2 m_sum_of) :=
  okM (k := 3) X.F_sum_of sc_sum_of rfl fun cdv A outer s H E hr tk =>
    (css_cons (cs_expr (ce_call (n := 1) (ok_need_plain X) (hr.mono (by decide)) tk (by rfl) X.g_need_plain X.F_need_plain.kp (bd_need_plain X) (an_cons an_nil) (ca_cons (ce_v 0) (ca_nil))))
    (css_cons (cs_set (j := 2) sc_sum_of.nd rfl (Or.inr rfl) (ce_call (n := 1) (ok_weight_table X) (hr.mono (by decide)) tk (by rfl) X.g_weight_table X.F_weight_table.kp (bd_weight_table X) (an_cons an_nil) (ca_cons (ce_v 0) (ca_nil))))
    (css_one (cs_ret (ce_callB (cr_sum rfl) fns_sum (by rfl) X.b_sum (by decide +kernel) (ca_cons (ce_lc (own := [("step", 3)]) rfl sc_sum_of.nd (ci_seq (ce_v 1)) (blkOk_by (N := ["book", "walk", "weights", "step"]) (sc := defScope s_sum_of) (by decide +kernel)) (fun _ _ _ _ _ => cg_name (i := 3) sc_sum_of.nd rfl (by first | exact Or.inl rfl | exact Or.inr rfl)) (fun _ _ _ _ _ => cts_nil) (fun _ _ _ _ _ => ce_ix (ix_any hr.units) ops_ixA (ce_v 2) (ce_v 3) (fun _ _ => rfl))) (ca_nil)))))) :
      PSs _ _ (Ts _ _ _ b_sum_of))
noncomputable def bl_is_walk_1 : MS := sSeq (sIf (tOr (tNot (tTru (eCall m_is_step (aCons (eV 5) (aCons (eV 8) (aNil)))))) (tV (e2 dNe (e2 dIxA (eV 8) (eC (.int 0))) (eV 6)))) (sRet (eC (.bl false))) (sNil))
  (sSeq (sSet 6 (e2 dIxA (eV 8) (eC (.int 1))))
  (sSet 7 (e2 dAdd (eV 7) (e2 dIxA (eV 5) (eV 8)))))
noncomputable def b_is_walk : MS := sSeq (sExpr (eCall m_need_plain (aCons (eV 0) (aNil))))
  (sSeq (sIf (tNot (tTru (e1 (dIsi "tuple") (eV 4)))) (sRet (eC (.bl false))) (sNil))
  (sSeq (sSet 5 (eCall m_weight_table (aCons (eV 0) (aNil))))
  (sSeq (sSet 6 (eV 1))
  (sSeq (sSet 7 (eC (.int 0)))
  (sSeq (sFor (iSeq (eV 4)) (gN 8) (bl_is_walk_1))
  (sRet (eAnd (e2 dEq (eV 6) (eV 2)) (e2 dGe (eV 7) (eV 3)))))))))
noncomputable def m_is_walk : List D → Store → R D := fnM 9 5 b_is_walk
theorem ok_is_walk (X : Fx K mg) : FnOk P w K mg base (L2.CX P w) 4 X.a_is_walk X.d_is_walk ["book", "start", "end", "least", "thing"] (spM K mg 5 m_is_walk) :=
  okM (k := 3) X.F_is_walk sc_is_walk rfl fun cdv A outer s H E hr tk =>
    (css_cons (cs_expr (ce_call (n := 1) (ok_need_plain X) (hr.mono (by decide)) tk (by rfl) X.g_need_plain X.F_need_plain.kp (bd_need_plain X) (an_cons an_nil) (ca_cons (ce_v 0) (ca_nil))))
    (css_cons (cs_if (ct_not (ct_tru (ce_isi (T := "tuple") (by rfl) X.b_isinstance (by rfl) X.b_tuple (by decide +kernel) (ce_v 4)))) (css_one (cs_ret (ce_bl))) (css_nil))
    (css_cons (cs_set (j := 5) sc_is_walk.nd rfl (Or.inl rfl) (ce_call (n := 1) (ok_weight_table X) (hr.mono (by decide)) tk (by rfl) X.g_weight_table X.F_weight_table.kp (bd_weight_table X) (an_cons an_nil) (ca_cons (ce_v 0) (ca_nil))))
    (css_cons (cs_set (j := 6) sc_is_walk.nd rfl (Or.inl rfl) (ce_v 1))
    (css_cons (cs_set (j := 7) sc_is_walk.nd rfl (Or.inl rfl) (ce_int))
    (css_cons (cs_for (passes_of rfl) rfl (ci_seq (ce_v 4)) (cg_name (i := 8) sc_is_walk.nd rfl (by first | exact Or.inl rfl | exact Or.inr rfl)) (css_cons (cs_if (PW.pt (cw_or (ct_not (ct_tru (ce_call (n := 2) (ok_is_step X) (hr.mono (by decide)) tk (by rfl) X.g_is_step X.F_is_step.kp (bd_is_step X) (an_cons (an_cons an_nil)) (ca_cons (ce_v 5) (ca_cons (ce_v 8) (ca_nil)))))) (cw_or1 (ct_cmp (opA_ne hr.units) ops_ne (ce_ix (ix_any hr.units) ops_ixA (ce_v 8) (ce_int) (fun _ _ => rfl)) (ce_v 6) (nomark _))))) (css_one (cs_ret (ce_bl))) (css_nil))
    (css_cons (cs_set (j := 6) sc_is_walk.nd rfl (Or.inl rfl) (ce_ix (ix_any hr.units) ops_ixA (ce_v 8) (ce_int) (fun _ _ => rfl)))
    (css_one (cs_set (j := 7) sc_is_walk.nd rfl (Or.inl rfl) (ce_op op_addA ops_add (ce_v 7) (ce_ix (ix_any hr.units) ops_ixA (ce_v 5) (ce_v 8) (fun _ _ => rfl))))))))
    (css_one (cs_ret (ce_and (ce_cmp (opA_eq hr.units) ops_eq (ce_v 6) (ce_v 2) (nomark _)) (ce_one (ce_cmp opA_ge ops_ge (ce_v 7) (ce_v 3) (nomark _))))))))))) :
      PSs _ _ (Ts _ _ _ b_is_walk))
noncomputable def bl_d_law_asked_1 : MS := sSeq (sSet 11 (eCall m_d_law_bent (aCons (eV 0) (aCons (eV 4) (aCons (eFn dLen (aCons (e2 dIxA (eV 1) (eC (.int 3))) (aNil))) (aNil))))))
  (sSeq (sSet 12 (e2 dIxA (eLst (aCons (e1 dNeg (eC (.int 1000000))) (aCons (eV 6) (aCons (eC (.int 0)) (aCons (eC (.int 1)) (aNil)))))) (eCall m_d_law_draw (aCons (eV 0) (aCons (eC (.int 4)) (aNil))))))
  (sIf (tNot (tTru (eCall m_d_law_told (aCons (eCall m_is_walk (aCons (eV 1) (aCons (eV 3) (aCons (eV 5) (aCons (eV 12) (aCons (eV 11) (aNil))))))) (aCons (eCall m_d_law_is (aCons (eV 2) (aCons (eV 3) (aCons (eV 5) (aCons (eV 12) (aCons (eV 11) (aNil))))))) (aNil)))))) (sRet (eC (.bl false))) (sNil)))
noncomputable def bl_d_law_asked_2 : MS := sSeq (sSet 10 (e2 dIxA (eV 4) (eV 9)))
  (sIf (tOr (tV (e2 dEq (e2 dIxA (eV 10) (eC (.int 2))) (eC (.int 0)))) (tV (e2 dEq (e2 dIxA (eV 10) (eC (.int 2))) (eC (.int 1))))) (sSeq (sIf (tV (e2 dIsNot (eCall m_is_walk (aCons (eV 1) (aCons (eV 3) (aCons (eV 5) (aCons (e1 dNeg (eC (.int 1000000))) (aCons (eCall m_d_law_put (aCons (eV 4) (aCons (eV 9) (aCons (eTup (aCons (e2 dIxA (eV 10) (eC (.int 0))) (aCons (e2 dIxA (eV 10) (eC (.int 1))) (aCons (e2 dEq (e2 dIxA (eV 10) (eC (.int 2))) (eC (.int 1))) (aNil))))) (aNil))))) (aNil))))))) (eC (.bl false)))) (sRet (eC (.bl false))) (sNil))
  (sBrk)) (sNil))
noncomputable def bl_d_law_asked_3 : MS := sSeq (sIf (tNot (tTru (eCall m_d_law_told (aCons (eCall m_is_walk (aCons (eV 1) (aCons (eV 8) (aCons (eV 5) (aCons (e1 dNeg (eC (.int 100000))) (aCons (eV 4) (aNil))))))) (aCons (eCall m_d_law_is (aCons (eV 2) (aCons (eV 8) (aCons (eV 5) (aCons (e1 dNeg (eC (.int 100000))) (aCons (eV 4) (aNil))))))) (aNil)))))) (sRet (eC (.bl false))) (sNil))
  (sIf (tNot (tTru (eCall m_d_law_told (aCons (eCall m_is_walk (aCons (eV 1) (aCons (eV 3) (aCons (eV 8) (aCons (e1 dNeg (eC (.int 100000))) (aCons (eV 4) (aNil))))))) (aCons (eCall m_d_law_is (aCons (eV 2) (aCons (eV 3) (aCons (eV 8) (aCons (e1 dNeg (eC (.int 100000))) (aCons (eV 4) (aNil))))))) (aNil)))))) (sRet (eC (.bl false))) (sNil))
noncomputable def b_d_law_asked : MS := sSeq (sSet 5 (eV 3))
  (sSeq (sIf (tV (e2 dNe (eV 4) (eTup (aNil)))) (sSet 5 (e2 dIxA (e2 dIxA (eV 4) (e2 dSub (eFn dLen (aCons (eV 4) (aNil))) (eC (.int 1)))) (eC (.int 1)))) (sNil))
  (sSeq (sSet 6 (eCall m_d_law_total (aCons (eV 2) (aCons (eV 4) (aNil)))))
  (sSeq (sIf (tOr (tV (e2 dIsNot (eCall m_is_walk (aCons (eV 1) (aCons (eV 3) (aCons (eV 5) (aCons (eV 6) (aCons (eV 4) (aNil))))))) (eC (.bl true)))) (tV (e2 dIsNot (eCall m_is_walk (aCons (eV 1) (aCons (eV 3) (aCons (eV 5) (aCons (e2 dAdd (eV 6) (eC (.int 1))) (aCons (eV 4) (aNil))))))) (eC (.bl false))))) (sRet (eC (.bl false))) (sNil))
  (sSeq (sIf (tV (e2 dIsNot (eCall m_is_walk (aCons (eV 1) (aCons (eV 3) (aCons (eV 5) (aCons (e2 dSub (e2 dSub (eV 6) (eC (.int 1))) (eCall m_d_law_draw (aCons (eV 0) (aCons (eC (.int 50)) (aNil))))) (aCons (eV 4) (aNil))))))) (eC (.bl true)))) (sRet (eC (.bl false))) (sNil))
  (sSeq (sSet 7 (eCall m_sum_of (aCons (eV 1) (aCons (eV 4) (aNil)))))
  (sSeq (sIf (tOr (tNot (tTru (e1 (dIsi "int") (eV 7)))) (tOr (tTru (e1 (dIsi "bool") (eV 7))) (tV (e2 dNe (eV 7) (eV 6))))) (sRet (eC (.bl false))) (sNil))
  (sSeq (sFor (iSeq (eSl dSl (e2 dIxA (eLst (aCons (e2 dAdd (eTup (aCons (eC (.str "")) (aNil))) (e2 dIxA (eV 1) (eC (.int 2)))) (aCons (eTup (aCons (eV 5) (aCons (eV 3) (aNil)))) (aNil)))) (eCall m_d_law_draw (aCons (eV 0) (aCons (eC (.int 2)) (aNil))))) (oNone) (oSome (eC (.int 6))))) (gN 8) (bl_d_law_asked_3))
  (sSeq (sFor (iRange1 (aCons (eFn dLen (aCons (eV 4) (aNil))) (aNil))) (gN 9) (bl_d_law_asked_2))
  (sSeq (sFor (iRange1 (aCons (eC (.int 8)) (aNil))) (gN 10) (bl_d_law_asked_1))
  (sRet (eC (.bl true))))))))))))
noncomputable def m_d_law_asked : List D → Store → R D := fnM 13 5 b_d_law_asked
theorem ok_d_law_asked (X : Fx K mg) : FnOk P w K mg base (L2.CX P w) 5 X.a_d_law_asked X.d_d_law_asked ["pool", "book", "table", "start", "walk"] (spM K mg 5 m_d_law_asked) :=
  okM (k := 4) X.F_d_law_asked sc_d_law_asked rfl fun cdv A outer s H E hr tk =>
    (css_cons (cs_set (j := 5) sc_d_law_asked.nd rfl (Or.inl rfl) (ce_v 3))
    (css_cons (cs_if (ct_cmp (opA_ne hr.units) ops_ne (ce_v 4) (ce_tup (ca_nil)) (nomark _)) (css_one (cs_set (j := 5) sc_d_law_asked.nd rfl (Or.inl rfl) (ce_ix (ix_any hr.units) ops_ixA (ce_ix (ix_any hr.units) ops_ixA (ce_v 4) (ce_op op_sub ops_sub (ce_callB call_len fns_len (by rfl) X.b_len (by decide +kernel) (ca_cons (ce_v 4) (ca_nil))) (ce_int)) (fun _ _ => rfl)) (ce_int) (fun _ _ => rfl)))) (css_nil))
    (css_cons (cs_set (j := 6) sc_d_law_asked.nd rfl (Or.inl rfl) (ce_call (n := 2) (ok_d_law_total X) (hr.mono (by decide)) tk (by rfl) X.g_d_law_total X.F_d_law_total.kp (bd_d_law_total X) (an_cons (an_cons an_nil)) (ca_cons (ce_v 2) (ca_cons (ce_v 4) (ca_nil)))))
    (css_cons (cs_if (PW.pt (cw_or (ct_cmp opA_isnot ops_isnot (ce_call (n := 5) (ok_is_walk X) (hr.mono (by decide)) tk (by rfl) X.g_is_walk X.F_is_walk.kp (bd_is_walk X) (an_cons (an_cons (an_cons (an_cons (an_cons an_nil))))) (ca_cons (ce_v 1) (ca_cons (ce_v 3) (ca_cons (ce_v 5) (ca_cons (ce_v 6) (ca_cons (ce_v 4) (ca_nil))))))) (ce_bl) (nomark _)) (cw_or1 (ct_cmp opA_isnot ops_isnot (ce_call (n := 5) (ok_is_walk X) (hr.mono (by decide)) tk (by rfl) X.g_is_walk X.F_is_walk.kp (bd_is_walk X) (an_cons (an_cons (an_cons (an_cons (an_cons an_nil))))) (ca_cons (ce_v 1) (ca_cons (ce_v 3) (ca_cons (ce_v 5) (ca_cons (ce_op op_addA ops_add (ce_v 6) (ce_int)) (ca_cons (ce_v 4) (ca_nil))))))) (ce_bl) (nomark _))))) (css_one (cs_ret (ce_bl))) (css_nil))
    (css_cons (cs_if (ct_cmp opA_isnot ops_isnot (ce_call (n := 5) (ok_is_walk X) (hr.mono (by decide)) tk (by rfl) X.g_is_walk X.F_is_walk.kp (bd_is_walk X) (an_cons (an_cons (an_cons (an_cons (an_cons an_nil))))) (ca_cons (ce_v 1) (ca_cons (ce_v 3) (ca_cons (ce_v 5) (ca_cons (ce_op op_sub ops_sub (ce_op op_sub ops_sub (ce_v 6) (ce_int)) (ce_call (n := 2) (ok_d_law_draw X) (hr.mono (by decide)) tk (by rfl) X.g_d_law_draw X.F_d_law_draw.kp (bd_d_law_draw X) (an_cons (an_cons an_nil)) (ca_cons (ce_v 0) (ca_cons (ce_int) (ca_nil))))) (ca_cons (ce_v 4) (ca_nil))))))) (ce_bl) (nomark _)) (css_one (cs_ret (ce_bl))) (css_nil))
    (css_cons (cs_set (j := 7) sc_d_law_asked.nd rfl (Or.inl rfl) (ce_call (n := 2) (ok_sum_of X) (hr.mono (by decide)) tk (by rfl) X.g_sum_of X.F_sum_of.kp (bd_sum_of X) (an_cons (an_cons an_nil)) (ca_cons (ce_v 1) (ca_cons (ce_v 4) (ca_nil)))))
    (css_cons (cs_if (PW.pt (cw_or (ct_not (ct_tru (ce_isi (T := "int") (by rfl) X.b_isinstance (by rfl) X.b_int (by decide +kernel) (ce_v 7)))) (cw_or (ct_tru (ce_isi (T := "bool") (by rfl) X.b_isinstance (by rfl) X.b_bool (by decide +kernel) (ce_v 7))) (cw_or1 (ct_cmp (opA_ne hr.units) ops_ne (ce_v 7) (ce_v 6) (nomark _)))))) (css_one (cs_ret (ce_bl))) (css_nil))
    (css_cons (cs_for (passes_of rfl) rfl (ci_seq (ce_sl sl_LT sls_LT (ce_ix (ix_any hr.units) ops_ixA (ce_lst (ca_cons (ce_op op_addA ops_add (ce_tup (ca_cons (ce_str) (ca_nil))) (ce_ix (ix_any hr.units) ops_ixA (ce_v 1) (ce_int) (fun _ _ => rfl))) (ca_cons (ce_tup (ca_cons (ce_v 5) (ca_cons (ce_v 3) (ca_nil)))) (ca_nil)))) (ce_call (n := 2) (ok_d_law_draw X) (hr.mono (by decide)) tk (by rfl) X.g_d_law_draw X.F_d_law_draw.kp (bd_d_law_draw X) (an_cons (an_cons an_nil)) (ca_cons (ce_v 0) (ca_cons (ce_int) (ca_nil)))) (fun _ _ => rfl)) (co_none) (co_some (ce_int)))) (cg_name (i := 8) sc_d_law_asked.nd rfl (by first | exact Or.inl rfl | exact Or.inr rfl)) (css_cons (cs_if (ct_not (ct_tru (ce_call (n := 2) (ok_d_law_told X) (hr.mono (by decide)) tk (by rfl) X.g_d_law_told X.F_d_law_told.kp (bd_d_law_told X) (an_cons (an_cons an_nil)) (ca_cons (ce_call (n := 5) (ok_is_walk X) (hr.mono (by decide)) tk (by rfl) X.g_is_walk X.F_is_walk.kp (bd_is_walk X) (an_cons (an_cons (an_cons (an_cons (an_cons an_nil))))) (ca_cons (ce_v 1) (ca_cons (ce_v 8) (ca_cons (ce_v 5) (ca_cons (ce_un un_neg uns_neg (ce_int)) (ca_cons (ce_v 4) (ca_nil))))))) (ca_cons (ce_call (n := 5) (ok_d_law_is X) (hr.mono (by decide)) tk (by rfl) X.g_d_law_is X.F_d_law_is.kp (bd_d_law_is X) (an_cons (an_cons (an_cons (an_cons (an_cons an_nil))))) (ca_cons (ce_v 2) (ca_cons (ce_v 8) (ca_cons (ce_v 5) (ca_cons (ce_un un_neg uns_neg (ce_int)) (ca_cons (ce_v 4) (ca_nil))))))) (ca_nil)))))) (css_one (cs_ret (ce_bl))) (css_nil))
    (css_one (cs_if (ct_not (ct_tru (ce_call (n := 2) (ok_d_law_told X) (hr.mono (by decide)) tk (by rfl) X.g_d_law_told X.F_d_law_told.kp (bd_d_law_told X) (an_cons (an_cons an_nil)) (ca_cons (ce_call (n := 5) (ok_is_walk X) (hr.mono (by decide)) tk (by rfl) X.g_is_walk X.F_is_walk.kp (bd_is_walk X) (an_cons (an_cons (an_cons (an_cons (an_cons an_nil))))) (ca_cons (ce_v 1) (ca_cons (ce_v 3) (ca_cons (ce_v 8) (ca_cons (ce_un un_neg uns_neg (ce_int)) (ca_cons (ce_v 4) (ca_nil))))))) (ca_cons (ce_call (n := 5) (ok_d_law_is X) (hr.mono (by decide)) tk (by rfl) X.g_d_law_is X.F_d_law_is.kp (bd_d_law_is X) (an_cons (an_cons (an_cons (an_cons (an_cons an_nil))))) (ca_cons (ce_v 2) (ca_cons (ce_v 3) (ca_cons (ce_v 8) (ca_cons (ce_un un_neg uns_neg (ce_int)) (ca_cons (ce_v 4) (ca_nil))))))) (ca_nil)))))) (css_one (cs_ret (ce_bl))) (css_nil)))))
    (css_cons (cs_for (passes_of rfl) rfl (ci_range1 (by rfl) X.b_range (ca_cons (ce_callB call_len fns_len (by rfl) X.b_len (by decide +kernel) (ca_cons (ce_v 4) (ca_nil))) (ca_nil))) (cg_name (i := 9) sc_d_law_asked.nd rfl (by first | exact Or.inl rfl | exact Or.inr rfl)) (css_cons (cs_set (j := 10) sc_d_law_asked.nd rfl (Or.inl rfl) (ce_ix (ix_any hr.units) ops_ixA (ce_v 4) (ce_v 9) (fun _ _ => rfl)))
    (css_one (cs_if (PW.pt (cw_or (ct_cmp (opA_eq hr.units) ops_eq (ce_ix (ix_any hr.units) ops_ixA (ce_v 10) (ce_int) (fun _ _ => rfl)) (ce_int) (nomark _)) (cw_or1 (ct_cmp (opA_eq hr.units) ops_eq (ce_ix (ix_any hr.units) ops_ixA (ce_v 10) (ce_int) (fun _ _ => rfl)) (ce_int) (nomark _))))) (css_cons (cs_if (ct_cmp opA_isnot ops_isnot (ce_call (n := 5) (ok_is_walk X) (hr.mono (by decide)) tk (by rfl) X.g_is_walk X.F_is_walk.kp (bd_is_walk X) (an_cons (an_cons (an_cons (an_cons (an_cons an_nil))))) (ca_cons (ce_v 1) (ca_cons (ce_v 3) (ca_cons (ce_v 5) (ca_cons (ce_un un_neg uns_neg (ce_int)) (ca_cons (ce_call (n := 3) (ok_d_law_put X) (hr.mono (by decide)) tk (by rfl) X.g_d_law_put X.F_d_law_put.kp (bd_d_law_put X) (an_cons (an_cons (an_cons an_nil))) (ca_cons (ce_v 4) (ca_cons (ce_v 9) (ca_cons (ce_tup (ca_cons (ce_ix (ix_any hr.units) ops_ixA (ce_v 10) (ce_int) (fun _ _ => rfl)) (ca_cons (ce_ix (ix_any hr.units) ops_ixA (ce_v 10) (ce_int) (fun _ _ => rfl)) (ca_cons (ce_cmp (opA_eq hr.units) ops_eq (ce_ix (ix_any hr.units) ops_ixA (ce_v 10) (ce_int) (fun _ _ => rfl)) (ce_int) (nomark _)) (ca_nil))))) (ca_nil))))) (ca_nil))))))) (ce_bl) (nomark _)) (css_one (cs_ret (ce_bl))) (css_nil))
    (css_one (cs_break))) (css_nil)))))
    (css_cons (cs_for (passes_of rfl) rfl (ci_range1 (by rfl) X.b_range (ca_cons (ce_int) (ca_nil))) (cg_name (i := 10) sc_d_law_asked.nd rfl (by first | exact Or.inl rfl | exact Or.inr rfl)) (css_cons (cs_set (j := 11) sc_d_law_asked.nd rfl (Or.inl rfl) (ce_call (n := 3) (ok_d_law_bent X) (hr.mono (by decide)) tk (by rfl) X.g_d_law_bent X.F_d_law_bent.kp (bd_d_law_bent X) (an_cons (an_cons (an_cons an_nil))) (ca_cons (ce_v 0) (ca_cons (ce_v 4) (ca_cons (ce_callB call_len fns_len (by rfl) X.b_len (by decide +kernel) (ca_cons (ce_ix (ix_any hr.units) ops_ixA (ce_v 1) (ce_int) (fun _ _ => rfl)) (ca_nil))) (ca_nil))))))
    (css_cons (cs_set (j := 12) sc_d_law_asked.nd rfl (Or.inl rfl) (ce_ix (ix_any hr.units) ops_ixA (ce_lst (ca_cons (ce_un un_neg uns_neg (ce_int)) (ca_cons (ce_v 6) (ca_cons (ce_int) (ca_cons (ce_int) (ca_nil)))))) (ce_call (n := 2) (ok_d_law_draw X) (hr.mono (by decide)) tk (by rfl) X.g_d_law_draw X.F_d_law_draw.kp (bd_d_law_draw X) (an_cons (an_cons an_nil)) (ca_cons (ce_v 0) (ca_cons (ce_int) (ca_nil)))) (fun _ _ => rfl)))
    (css_one (cs_if (ct_not (ct_tru (ce_call (n := 2) (ok_d_law_told X) (hr.mono (by decide)) tk (by rfl) X.g_d_law_told X.F_d_law_told.kp (bd_d_law_told X) (an_cons (an_cons an_nil)) (ca_cons (ce_call (n := 5) (ok_is_walk X) (hr.mono (by decide)) tk (by rfl) X.g_is_walk X.F_is_walk.kp (bd_is_walk X) (an_cons (an_cons (an_cons (an_cons (an_cons an_nil))))) (ca_cons (ce_v 1) (ca_cons (ce_v 3) (ca_cons (ce_v 5) (ca_cons (ce_v 12) (ca_cons (ce_v 11) (ca_nil))))))) (ca_cons (ce_call (n := 5) (ok_d_law_is X) (hr.mono (by decide)) tk (by rfl) X.g_d_law_is X.F_d_law_is.kp (bd_d_law_is X) (an_cons (an_cons (an_cons (an_cons (an_cons an_nil))))) (ca_cons (ce_v 2) (ca_cons (ce_v 3) (ca_cons (ce_v 5) (ca_cons (ce_v 12) (ca_cons (ce_v 11) (ca_nil))))))) (ca_nil)))))) (css_one (cs_ret (ce_bl))) (css_nil))))))
    (css_one (cs_ret (ce_bl)))))))))))) :
      PSs _ _ (Ts _ _ _ b_d_law_asked))
noncomputable def b_d_law_word : MS := sSeq (sTryAs 3 ["BadStep"] (sIf (tTru (eV 2)) (sExpr (eCall m_is_walk (aCons (eV 0) (aCons (eC (.str "")) (aCons (eC (.str "")) (aCons (eC (.int 0)) (aCons (eV 1) (aNil)))))))) (sExpr (eCall m_sum_of (aCons (eV 0) (aCons (eV 1) (aNil)))))) (fun g => sRet (eFld g 3 "word")))
  (sRet (eC .non))
noncomputable def m_d_law_word : List D → Store → R D := fnM 4 3 b_d_law_word
theorem ok_d_law_word (X : Fx K mg) : FnOk P w K mg base (L2.CX P w) 5 X.a_d_law_word X.d_d_law_word ["odd", "walk", "judge"] (spM K mg 3 m_d_law_word) :=
  okM (k := 4) X.F_d_law_word sc_d_law_word rfl fun cdv A outer s H E hr tk =>
    (css_cons (cs_tryAs (i := 3) (cs := ["BadStep"]) rfl rfl sc_d_law_word.nd rfl rfl ⟨by rfl, by decide, .inl X.gc_BadStep⟩ tk (hcs1 X.gc_BadStep X.te_BadStep) (fun W pn xe tk => css_one (cs_if (ct_tru (ce_v 2)) (css_one (cs_expr (ce_call (n := 5) (ok_is_walk X) (hr.mono (by decide)) tk (by rfl) X.g_is_walk X.F_is_walk.kp (bd_is_walk X) (an_cons (an_cons (an_cons (an_cons (an_cons an_nil))))) (ca_cons (ce_v 0) (ca_cons (ce_str) (ca_cons (ce_str) (ca_cons (ce_int) (ca_cons (ce_v 1) (ca_nil))))))))) (css_one (cs_expr (ce_call (n := 2) (ok_sum_of X) (hr.mono (by decide)) tk (by rfl) X.g_sum_of X.F_sum_of.kp (bd_sum_of X) (an_cons (an_cons an_nil)) (ca_cons (ce_v 0) (ca_cons (ce_v 1) (ca_nil)))))))) (fun a oe cls d pn g k hz hf h1 h2 h3 h4 => css_one (cs_ret (ce_fld (hxf1 X.gc_BadStep X.xf_BadStep X.no_BadStep_word h3 h4) hz hf h1 h2 (pv 3)))))
    (css_one (cs_ret (ce_non))) :
      PSs _ _ (Ts _ _ _ b_d_law_word))
noncomputable def bl_d_law_plain_1 : MS := sIf (tOr (tNot (tTru (e1 (dIsi "str") (eV 4)))) (tV (e2 dNe (eV 4) (eC (.str "plain"))))) (sRet (eC (.bl false))) (sNil)
noncomputable def b_d_law_plain : MS := sSeq (sSet 3 (e2 dIxA (eLst (aCons (eTup (aCons (eC (.str "years")) (aCons (e2 dIxA (e2 dIxA (eV 1) (eC (.int 2))) (eC (.int 0))) (aCons (eTup (aCons (eTup (aCons (eC (.int 0)) (aCons (eC (.int 1)) (aNil)))) (aCons (eTup (aCons (eC (.int 3)) (aCons (eC (.int 4)) (aNil)))) (aNil)))) (aNil))))) (aCons (eTup (aCons (eC (.str "years")) (aCons (e2 dIxA (e2 dIxA (eV 1) (eC (.int 2))) (eC (.int 0))) (aCons (eTup (aNil)) (aNil))))) (aNil)))) (eCall m_d_law_draw (aCons (eV 0) (aCons (eC (.int 2)) (aNil))))))
  (sSeq (sIf (tAnd (tV (e2 dGt (eFn dLen (aCons (e2 dIxA (eV 1) (eC (.int 2))) (aNil))) (eC (.int 1)))) (tV (e2 dEq (eCall m_d_law_draw (aCons (eV 0) (aCons (eC (.int 2)) (aNil)))) (eC (.int 0))))) (sSet 3 (eTup (aCons (eC (.str "under")) (aCons (e2 dIxA (e2 dIxA (eV 1) (eC (.int 2))) (eC (.int 0))) (aCons (eC (.int 1)) (aCons (eTup (aCons (eTup (aCons (e2 dIxA (e2 dIxA (eV 1) (eC (.int 2))) (eC (.int 1))) (aCons (eC (.int 1)) (aNil)))) (aCons (eTup (aCons (e2 dIxA (e2 dIxA (eV 1) (eC (.int 2))) (eC (.int 1))) (aCons (eC (.int 2)) (aNil)))) (aNil)))) (aNil))))))) (sNil))
  (sSeq (sSet 1 (eTup (aCons (e2 dIxA (eV 1) (eC (.int 0))) (aCons (e2 dIxA (eV 1) (eC (.int 1))) (aCons (e2 dIxA (eV 1) (eC (.int 2))) (aCons (e2 dAdd (e2 dIxA (eV 1) (eC (.int 3))) (eTup (aCons (eTup (aCons (eC (.str "dan")) (aCons (eV 3) (aNil)))) (aNil)))) (aNil)))))))
  (sSeq (sFor (iSeq (eLst (aCons (eCall m_d_law_word (aCons (eV 1) (aCons (eV 2) (aCons (eC (.bl true)) (aNil))))) (aCons (eCall m_d_law_word (aCons (eV 1) (aCons (eTup (aNil)) (aCons (eC (.bl false)) (aNil))))) (aNil))))) (gN 4) (bl_d_law_plain_1))
  (sRet (eC (.bl true))))))
noncomputable def m_d_law_plain : List D → Store → R D := fnM 5 3 b_d_law_plain
theorem ok_d_law_plain (X : Fx K mg) : FnOk P w K mg base (L2.CX P w) 6 X.a_d_law_plain X.d_d_law_plain ["pool", "book", "walk"] (spM K mg 3 m_d_law_plain) :=
  okM (k := 5) X.F_d_law_plain sc_d_law_plain rfl fun cdv A outer s H E hr tk =>
    (css_cons (cs_set (j := 3) sc_d_law_plain.nd rfl (Or.inl rfl) (ce_ix (ix_any hr.units) ops_ixA (ce_lst (ca_cons (ce_tup (ca_cons (ce_str) (ca_cons (ce_ix (ix_any hr.units) ops_ixA (ce_ix (ix_any hr.units) ops_ixA (ce_v 1) (ce_int) (fun _ _ => rfl)) (ce_int) (fun _ _ => rfl)) (ca_cons (ce_tup (ca_cons (ce_tup (ca_cons (ce_int) (ca_cons (ce_int) (ca_nil)))) (ca_cons (ce_tup (ca_cons (ce_int) (ca_cons (ce_int) (ca_nil)))) (ca_nil)))) (ca_nil))))) (ca_cons (ce_tup (ca_cons (ce_str) (ca_cons (ce_ix (ix_any hr.units) ops_ixA (ce_ix (ix_any hr.units) ops_ixA (ce_v 1) (ce_int) (fun _ _ => rfl)) (ce_int) (fun _ _ => rfl)) (ca_cons (ce_tup (ca_nil)) (ca_nil))))) (ca_nil)))) (ce_call (n := 2) (ok_d_law_draw X) (hr.mono (by decide)) tk (by rfl) X.g_d_law_draw X.F_d_law_draw.kp (bd_d_law_draw X) (an_cons (an_cons an_nil)) (ca_cons (ce_v 0) (ca_cons (ce_int) (ca_nil)))) (fun _ _ => rfl)))
    (css_cons (cs_if (PW.pt (cw_and (ct_cmp opA_gt ops_gt (ce_callB call_len fns_len (by rfl) X.b_len (by decide +kernel) (ca_cons (ce_ix (ix_any hr.units) ops_ixA (ce_v 1) (ce_int) (fun _ _ => rfl)) (ca_nil))) (ce_int) (nomark _)) (cw_and1 (ct_cmp (opA_eq hr.units) ops_eq (ce_call (n := 2) (ok_d_law_draw X) (hr.mono (by decide)) tk (by rfl) X.g_d_law_draw X.F_d_law_draw.kp (bd_d_law_draw X) (an_cons (an_cons an_nil)) (ca_cons (ce_v 0) (ca_cons (ce_int) (ca_nil)))) (ce_int) (nomark _))))) (css_one (cs_set (j := 3) sc_d_law_plain.nd rfl (Or.inl rfl) (ce_tup (ca_cons (ce_str) (ca_cons (ce_ix (ix_any hr.units) ops_ixA (ce_ix (ix_any hr.units) ops_ixA (ce_v 1) (ce_int) (fun _ _ => rfl)) (ce_int) (fun _ _ => rfl)) (ca_cons (ce_int) (ca_cons (ce_tup (ca_cons (ce_tup (ca_cons (ce_ix (ix_any hr.units) ops_ixA (ce_ix (ix_any hr.units) ops_ixA (ce_v 1) (ce_int) (fun _ _ => rfl)) (ce_int) (fun _ _ => rfl)) (ca_cons (ce_int) (ca_nil)))) (ca_cons (ce_tup (ca_cons (ce_ix (ix_any hr.units) ops_ixA (ce_ix (ix_any hr.units) ops_ixA (ce_v 1) (ce_int) (fun _ _ => rfl)) (ce_int) (fun _ _ => rfl)) (ca_cons (ce_int) (ca_nil)))) (ca_nil)))) (ca_nil)))))))) (css_nil))
    (css_cons (cs_set (j := 1) sc_d_law_plain.nd rfl (Or.inl rfl) (ce_tup (ca_cons (ce_ix (ix_any hr.units) ops_ixA (ce_v 1) (ce_int) (fun _ _ => rfl)) (ca_cons (ce_ix (ix_any hr.units) ops_ixA (ce_v 1) (ce_int) (fun _ _ => rfl)) (ca_cons (ce_ix (ix_any hr.units) ops_ixA (ce_v 1) (ce_int) (fun _ _ => rfl)) (ca_cons (ce_op op_addA ops_add (ce_ix (ix_any hr.units) ops_ixA (ce_v 1) (ce_int) (fun _ _ => rfl)) (ce_tup (ca_cons (ce_tup (ca_cons (ce_str) (ca_cons (ce_v 3) (ca_nil)))) (ca_nil)))) (ca_nil)))))))
    (css_cons (cs_for (passes_of rfl) rfl (ci_seq (ce_lst (ca_cons (ce_call (n := 3) (ok_d_law_word X) (hr.mono (by decide)) tk (by rfl) X.g_d_law_word X.F_d_law_word.kp (bd_d_law_word X) (an_cons (an_cons (an_cons an_nil))) (ca_cons (ce_v 1) (ca_cons (ce_v 2) (ca_cons (ce_bl) (ca_nil))))) (ca_cons (ce_call (n := 3) (ok_d_law_word X) (hr.mono (by decide)) tk (by rfl) X.g_d_law_word X.F_d_law_word.kp (bd_d_law_word X) (an_cons (an_cons (an_cons an_nil))) (ca_cons (ce_v 1) (ca_cons (ce_tup (ca_nil)) (ca_cons (ce_bl) (ca_nil))))) (ca_nil))))) (cg_name (i := 4) sc_d_law_plain.nd rfl (by first | exact Or.inl rfl | exact Or.inr rfl)) (css_one (cs_if (PW.pt (cw_or (ct_not (ct_tru (ce_isi (T := "str") (by rfl) X.b_isinstance (by rfl) X.b_str (by decide +kernel) (ce_v 4)))) (cw_or1 (ct_cmp (opA_ne hr.units) ops_ne (ce_v 4) (ce_str) (nomark _))))) (css_one (cs_ret (ce_bl))) (css_nil))))
    (css_one (cs_ret (ce_bl)))))) :
      PSs _ _ (Ts _ _ _ b_d_law_plain))
noncomputable def bl_law_1 : MS := sIf (tAnd (tV (e2 dEq (e2 dIxA (eV 13) (eC (.int 0))) (e2 dIxA (eV 5) (eC (.int 1))))) (tAnd (tV (e2 dEq (e2 dIxA (eV 13) (eC (.int 1))) (e2 dIxA (eV 5) (eC (.int 0))))) (tV (e2 dEq (e2 dAdd (e2 dIxA (eV 7) (eV 13)) (e2 dIxA (eV 7) (eV 12))) (eC (.int 0)))))) (sSeq (sSet 14 (e2 dAdd (eTup (aCons (eV 12) (aCons (eV 13) (aNil)))) (eCall m_d_law_walk (aCons (eV 1) (aCons (eV 8) (aCons (e2 dIxA (eV 5) (eC (.int 0))) (aCons (e2 dAdd (eC (.int 1)) (e2 dDiv (eV 4) (eC (.int 2)))) (aNil))))))))
  (sRet (eAnd (eCall m_d_law_asked (aCons (eV 1) (aCons (eV 6) (aCons (eV 7) (aCons (e2 dIxA (eV 5) (eC (.int 0))) (aCons (eV 14) (aNil))))))) (eCall m_d_law_plain (aCons (eV 1) (aCons (eV 6) (aCons (eV 14) (aNil)))))))) (sNil)
noncomputable def bl_law_2 : MS := sFor (iSeq (eV 8)) (gN 13) (bl_law_1)
noncomputable def lt_law_3 : ME Bool := tAnd (tV (e2 dEq (e2 dIxA (eV 15) (eC (.int 0))) (e2 dIxA (eV 5) (eC (.int 0))))) (tAnd (tV (e2 dEq (e2 dIxA (eV 15) (eC (.int 1))) (e2 dIxA (eV 5) (eC (.int 1))))) (tV (e2 dGe (e2 dIxA (eV 15) (eC (.int 2))) (eC (.int 0)))))
noncomputable def le_law_4 : ME D := eV 15
noncomputable def b_law : MS := sSeq (sSet 1 (eCall m_d_law_pool (aCons (eV 0) (aNil))))
  (sSeq (sSet 2 (eCall m_d_law_draw (aCons (eV 1) (aCons (eC (.int 5)) (aNil)))))
  (sSeq (sSet 3 (eCall m_d_law_draw (aCons (eV 1) (aCons (eC (.int 7)) (aNil)))))
  (sSeq (sSet 4 (eCall m_d_law_draw (aCons (eV 1) (aCons (eC (.int 9)) (aNil)))))
  (sSeq (sIf (tV (e2 dEq (eCall m_d_law_draw (aCons (eV 1) (aCons (eC (.int 7)) (aNil)))) (eC (.int 5)))) (sSeq (sSet 2 (e2 dAdd (eC (.int 11)) (eCall m_d_law_draw (aCons (eV 1) (aCons (eC (.int 30)) (aNil))))))
  (sSeq (sSet 3 (e2 dAdd (eC (.int 100)) (eCall m_d_law_draw (aCons (eV 1) (aCons (eC (.int 18)) (aNil))))))
  (sSet 4 (e2 dAdd (eC (.int 25)) (eCall m_d_law_draw (aCons (eV 1) (aCons (eC (.int 36)) (aNil)))))))) (sNil))
  (sSeq (sSet 5 (eCall m_d_law_deeds (aCons (eV 1) (aCons (eV 2) (aNil)))))
  (sSeq (sIf (tV (e2 dEq (eV 2) (eC (.int 0)))) (sSet 3 (eC (.int 0))) (sNil))
  (sSeq (sSet 6 (eCall m_d_law_book (aCons (eV 1) (aCons (eV 5) (aCons (eV 3) (aNil))))))
  (sSeq (sSet 7 (eCall m_d_law_table (aCons (eV 6) (aNil))))
  (sSeq (sSet 8 (eFn dSorted (aCons (eFn dListA (aCons (eV 7) (aNil))) (aNil))))
  (sSeq (sSet 9 (e2 dAdd (eTup (aCons (eC (.str "")) (aNil))) (e2 dIxA (eV 6) (eC (.int 2)))))
  (sSeq (sSet 10 (e2 dIxA (eV 9) (eCall m_d_law_draw (aCons (eV 1) (aCons (eFn dLen (aCons (eV 9) (aNil))) (aNil))))))
  (sSeq (sIf (tNot (tTru (eCall m_d_law_asked (aCons (eV 1) (aCons (eV 6) (aCons (eV 7) (aCons (eV 10) (aCons (eCall m_d_law_walk (aCons (eV 1) (aCons (eV 8) (aCons (eV 10) (aCons (eV 4) (aNil)))))) (aNil))))))))) (sRet (eC (.bl false))) (sNil))
  (sSeq (sIf (tV (e2 dGt (eV 2) (eC (.int 1)))) (sSeq (sSet 11 (eLc (iSeq (eV 8)) [15] (gN 15) (lt_law_3) (le_law_4)))
  (sSeq (sFor (iSeq (eV 11)) (gN 12) (bl_law_2))
  (sRet (eC (.bl false))))) (sNil))
  (sSeq (sIf (tV (e2 dEq (eV 2) (eC (.int 1)))) (sRet (eCall m_d_law_plain (aCons (eV 1) (aCons (eV 6) (aCons (eTup (aNil)) (aNil)))))) (sNil))
  (sRet (eAnd (e2 dIs (eCall m_is_walk (aCons (eV 6) (aCons (eC (.str "")) (aCons (eC (.str "")) (aCons (eC (.int 0)) (aCons (eTup (aNil)) (aNil))))))) (eC (.bl true))) (e2 dIs (eCall m_is_walk (aCons (eV 6) (aCons (eC (.str "")) (aCons (eC (.str "")) (aCons (eC (.int 1)) (aCons (eTup (aNil)) (aNil))))))) (eC (.bl false)))))))))))))))))))
noncomputable def m_law : List D → Store → R D := fnM 16 1 b_law
theorem ok_law (X : Fx K mg) : FnOk P w K mg base (L2.CX P w) 7 X.a_law X.d_law ["script"] (spM K mg 1 m_law) :=
  okM (k := 6) X.F_law sc_law rfl fun cdv A outer s H E hr tk =>
    (css_cons (cs_set (j := 1) sc_law.nd rfl (Or.inl rfl) (ce_call (n := 1) (ok_d_law_pool X) (hr.mono (by decide)) tk (by rfl) X.g_d_law_pool X.F_d_law_pool.kp (bd_d_law_pool X) (an_cons an_nil) (ca_cons (ce_v 0) (ca_nil))))
    (css_cons (cs_set (j := 2) sc_law.nd rfl (Or.inl rfl) (ce_call (n := 2) (ok_d_law_draw X) (hr.mono (by decide)) tk (by rfl) X.g_d_law_draw X.F_d_law_draw.kp (bd_d_law_draw X) (an_cons (an_cons an_nil)) (ca_cons (ce_v 1) (ca_cons (ce_int) (ca_nil)))))
    (css_cons (cs_set (j := 3) sc_law.nd rfl (Or.inl rfl) (ce_call (n := 2) (ok_d_law_draw X) (hr.mono (by decide)) tk (by rfl) X.g_d_law_draw X.F_d_law_draw.kp (bd_d_law_draw X) (an_cons (an_cons an_nil)) (ca_cons (ce_v 1) (ca_cons (ce_int) (ca_nil)))))
    (css_cons (cs_set (j := 4) sc_law.nd rfl (Or.inl rfl) (ce_call (n := 2) (ok_d_law_draw X) (hr.mono (by decide)) tk (by rfl) X.g_d_law_draw X.F_d_law_draw.kp (bd_d_law_draw X) (an_cons (an_cons an_nil)) (ca_cons (ce_v 1) (ca_cons (ce_int) (ca_nil)))))
    (css_cons (cs_if (ct_cmp (opA_eq hr.units) ops_eq (ce_call (n := 2) (ok_d_law_draw X) (hr.mono (by decide)) tk (by rfl) X.g_d_law_draw X.F_d_law_draw.kp (bd_d_law_draw X) (an_cons (an_cons an_nil)) (ca_cons (ce_v 1) (ca_cons (ce_int) (ca_nil)))) (ce_int) (nomark _)) (css_cons (cs_set (j := 2) sc_law.nd rfl (Or.inl rfl) (ce_op op_addA ops_add (ce_int) (ce_call (n := 2) (ok_d_law_draw X) (hr.mono (by decide)) tk (by rfl) X.g_d_law_draw X.F_d_law_draw.kp (bd_d_law_draw X) (an_cons (an_cons an_nil)) (ca_cons (ce_v 1) (ca_cons (ce_int) (ca_nil))))))
    (css_cons (cs_set (j := 3) sc_law.nd rfl (Or.inl rfl) (ce_op op_addA ops_add (ce_int) (ce_call (n := 2) (ok_d_law_draw X) (hr.mono (by decide)) tk (by rfl) X.g_d_law_draw X.F_d_law_draw.kp (bd_d_law_draw X) (an_cons (an_cons an_nil)) (ca_cons (ce_v 1) (ca_cons (ce_int) (ca_nil))))))
    (css_one (cs_set (j := 4) sc_law.nd rfl (Or.inl rfl) (ce_op op_addA ops_add (ce_int) (ce_call (n := 2) (ok_d_law_draw X) (hr.mono (by decide)) tk (by rfl) X.g_d_law_draw X.F_d_law_draw.kp (bd_d_law_draw X) (an_cons (an_cons an_nil)) (ca_cons (ce_v 1) (ca_cons (ce_int) (ca_nil))))))))) (css_nil))
    (css_cons (cs_set (j := 5) sc_law.nd rfl (Or.inr rfl) (ce_call (n := 2) (ok_d_law_deeds X) (hr.mono (by decide)) tk (by rfl) X.g_d_law_deeds X.F_d_law_deeds.kp (bd_d_law_deeds X) (an_cons (an_cons an_nil)) (ca_cons (ce_v 1) (ca_cons (ce_v 2) (ca_nil)))))
    (css_cons (cs_if (ct_cmp (opA_eq hr.units) ops_eq (ce_v 2) (ce_int) (nomark _)) (css_one (cs_set (j := 3) sc_law.nd rfl (Or.inl rfl) (ce_int))) (css_nil))
    (css_cons (cs_set (j := 6) sc_law.nd rfl (Or.inl rfl) (ce_call (n := 3) (ok_d_law_book X) (hr.mono (by decide)) tk (by rfl) X.g_d_law_book X.F_d_law_book.kp (bd_d_law_book X) (an_cons (an_cons (an_cons an_nil))) (ca_cons (ce_v 1) (ca_cons (ce_v 5) (ca_cons (ce_v 3) (ca_nil))))))
    (css_cons (cs_set (j := 7) sc_law.nd rfl (Or.inl rfl) (ce_call (n := 1) (ok_d_law_table X) (hr.mono (by decide)) tk (by rfl) X.g_d_law_table X.F_d_law_table.kp (bd_d_law_table X) (an_cons an_nil) (ca_cons (ce_v 6) (ca_nil))))
    (css_cons (cs_set (j := 8) sc_law.nd rfl (Or.inl rfl) (ce_callB (cr_sortedB hr.units) fns_sorted (by rfl) X.b_sorted (by decide +kernel) (ca_cons (ce_callTy (call_listA rfl) fns_listA (by rfl) X.b_list (by decide +kernel) (ca_cons (ce_v 7) (ca_nil))) (ca_nil))))
    (css_cons (cs_set (j := 9) sc_law.nd rfl (Or.inl rfl) (ce_op op_addA ops_add (ce_tup (ca_cons (ce_str) (ca_nil))) (ce_ix (ix_any hr.units) ops_ixA (ce_v 6) (ce_int) (fun _ _ => rfl))))
    (css_cons (cs_set (j := 10) sc_law.nd rfl (Or.inl rfl) (ce_ix (ix_any hr.units) ops_ixA (ce_v 9) (ce_call (n := 2) (ok_d_law_draw X) (hr.mono (by decide)) tk (by rfl) X.g_d_law_draw X.F_d_law_draw.kp (bd_d_law_draw X) (an_cons (an_cons an_nil)) (ca_cons (ce_v 1) (ca_cons (ce_callB call_len fns_len (by rfl) X.b_len (by decide +kernel) (ca_cons (ce_v 9) (ca_nil))) (ca_nil)))) (fun _ _ => rfl)))
    (css_cons (cs_if (ct_not (ct_tru (ce_call (n := 5) (ok_d_law_asked X) (hr.mono (by decide)) tk (by rfl) X.g_d_law_asked X.F_d_law_asked.kp (bd_d_law_asked X) (an_cons (an_cons (an_cons (an_cons (an_cons an_nil))))) (ca_cons (ce_v 1) (ca_cons (ce_v 6) (ca_cons (ce_v 7) (ca_cons (ce_v 10) (ca_cons (ce_call (n := 4) (ok_d_law_walk X) (hr.mono (by decide)) tk (by rfl) X.g_d_law_walk X.F_d_law_walk.kp (bd_d_law_walk X) (an_cons (an_cons (an_cons (an_cons an_nil)))) (ca_cons (ce_v 1) (ca_cons (ce_v 8) (ca_cons (ce_v 10) (ca_cons (ce_v 4) (ca_nil)))))) (ca_nil))))))))) (css_one (cs_ret (ce_bl))) (css_nil))
    (css_cons (cs_if (ct_cmp opA_gt ops_gt (ce_v 2) (ce_int) (nomark _)) (css_cons (cs_setLc (i := 11) (own := [("step", 15)]) rfl sc_law.nd rfl rfl (sw_true rfl rfl rfl (by decide +kernel)) (ci_seq (ce_v 8)) (blkOk_by (N := ["script", "pool", "many", "count", "most", "names", "book", "table", "steps", "nodes", "start", "here", "ahead", "back", "walk", "step"]) (sc := defScope s_law) (by decide +kernel)) (fun _ _ _ _ _ => cg_name (i := 15) sc_law.nd rfl (by first | exact Or.inl rfl | exact Or.inr rfl)) (fun _ _ _ _ _ => cts_one (PW.pt (cw_and (ct_cmp (opA_eq hr.units) ops_eq (ce_ix (ix_any hr.units) ops_ixA (ce_v 15) (ce_int) (fun _ _ => rfl)) (ce_ix (ix_any hr.units) ops_ixA (ce_v 5) (ce_int) (fun _ _ => rfl)) (nomark _)) (cw_and (ct_cmp (opA_eq hr.units) ops_eq (ce_ix (ix_any hr.units) ops_ixA (ce_v 15) (ce_int) (fun _ _ => rfl)) (ce_ix (ix_any hr.units) ops_ixA (ce_v 5) (ce_int) (fun _ _ => rfl)) (nomark _)) (cw_and1 (ct_cmp opA_ge ops_ge (ce_ix (ix_any hr.units) ops_ixA (ce_v 15) (ce_int) (fun _ _ => rfl)) (ce_int) (nomark _))))))) (fun _ _ _ _ _ => ce_v 15))
    (css_cons (cs_for (passes_of rfl) rfl (ci_seq (ce_v 11)) (cg_name (i := 12) sc_law.nd rfl (by first | exact Or.inl rfl | exact Or.inr rfl)) (css_one (cs_for (passes_of rfl) rfl (ci_seq (ce_v 8)) (cg_name (i := 13) sc_law.nd rfl (by first | exact Or.inl rfl | exact Or.inr rfl)) (css_one (cs_if (PW.pt (cw_and (ct_cmp (opA_eq hr.units) ops_eq (ce_ix (ix_any hr.units) ops_ixA (ce_v 13) (ce_int) (fun _ _ => rfl)) (ce_ix (ix_any hr.units) ops_ixA (ce_v 5) (ce_int) (fun _ _ => rfl)) (nomark _)) (cw_and (ct_cmp (opA_eq hr.units) ops_eq (ce_ix (ix_any hr.units) ops_ixA (ce_v 13) (ce_int) (fun _ _ => rfl)) (ce_ix (ix_any hr.units) ops_ixA (ce_v 5) (ce_int) (fun _ _ => rfl)) (nomark _)) (cw_and1 (ct_cmp (opA_eq hr.units) ops_eq (ce_op op_addA ops_add (ce_ix (ix_any hr.units) ops_ixA (ce_v 7) (ce_v 13) (fun _ _ => rfl)) (ce_ix (ix_any hr.units) ops_ixA (ce_v 7) (ce_v 12) (fun _ _ => rfl))) (ce_int) (nomark _)))))) (css_cons (cs_set (j := 14) sc_law.nd rfl (Or.inl rfl) (ce_op op_addA ops_add (ce_tup (ca_cons (ce_v 12) (ca_cons (ce_v 13) (ca_nil)))) (ce_call (n := 4) (ok_d_law_walk X) (hr.mono (by decide)) tk (by rfl) X.g_d_law_walk X.F_d_law_walk.kp (bd_d_law_walk X) (an_cons (an_cons (an_cons (an_cons an_nil)))) (ca_cons (ce_v 1) (ca_cons (ce_v 8) (ca_cons (ce_ix (ix_any hr.units) ops_ixA (ce_v 5) (ce_int) (fun _ _ => rfl)) (ca_cons (ce_op op_addA ops_add (ce_int) (ce_op op_fdiv ops_div (ce_v 4) (ce_int))) (ca_nil))))))))
    (css_one (cs_ret (ce_and (ce_call (n := 5) (ok_d_law_asked X) (hr.mono (by decide)) tk (by rfl) X.g_d_law_asked X.F_d_law_asked.kp (bd_d_law_asked X) (an_cons (an_cons (an_cons (an_cons (an_cons an_nil))))) (ca_cons (ce_v 1) (ca_cons (ce_v 6) (ca_cons (ce_v 7) (ca_cons (ce_ix (ix_any hr.units) ops_ixA (ce_v 5) (ce_int) (fun _ _ => rfl)) (ca_cons (ce_v 14) (ca_nil))))))) (ce_one (ce_call (n := 3) (ok_d_law_plain X) (hr.mono (by decide)) tk (by rfl) X.g_d_law_plain X.F_d_law_plain.kp (bd_d_law_plain X) (an_cons (an_cons (an_cons an_nil))) (ca_cons (ce_v 1) (ca_cons (ce_v 6) (ca_cons (ce_v 14) (ca_nil)))))))))) (css_nil))))))
    (css_one (cs_ret (ce_bl))))) (css_nil))
    (css_cons (cs_if (ct_cmp (opA_eq hr.units) ops_eq (ce_v 2) (ce_int) (nomark _)) (css_one (cs_ret (ce_call (n := 3) (ok_d_law_plain X) (hr.mono (by decide)) tk (by rfl) X.g_d_law_plain X.F_d_law_plain.kp (bd_d_law_plain X) (an_cons (an_cons (an_cons an_nil))) (ca_cons (ce_v 1) (ca_cons (ce_v 6) (ca_cons (ce_tup (ca_nil)) (ca_nil))))))) (css_nil))
    (css_one (cs_ret (ce_and (ce_cmp opA_is ops_is (ce_call (n := 5) (ok_is_walk X) (hr.mono (by decide)) tk (by rfl) X.g_is_walk X.F_is_walk.kp (bd_is_walk X) (an_cons (an_cons (an_cons (an_cons (an_cons an_nil))))) (ca_cons (ce_v 6) (ca_cons (ce_str) (ca_cons (ce_str) (ca_cons (ce_int) (ca_cons (ce_tup (ca_nil)) (ca_nil))))))) (ce_bl) (nomark _)) (ce_one (ce_cmp opA_is ops_is (ce_call (n := 5) (ok_is_walk X) (hr.mono (by decide)) tk (by rfl) X.g_is_walk X.F_is_walk.kp (bd_is_walk X) (an_cons (an_cons (an_cons (an_cons (an_cons an_nil))))) (ca_cons (ce_v 6) (ca_cons (ce_str) (ca_cons (ce_str) (ca_cons (ce_int) (ca_cons (ce_tup (ca_nil)) (ca_nil))))))) (ce_bl) (nomark _)))))))))))))))))))) :
      PSs _ _ (Ts _ _ _ b_law))
end Law
namespace Law
open PySem Mi
/-- the pool at p, its cells at c -/
def Pool (c p : Nat) (s : Store) : Prop := ∃ (cs : List Int) (t : Nat), s[p]? = some (.lst [.loc c, .int t]) ∧ s[c]? = some (.lst (cs.map D.int)) ∧ 0 < cs.length ∧ cs.length ≤ 100 ∧ c ≠ p
def Kp2 (c p : Nat) (s s' : Store) : Prop := s.length ≤ s'.length ∧ ∀ l, l < s.length → l ≠ p → l ≠ c → s'[l]? = s[l]?
theorem Kp2.refl (c p : Nat) (s : Store) : Kp2 c p s s := ⟨Nat.le_refl _, fun _ _ _ _ => rfl⟩
theorem Kp2.trans {c p : Nat} {s s1 s2 : Store} (a : Kp2 c p s s1) (b : Kp2 c p s1 s2) : Kp2 c p s s2 :=
  ⟨Nat.le_trans a.1 b.1, fun l h n m => (b.2 l (Nat.lt_of_lt_of_le h a.1) n m).trans (a.2 l h n m)⟩
theorem Kp2.app (c p : Nat) (s r : Store) : Kp2 c p s (s ++ r) := ⟨by simp, fun l h _ _ => List.getElem?_append_left h⟩
theorem Kp2.get {c p : Nat} {s s' : Store} (a : Kp2 c p s s') {l : Nat} {x : Cell} (h : s[l]? = some x) (n : l ≠ p) (m : l ≠ c) : s'[l]? = some x := by
  rw [a.2 l (lt_of_get h) n m]
  exact h
theorem Pool.app {c p : Nat} {s : Store} (h : Pool c p s) (r : Store) : Pool c p (s ++ r) := by
  obtain ⟨cs, t, h1, h2, q⟩ := h
  exact ⟨cs, t, by rw [List.getElem?_append_left (lt_of_get h1)]; exact h1, by rw [List.getElem?_append_left (lt_of_get h2)]; exact h2, q⟩
theorem Pool.set {c p l : Nat} {s : Store} (h : Pool c p s) (n : l ≠ p) (m : l ≠ c) (x : Cell) : Pool c p (s.set l x) := by
  obtain ⟨cs, t, h1, h2, q⟩ := h
  exact ⟨cs, t, by rw [List.getElem?_set_ne n]; exact h1, by rw [List.getElem?_set_ne m]; exact h2, q⟩
theorem Pool.lt {c p : Nat} {s : Store} (h : Pool c p s) : p < s.length ∧ c < s.length := let ⟨_, _, h1, h2, _⟩ := h; ⟨lt_of_get h1, lt_of_get h2⟩
theorem pys_int : ∀ ns : List Int, pys0 (ns.map D.int) = some (ns.map PyData.int)
  | [] => rfl
  | x :: r => by
    show (py0 (.int x)).bind (fun a => (pys0 (r.map D.int)).map fun q => a :: q) = _
    rw [pys_int r]
    rfl
theorem lay_int : ∀ ns : List Int, PyData.canLayAll0 (ns.map PyData.int) = true ∧ PyData.depthAll (ns.map PyData.int) ≤ 10
  | [] => ⟨by simp [PyData.canLayAll0], by simp [PyData.depthAll]⟩
  | x :: r => by
    obtain ⟨a, b⟩ := lay_int r
    constructor
    · simp [PyData.canLayAll0, PyData.canLay0]
      simpa using a
    · simp only [List.map_cons, PyData.depthAll, PyData.depth] at b ⊢
      omega
theorem eq_nil {s : Store} {l k : Nat} {ns : List Int} (h : s[l]? = some (.lst (ns.map D.int))) (h2 : s[k]? = some (.lst [])) : dEq (.loc l) (.loc k) s = some (.bl ns.isEmpty, s) := by
  obtain ⟨a, b⟩ := lay_int ns
  have h1 : py1 s (.loc l) = some (.list (ns.map PyData.int)) := by simp [py1, h, pys_int]
  have h3 : py1 s (.loc k) = some (.list []) := by simp [py1, h2, pys0]
  have h4 : SeqAt.shaped (.list (ns.map PyData.int)) = true := by
    simp [SeqAt.shaped, PyData.canLay0, PyData.depth, a]
    omega
  have h5 : SeqAt.shaped (.list []) = true := by simp [SeqAt.shaped, PyData.canLay0, PyData.canLayAll0, PyData.depth, PyData.depthAll]
  have h6 : PyData.eqv (.list (ns.map PyData.int)) (.list []) = ns.isEmpty := by
    cases ns <;> simp [PyData.eqv, PyData.eqvAll]
  have h7 : dScal (.loc l) (.loc k) = none := rfl
  simp [dEq, dEqB, h7, h1, h3, h4, h5, h6]
theorem pool_spec (ns : List Int) (hn : ns.length ≤ 63) : ∃ c p s, m_d_law_pool [.fl (ns.map D.int)] [] = .ok (.loc p) s ∧ Pool c p s := by
  have e := lcL_map (gd := always) (g := gN 2) (t := tT) (e := le_d_law_pool_1) (env := [some (.fl (ns.map D.int)), none, none]) (s := []) trivial D.int D.int ns (fun x _ => by simp [le_d_law_pool_1]) (by omega)
  have w := eq_nil (s := [.lst (ns.map D.int), .lst []]) (l := 0) (k := 1) (ns := ns) rfl rfl
  cases ns with
  | nil =>
    simp at e w
    simp [m_d_law_pool, b_d_law_pool, e, w]
    exact ⟨2, _, _, ⟨rfl, rfl⟩, [95], 0, rfl, rfl, by simp, by simp, by omega⟩
  | cons n r =>
    simp at e w hn
    simp [m_d_law_pool, b_d_law_pool, e, w]
    exact ⟨0, _, _, ⟨rfl, rfl⟩, n :: r, 0, rfl, rfl, by simp, by simp; omega, by omega⟩
theorem draw_spec {c p : Nat} {s : Store} (h : Pool c p s) {many : Int} (h0 : 0 < many) (h1 : many < 1073741824) :
    ∃ k s', m_d_law_draw [.loc p, .int many] s = .ok (.int k) s' ∧ 0 ≤ k ∧ k < many ∧ Pool c p s' ∧ Kp2 c p s s' := by
  obtain ⟨cs, t, hp, hc, hn, hz, ne⟩ := h
  have w0 : dIxA (.loc p) (.int 0) s = some (.loc c, s) := by rw [dIxA_loc hp]; simp
  have w1 : dIxA (.loc p) (.int 1) s = some (.int t, s) := by rw [dIxA_loc hp]; simp
  obtain ⟨s1, hs1⟩ : ∃ s1, s1 = s.set p (.lst [.loc c, .int ((t : Int) + 1)]) := ⟨_, rfl⟩
  have w2 : pAny (.loc p) (.int 1) (.int ((t : Int) + 1)) s = some s1 := by
    rw [pAny_loc hp, hs1]
    exact pList_loc hp 1 (by simp) _
  have hc1 : s1[c]? = some (.lst (cs.map D.int)) := by rw [hs1, List.getElem?_set_ne (Ne.symm ne)]; exact hc
  have hp1 : s1[p]? = some (.lst [.loc c, .int ((t + 1 : Nat) : Int)]) := by rw [hs1]; exact get_set hp
  have w3 := dLen_loc hc1
  rw [List.length_map] at w3
  have k1 : Kp2 c p s s1 := by rw [hs1]; exact ⟨by simp, fun l _ n _ => List.getElem?_set_ne (Ne.symm n)⟩
  have hi : t % cs.length < cs.length := Nat.mod_lt _ hn
  have w4 : dIxA (.loc c) (.int ((t : Int) % (cs.length : Int))) s1 = some (.int (cs[t % cs.length]'hi), s1) := by
    rw [dIxA_loc hc1, show ((t : Int) % (cs.length : Int)) = ((t % cs.length : Nat) : Int) from rfl, L2.atI_nat (v := D.int (cs[t % cs.length]'hi)) (by simp [hi])]
    rfl
  generalize (cs[t % cs.length]'hi) = cell at w4
  have hn' : (0 : Int) < (cs.length : Int) := by omega
  have wm := fun s => dMod_int (t : Int) (cs.length : Int) s hn'
  by_cases hb : (1000000000000000000 : Int) ≤ cell
  · obtain ⟨s2, hs2⟩ : ∃ s2, s2 = s1.set c (.lst ((cs.map D.int).set (t % cs.length) (.int (cell / many)))) := ⟨_, rfl⟩
    have w5 : pAny (.loc c) (.int ((t : Int) % (cs.length : Int))) (.int (cell / many)) s1 = some s2 := by
      rw [pAny_loc hc1, hs2]
      exact pList_loc hc1 (t % cs.length) (by simpa using hi) _
    refine ⟨cell % many, s2, ?_, Int.emod_nonneg _ (by omega), Int.emod_lt_of_pos _ h0, ⟨cs.set (t % cs.length) (cell / many), t + 1, ?_, ?_, by simpa using hn, by simpa using hz, ne⟩, k1.trans ?_⟩
    · simp [m_d_law_draw, b_d_law_draw, w0, w1, w2, w3, wm, w4, w5, hb, h0, h1]
    · rw [hs2, List.getElem?_set_ne ne]; exact hp1
    · rw [hs2, get_set hc1, List.map_set]
    · rw [hs2]; exact ⟨by simp, fun l _ _ n => List.getElem?_set_ne (Ne.symm n)⟩
  · obtain ⟨one, ho⟩ : ∃ one, one = (cell * 44027 + (t : Int) * 5881 + 59) % 1000099 := ⟨_, rfl⟩
    have o0 : 0 ≤ one := by rw [ho]; exact Int.emod_nonneg _ (by omega)
    have o1 : one < 1000099 := by rw [ho]; exact Int.emod_lt_of_pos _ (by omega)
    have hm := fun s => dMul_r one one s ⟨by omega, by omega⟩
    rw [ho] at hm
    refine ⟨_, s1, ?_, Int.emod_nonneg ((one * one + one * 3889 + (t : Int) * 71) % 999931) (by omega), Int.emod_lt_of_pos _ h0, ⟨cs, t + 1, hp1, hc1, hn, hz, ne⟩, k1⟩
    simp [m_d_law_draw, b_d_law_draw, w0, w1, w2, w3, wm, w4, hb, h0, hm, ho]
end Law
namespace Law
open PySem Mi
theorem enm_drop {xs : List D} {i : Nat} {x : D} {r : List D} (h : x :: r = (enm xs).drop i) : ∃ d, xs[i]? = some d ∧ x = .tup [.int (i : Nat), d] ∧ r = (enm xs).drop (i + 1) := by
  have e : (enm xs)[i]? = some x := by
    have := congrArg (fun l : List D => l[0]?) h
    simpa using this.symm
  obtain ⟨d, hd, hx⟩ := enm_get e
  refine ⟨d, hd, hx, ?_⟩
  have := congrArg List.tail h
  simpa [List.tail_drop] using this
theorem forL_enm {gd : Store → Prop} {g : D → Sl → Option Sl} {b : MS} (xs : List D) (I : Nat → Sl → Store → Prop) (hg : ∀ i env s, I i env s → gd s)
    (hs : ∀ i d env s, xs[i]? = some d → I i env s → Turns (I (i + 1)) (fun _ => False) (turn g b (.tup [.int (i : Nat), d]) env s)) {env : Sl} {s : Store} (h : I 0 env s) : ∃ env' s', forL gd g b (enm xs) env s = .nx env' s' ∧ I xs.length env' s' := by
  obtain ⟨env', s', e, i, hi, hr, q⟩ := forL_thru (gd := gd) (g := g) (b := b) (fun rest env s => ∃ i, i ≤ xs.length ∧ rest = (enm xs).drop i ∧ I i env s) (fun _ env s ⟨i, _, _, q⟩ => hg i env s q) (fun x rest env s ⟨i, hi, hr, q⟩ => by
    obtain ⟨d, hd, hx, hr2⟩ := enm_drop hr
    have z := hs i d env s hd q
    have hlt := (List.getElem?_eq_some_iff.mp hd).1
    subst hx
    cases w : turn g b (.tup [.int (i : Nat), d]) env s with
    | nx env2 s2 => rw [w] at z; exact ⟨i + 1, hlt, hr2, z⟩
    | ct env2 s2 => rw [w] at z; exact ⟨i + 1, hlt, hr2, z⟩
    | bk env2 s2 => rw [w] at z; exact z.elim
    | rt d s2 => rw [w] at z; exact z.elim
    | ex e env2 s2 => rw [w] at z; exact z.elim
    | no => rw [w] at z; exact z.elim) (xs := enm xs) (env := env) (s := s) ⟨0, Nat.zero_le _, rfl, h⟩
  have : i = xs.length := by
    have := congrArg List.length hr
    simp [enm_len] at this
    omega
  subst this
  exact ⟨env', s', e, q⟩
/-! ### books -/
theorem years_gap : ¬ (("years" : Str) = "gap") := by decide +kernel
inductive Rec where
  | gap (a b : Str) (least : Int) | yrs (d : Str) (low high : Int)
def recD : Rec → D
  | .gap a b w => .tup [.str "gap", .str a, .str b, .int w]
  | .yrs d i j => .tup [.str "years", .str d, .tup [.tup [.int i, .int j]]]
def entD (e : Str × Rec) : D := .tup [.str e.1, recD e.2]
def Rec.In (deeds : List Str) : Rec → Prop
  | .gap a b _ => a ∈ deeds ∧ b ∈ deeds
  | .yrs d _ _ => d ∈ deeds
structure Stp where
  a : Str
  b : Str
  i : Int
  w : Int
def stpD (x : Stp) : D := .tup [.str x.a, .str x.b, .int x.i, .int x.w]
def dStp (first last : Int) (d : Str) : List Stp := [⟨"", d, -1, first⟩, ⟨d, "", -1, -last⟩]
def rStp (at_ : Nat) : Rec → List Stp
  | .gap a b w => [⟨a, b, (at_ : Int), w⟩]
  | .yrs d i j => [⟨"", d, (at_ : Int), i⟩, ⟨d, "", (at_ : Int), -j⟩]
def eStp (ents : List (Str × Rec)) (n : Nat) : List Stp := (List.range n).flatMap fun i => match ents[i]? with
  | some e => rStp i e.2
  | none => []
def allStp (first last : Int) (deeds : List Str) (ents : List (Str × Rec)) : List Stp := deeds.flatMap (dStp first last) ++ eStp ents ents.length
theorem eStp_succ {ents : List (Str × Rec)} {n : Nat} {e : Str × Rec} (h : ents[n]? = some e) : eStp ents (n + 1) = eStp ents n ++ rStp n e.2 := by
  unfold eStp
  rw [List.range_succ, List.flatMap_append]
  simp [h]
theorem rStp_len (n : Nat) (r : Rec) : (rStp n r).length ≤ 2 := by cases r <;> simp [rStp]
theorem eStp_len (ents : List (Str × Rec)) : ∀ n, (eStp ents n).length ≤ 2 * n
  | 0 => by simp [eStp]
  | n + 1 => by
    have ih := eStp_len ents n
    cases h : ents[n]? with
    | none =>
      have e : eStp ents (n + 1) = eStp ents n := by
        unfold eStp
        rw [List.range_succ, List.flatMap_append]
        simp [h]
      rw [e]
      omega
    | some e =>
      rw [eStp_succ h, List.length_append]
      have := rStp_len n e.2
      omega
theorem deed_len (first last : Int) : ∀ ds : List Str, (ds.flatMap (dStp first last)).length = 2 * ds.length
  | [] => rfl
  | d :: ds => by
    rw [List.flatMap_cons, List.length_append, deed_len first last ds]
    simp [dStp]
    omega
def bookD (first last : Int) (deeds : List Str) (ents : List (Str × Rec)) : D := .tup [.int first, .int last, .tup (deeds.map D.str), .tup (ents.map entD)]
theorem ix0 (a : D) (r : List D) (s : Store) : dIx (.tup (a :: r)) (.int 0) s = some (a, s) := by simp [dIx_tup]
theorem ix1 (a b : D) (r : List D) (s : Store) : dIx (.tup (a :: b :: r)) (.int 1) s = some (b, s) := by simp [dIx_tup]
theorem ix2 (a b c : D) (r : List D) (s : Store) : dIx (.tup (a :: b :: c :: r)) (.int 2) s = some (c, s) := by simp [dIx_tup]
theorem ix3 (a b c d : D) (r : List D) (s : Store) : dIx (.tup (a :: b :: c :: d :: r)) (.int 3) s = some (d, s) := by simp [dIx_tup]
structure Raw where
  i : Int
  j : Int
  t : Int
  w : Int
def rawD (x : Raw) : D := .tup [.int x.i, .int x.j, .int x.t, .int x.w]
def nm (nodes : List Str) (x : Raw) : Stp := ⟨nodes.getD x.i.toNat "", nodes.getD x.j.toNat "", x.t, x.w⟩
def okR (nodes : List Str) (x : Raw) : Prop := ∃ i j : Nat, x.i = i ∧ x.j = j ∧ i < nodes.length ∧ j < nodes.length
def Pl (deeds : List Str) (n : Nat) (ks : List (L2.Key × D)) : Prop := ∀ (k : Nat) (x : Str), k < n → deeds[k]? = some x → ∃ j : Nat, getD ks (.inr x) = some (.int ((j : Int) + 1)) ∧ deeds[j]? = some x
def env13 (b ds es : D) (first last : Int) (d l : Nat) (r : Sl) : Sl := some b :: some (.int first) :: some (.int last) :: some ds :: some es :: some (.loc d) :: some (.loc l) :: r
theorem Pl.put {deeds : List Str} {n : Nat} {ks : List (L2.Key × D)} {x : Str} (h : Pl deeds n ks) (hx : deeds[n]? = some x) : Pl deeds (n + 1) (putD ks (.inr x) (.int ((n : Int) + 1))) := fun k y hk hy => by
  by_cases c : y = x
  · subst c
    exact ⟨n, putD_get _ _ _, hx⟩
  · rw [putD_other (fun e => c (Sum.inr.inj e))]
    refine h k y ?_ hy
    rcases (by omega : k < n ∨ k = n) with q | q
    · exact q
    · rw [q, hx] at hy
      exact absurd (Option.some.inj hy).symm c
theorem slist_spec (first last : Int) (deeds : List Str) (ents : List (Str × Rec)) (h1 : deeds.length ≤ 1000) (h2 : ents.length ≤ 1000) (hin : ∀ e ∈ ents, e.2.In deeds) (s : Store) :
    ∃ (r : Store) (R : List Raw), m_step_list [bookD first last deeds ents] s = .ok (.loc (s.length + 1)) (s ++ r) ∧ (s ++ r)[s.length + 1]? = some (.lst (R.map rawD)) ∧ R.map (nm ("" :: deeds)) = allStp first last deeds ents ∧ (∀ x ∈ R, okR ("" :: deeds) x) ∧ R.length ≤ 10000 := by
  have gK : ∀ (ks : List (L2.Key × D)) (L : List Raw), (s ++ [Cell.dic ks, Cell.lst (L.map rawD)])[s.length]? = some (.dic ks) := fun ks L => by simp
  have gL : ∀ (ks : List (L2.Key × D)) (L : List Raw), (s ++ [Cell.dic ks, Cell.lst (L.map rawD)])[s.length + 1]? = some (.lst (L.map rawD)) := fun ks L => by simp
  have app : ∀ (ks : List (L2.Key × D)) (L : List Raw) (x : Raw), L.length ≤ 10000 → dAppend (.loc (s.length + 1)) [rawD x] (s ++ [.dic ks, .lst (L.map rawD)]) = some (.non, s ++ [.dic ks, .lst ((L ++ [x]).map rawD)]) := fun ks L x hl => by
    rw [dAppend_loc (gL ks L) (by simp; omega), List.map_append]
    simp
  have put : ∀ (ks : List (L2.Key × D)) (L : List Raw) (x : Str) (z : D), ks.length ≤ 10000 → pAny (.loc s.length) (.str x) z (s ++ [.dic ks, .lst (L.map rawD)]) = some (s ++ [.dic (putD ks (.inr x) z), .lst (L.map rawD)]) := fun ks L x z hl => by
    rw [pAny_dic (gK ks L) (k := .inr x) rfl (by omega)]
    simp
  have ty : ∀ (ks : List (L2.Key × D)) (L : List Raw), tyOk "list" (s ++ [.dic ks, .lst (L.map rawD)]) (.loc (s.length + 1)) = true := fun ks L => tyOk_list (gL ks L)
  obtain ⟨env1, s1, e1, ks, R1, r1, rfl, rfl, k1, k2, k3, k4, k5, k6⟩ := forL_enm (gd := always) (g := gT 2 (gsC (gN 7) (gsC (gN 8) gsN))) (b := bl_step_list_2) (deeds.map D.str)
    (fun i env s' => ∃ (ks : List (L2.Key × D)) (R : List Raw) (r : Sl), env = env13 (bookD first last deeds ents) (.tup (deeds.map D.str)) (.tup (ents.map entD)) first last s.length (s.length + 1) r ∧ s' = s ++ [.dic ks, .lst (R.map rawD)] ∧ ks.length ≤ i ∧ R.length = 2 * i ∧ Pl deeds i ks ∧ R.map (nm ("" :: deeds)) = (deeds.take i).flatMap (dStp first last) ∧ (∀ x ∈ R, okR ("" :: deeds) x) ∧ r.length = 6) (fun _ _ _ _ => trivial)
    (env := env13 (bookD first last deeds ents) (.tup (deeds.map D.str)) (.tup (ents.map entD)) first last s.length (s.length + 1) [none, none, none, none, none, none]) (s := s ++ [.dic [], .lst ([].map rawD)]) (fun i d env s1 hd ⟨ks, R, r, he, hs, k1, k2, k3, k4, k5, k6⟩ => by
      subst he hs
      obtain ⟨x, hx, rfl⟩ : ∃ x, deeds[i]? = some x ∧ d = .str x := by
        rw [List.getElem?_map] at hd
        cases q : deeds[i]? with
        | none => rw [q] at hd; cases hd
        | some x => rw [q] at hd; cases hd; exact ⟨x, rfl, rfl⟩
      have hi : i < deeds.length := (List.getElem?_eq_some_iff.mp hx).1
      match r, k6 with
      | [r1, r2, r3, r4, r5, r6], _ =>
        obtain ⟨x1, hx1⟩ : ∃ x : Raw, x = ⟨0, (i : Int) + 1, -1, first⟩ := ⟨_, rfl⟩
        obtain ⟨x2, hx2⟩ : ∃ x : Raw, x = ⟨(i : Int) + 1, 0, -1, -last⟩ := ⟨_, rfl⟩
        have n1 : nm ("" :: deeds) x1 = ⟨"", x, -1, first⟩ := by
          rw [hx1]
          have : ((i : Int) + 1).toNat = i + 1 := by omega
          simp [nm, this, List.getD_eq_getElem?_getD, hx]
        have n2 : nm ("" :: deeds) x2 = ⟨x, "", -1, -last⟩ := by
          rw [hx2]
          have : ((i : Int) + 1).toNat = i + 1 := by omega
          simp [nm, this, List.getD_eq_getElem?_getD, hx]
        have o1 : okR ("" :: deeds) x1 := by rw [hx1]; exact ⟨0, i + 1, rfl, by simp, by simp, by simp; omega⟩
        have o2 : okR ("" :: deeds) x2 := by rw [hx2]; exact ⟨i + 1, 0, by simp, rfl, by simp; omega, by simp⟩
        have tk : deeds.take (i + 1) = deeds.take i ++ [x] := by rw [List.take_succ, hx]; rfl
        have w0 := put ks R x (.int ((i : Int) + 1)) (by omega)
        have a1 := app (putD ks (.inr x) (.int ((i : Int) + 1))) R x1 (by omega)
        have a2 := app (putD ks (.inr x) (.int ((i : Int) + 1))) (R ++ [x1]) x2 (by simp; omega)
        have t1 := ty (putD ks (.inr x) (.int ((i : Int) + 1))) R
        have t2 := ty (putD ks (.inr x) (.int ((i : Int) + 1))) (R ++ [x1])
        have pl := putD_len ks (.inr x) (.int ((i : Int) + 1))
        have fin : ∃ (ks' : List (L2.Key × D)) (R' : List Raw) (r' : Sl), env13 (bookD first last deeds ents) (.tup (deeds.map D.str)) (.tup (ents.map entD)) first last s.length (s.length + 1) [some (.int (i : Nat)), some (.str x), r3, r4, r5, r6] = env13 (bookD first last deeds ents) (.tup (deeds.map D.str)) (.tup (ents.map entD)) first last s.length (s.length + 1) r' ∧
            s ++ [Cell.dic (putD ks (.inr x) (.int ((i : Int) + 1))), .lst ((R ++ [x1] ++ [x2]).map rawD)] = s ++ [.dic ks', .lst (R'.map rawD)] ∧ ks'.length ≤ i + 1 ∧ R'.length = 2 * (i + 1) ∧ Pl deeds (i + 1) ks' ∧ R'.map (nm ("" :: deeds)) = (deeds.take (i + 1)).flatMap (dStp first last) ∧ (∀ x ∈ R', okR ("" :: deeds) x) ∧ r'.length = 6 :=
          ⟨_, R ++ [x1] ++ [x2], _, rfl, rfl, by omega, by simp; omega, k3.put hx, by rw [tk, List.flatMap_append, List.map_append, List.map_append, k4]; simp [n1, n2, dStp], fun y hy => by
            simp at hy
            rcases hy with hy | rfl | rfl
            · exact k5 y hy
            · exact o1
            · exact o2, rfl⟩
        clear n1 n2 o1 o2
        generalize (R ++ [x1] ++ [x2]).map rawD = l2 at *
        generalize (R ++ [x1]).map rawD = l1 at *
        generalize hq : (R.map rawD) = l0 at *
        subst hx1 hx2
        simp only [rawD] at a1 a2
        generalize putD ks (.inr x) (.int ((i : Int) + 1)) = ks2 at *
        simp only [env13] at fin ⊢
        simp [bl_step_list_2, w0, a1, a2, t1, t2]
        simpa using fin)
    ⟨[], [], _, rfl, rfl, by simp, by simp, fun k x hk _ => by omega, by simp, fun x hx => by simp at hx, rfl⟩
  have hdl : (deeds.map D.str).length = deeds.length := by simp
  rw [hdl] at k1 k2 k3 k4
  rw [List.take_of_length_le (Nat.le_refl _)] at k4
  have look : ∀ (a : Str), a ∈ deeds → ∃ j : Nat, deeds[j]? = some a ∧ ∀ L : List Raw, dIxA (.loc s.length) (.str a) (s ++ [.dic ks, .lst (L.map rawD)]) = some (.int ((j : Int) + 1), s ++ [.dic ks, .lst (L.map rawD)]) := fun a ha => by
    obtain ⟨k, hk⟩ := List.mem_iff_getElem?.mp ha
    obtain ⟨j, h3, h4⟩ := k3 k a (List.getElem?_eq_some_iff.mp hk).1 hk
    exact ⟨j, h4, fun L => dIxA_dic (gK ks L) (k := .inr a) rfl h3⟩
  have nmi : ∀ (j : Nat) (a : Str), deeds[j]? = some a → ("" :: deeds : List Str).getD ((j : Int) + 1).toNat "" = a := fun j a h => by
    have : ((j : Int) + 1).toNat = j + 1 := by omega
    simp [this, List.getD_eq_getElem?_getD, h]
  obtain ⟨env2, s2, e2, R, r2, rfl, rfl, m2, m4, m5, m6⟩ := forL_enm (gd := always) (g := gT 2 (gsC (gN 7) (gsC (gN 9) gsN))) (b := bl_step_list_1) (ents.map entD)
    (fun i env s' => ∃ (R : List Raw) (r : Sl), env = env13 (bookD first last deeds ents) (.tup (deeds.map D.str)) (.tup (ents.map entD)) first last s.length (s.length + 1) r ∧ s' = s ++ [.dic ks, .lst (R.map rawD)] ∧ R.length ≤ 2 * deeds.length + 2 * i ∧ R.map (nm ("" :: deeds)) = deeds.flatMap (dStp first last) ++ eStp ents i ∧ (∀ x ∈ R, okR ("" :: deeds) x) ∧ r.length = 6) (fun _ _ _ _ => trivial)
    (env := env13 (bookD first last deeds ents) (.tup (deeds.map D.str)) (.tup (ents.map entD)) first last s.length (s.length + 1) r1) (s := s ++ [.dic ks, .lst (R1.map rawD)]) (fun i d env s1 hd ⟨R, r, he, hs, m2, m4, m5, m6⟩ => by
      subst he hs
      obtain ⟨en, hx, rfl⟩ : ∃ x, ents[i]? = some x ∧ d = entD x := by
        rw [List.getElem?_map] at hd
        cases q : ents[i]? with
        | none => rw [q] at hd; cases hd
        | some x => rw [q] at hd; cases hd; exact ⟨x, rfl, rfl⟩
      have hi : i < ents.length := (List.getElem?_eq_some_iff.mp hx).1
      have hrec := hin en (List.mem_of_getElem? hx)
      have es := eStp_succ hx
      obtain ⟨dg, rc⟩ := en
      match r, m6 with
      | [r1, r2, r3, r4, r5, r6], _ =>
        cases rc with
        | gap a b w =>
          obtain ⟨ja, ha, la⟩ := look a hrec.1
          obtain ⟨jb, hb, lb⟩ := look b hrec.2
          obtain ⟨x1, hx1⟩ : ∃ x : Raw, x = ⟨(ja : Int) + 1, (jb : Int) + 1, i, w⟩ := ⟨_, rfl⟩
          have n1 : nm ("" :: deeds) x1 = ⟨a, b, i, w⟩ := by rw [hx1]; simp only [nm, nmi ja a ha, nmi jb b hb]
          have o1 : okR ("" :: deeds) x1 := by
            have q1 := (List.getElem?_eq_some_iff.mp ha).1
            have q2 := (List.getElem?_eq_some_iff.mp hb).1
            rw [hx1]; exact ⟨ja + 1, jb + 1, by simp, by simp, by simp; omega, by simp; omega⟩
          have a1 := app ks R x1 (by omega)
          have t1 := ty ks R
          have la := la R
          have lb := lb R
          have fin : ∃ (R' : List Raw) (r' : Sl), env13 (bookD first last deeds ents) (.tup (deeds.map D.str)) (.tup (ents.map entD)) first last s.length (s.length + 1) [some (.int (i : Nat)), r2, some (entD (dg, .gap a b w)), some (recD (.gap a b w)), r5, r6] = env13 (bookD first last deeds ents) (.tup (deeds.map D.str)) (.tup (ents.map entD)) first last s.length (s.length + 1) r' ∧
              s ++ [Cell.dic ks, .lst ((R ++ [x1]).map rawD)] = s ++ [.dic ks, .lst (R'.map rawD)] ∧ R'.length ≤ 2 * deeds.length + 2 * (i + 1) ∧ R'.map (nm ("" :: deeds)) = deeds.flatMap (dStp first last) ++ eStp ents (i + 1) ∧ (∀ x ∈ R', okR ("" :: deeds) x) ∧ r'.length = 6 :=
            ⟨R ++ [x1], _, rfl, rfl, by simp; omega, by rw [List.map_append, m4, es]; simp [n1, rStp], fun y hy => by
              simp at hy
              rcases hy with hy | rfl
              · exact m5 y hy
              · exact o1, rfl⟩
          clear n1 o1 m5
          generalize (R ++ [x1]).map rawD = l1 at *
          generalize hq : (R.map rawD) = l0 at *
          subst hx1
          simp only [rawD] at a1
          simp only [env13, entD, recD] at fin ⊢
          simp [bl_step_list_1, ix0, ix1, ix2, ix3, la, lb, a1, t1]
          simpa using fin
        | yrs d j k =>
          obtain ⟨ja, ha, la⟩ := look d hrec
          obtain ⟨x1, hx1⟩ : ∃ x : Raw, x = ⟨0, (ja : Int) + 1, i, j⟩ := ⟨_, rfl⟩
          obtain ⟨x2, hx2⟩ : ∃ x : Raw, x = ⟨(ja : Int) + 1, 0, i, -k⟩ := ⟨_, rfl⟩
          have n1 : nm ("" :: deeds) x1 = ⟨"", d, i, j⟩ := by rw [hx1]; simp only [nm, nmi ja d ha]; rfl
          have n2 : nm ("" :: deeds) x2 = ⟨d, "", i, -k⟩ := by rw [hx2]; simp only [nm, nmi ja d ha]; rfl
          have q1 := (List.getElem?_eq_some_iff.mp ha).1
          have o1 : okR ("" :: deeds) x1 := by rw [hx1]; exact ⟨0, ja + 1, rfl, by simp, by simp, by simp; omega⟩
          have o2 : okR ("" :: deeds) x2 := by rw [hx2]; exact ⟨ja + 1, 0, by simp, rfl, by simp; omega, by simp⟩
          have a1 := app ks R x1 (by omega)
          have a2 := app ks (R ++ [x1]) x2 (by simp; omega)
          have t1 := ty ks R
          have t2 := ty ks (R ++ [x1])
          have la1 := la R
          have la2 := la (R ++ [x1])
          have fin : ∃ (R' : List Raw) (r' : Sl), env13 (bookD first last deeds ents) (.tup (deeds.map D.str)) (.tup (ents.map entD)) first last s.length (s.length + 1) [some (.int (i : Nat)), r2, some (entD (dg, .yrs d j k)), some (recD (.yrs d j k)), some (.int j), some (.int k)] = env13 (bookD first last deeds ents) (.tup (deeds.map D.str)) (.tup (ents.map entD)) first last s.length (s.length + 1) r' ∧
              s ++ [Cell.dic ks, .lst ((R ++ [x1] ++ [x2]).map rawD)] = s ++ [.dic ks, .lst (R'.map rawD)] ∧ R'.length ≤ 2 * deeds.length + 2 * (i + 1) ∧ R'.map (nm ("" :: deeds)) = deeds.flatMap (dStp first last) ++ eStp ents (i + 1) ∧ (∀ x ∈ R', okR ("" :: deeds) x) ∧ r'.length = 6 :=
            ⟨R ++ [x1] ++ [x2], _, rfl, rfl, by simp; omega, by rw [List.map_append, List.map_append, m4, es]; simp [n1, n2, rStp], fun y hy => by
              simp at hy
              rcases hy with hy | rfl | rfl
              · exact m5 y hy
              · exact o1
              · exact o2, rfl⟩
          clear n1 n2 o1 o2 m5
          generalize (R ++ [x1] ++ [x2]).map rawD = l2 at *
          generalize (R ++ [x1]).map rawD = l1 at *
          generalize hq : (R.map rawD) = l0 at *
          subst hx1 hx2
          simp only [rawD] at a1 a2
          simp only [env13, entD, recD] at fin ⊢
          simp [bl_step_list_1, ix0, ix1, ix2, ix3, la1, la2, a1, a2, t1, t2, years_gap]
          simpa using fin)
    ⟨R1, r1, rfl, rfl, by omega, by rw [k4]; simp [eStp], k5, k6⟩
  have hel : (ents.map entD).length = ents.length := by simp
  rw [hel] at m2 m4
  refine ⟨[.dic ks, .lst (R.map rawD)], R, ?_, by simp, m4, m5, by omega⟩
  simp only [env13, bookD] at e1 e2 ⊢
  generalize ents.map entD = es at *
  generalize deeds.map D.str = ds at *
  simp only [List.map_nil] at e1
  simp [m_step_list, b_step_list, e1, e2]
theorem Ext.pool {c p : Nat} {s t : Store} (h : Ext s t) (e : Pool c p s) : Pool c p t := by
  obtain ⟨r, rfl⟩ := h
  exact e.app r
theorem Ext.kp {s t : Store} (h : Ext s t) (c p : Nat) : Kp2 c p s t := by
  obtain ⟨r, rfl⟩ := h
  exact Kp2.app c p s r
theorem plain_rec (r : Rec) (s : Store) : m_plain_record [recD r] s = .ok (.bl true) s := by
  cases r with
  | gap a b w => simp [m_plain_record, b_plain_record, recD, ix0, ix1, ix2]
  | yrs d i j => simp [m_plain_record, b_plain_record, recD, ix0, ix1, ix2, years_gap]
def bookG (first last : Int) (deeds : List Str) (es : List D) : D := .tup [.int first, .int last, .tup (deeds.map D.str), .tup es]
theorem plain_spec (first last : Int) (deeds : List Str) (xs : List (D × D × Bool)) (hz : xs.length ≤ 1000) (h : ∀ x ∈ xs, ∀ s, m_plain_record [x.2.1] s = .ok (.bl x.2.2) s) (s : Store) :
    ∃ s', m_is_plain [bookG first last deeds (xs.map fun x => .tup [x.1, x.2.1])] s = .ok (.bl (xs.all (·.2.2))) s' ∧ Ext s s' := by
  have e := lcL_map (gd := always) (g := gT 2 (gsC (gN 1) (gsC (gN 2) gsN))) (t := tT) (e := le_is_plain_1) (env := [some (bookG first last deeds (xs.map fun x => .tup [x.1, x.2.1])), none, none]) (s := s) trivial (fun x : D × D × Bool => D.tup [x.1, x.2.1]) (fun x => D.bl x.2.2) xs (fun x hx => by simp [le_is_plain_1, h x hx]) (by omega)
  have e2 : (xs.map fun x => D.bl x.2.2) = (xs.map (·.2.2)).map D.bl := by simp
  rw [e2] at e
  have w := dAll_loc (get_new s (.lst ((xs.map (·.2.2)).map D.bl)))
  have w2 : (xs.map (·.2.2)).all id = xs.all (·.2.2) := by simp [List.all_map]
  rw [w2] at w
  simp only [bookG] at e ⊢
  generalize (xs.map (·.2.2)).map D.bl = bs at *
  generalize (xs.map fun x => D.tup [x.1, x.2.1]) = es at *
  exact ⟨s ++ [.lst bs], by simp [m_is_plain, b_is_plain, ix3, e, w], _, rfl⟩
theorem need_ok (first last : Int) (deeds : List Str) (xs : List (D × D × Bool)) (hz : xs.length ≤ 1000) (h : ∀ x ∈ xs, ∀ s, m_plain_record [x.2.1] s = .ok (.bl x.2.2) s) (ha : xs.all (·.2.2) = true) (s : Store) :
    ∃ s', m_need_plain [bookG first last deeds (xs.map fun x => .tup [x.1, x.2.1])] s = .ok .non s' ∧ Ext s s' := by
  obtain ⟨s', e, x⟩ := plain_spec first last deeds xs hz h s
  rw [ha] at e
  exact ⟨s', by simp [m_need_plain, b_need_plain, e], x⟩
theorem need_no (first last : Int) (deeds : List Str) (xs : List (D × D × Bool)) (hz : xs.length ≤ 1000) (h : ∀ x ∈ xs, ∀ s, m_plain_record [x.2.1] s = .ok (.bl x.2.2) s) (ha : xs.all (·.2.2) = false) (s : Store) :
    ∃ s', m_need_plain [bookG first last deeds (xs.map fun x => .tup [x.1, x.2.1])] s = .ex ⟨"BadStep", [("word", .str "plain")]⟩ s' ∧ Ext s s' := by
  obtain ⟨s', e, x⟩ := plain_spec first last deeds xs hz h s
  rw [ha] at e
  exact ⟨s', by simp [m_need_plain, b_need_plain, e], x⟩
end Law
namespace Law
open PySem Mi
/-! ### the table -/
abbrev Tb := List (List L2.Key × D)
def key3 (a b : Str) (i : Int) : List L2.Key := [.inr a, .inr b, .inl i]
def keyS (x : Stp) : List L2.Key := key3 x.a x.b x.i
def tblOf (L : List Stp) : Tb := L.foldl (fun ks x => putD ks (keyS x) (.int x.w)) []
def Tab (T : Tb) : Prop := ∀ kv ∈ T, ∃ a b i w, kv = (key3 a b i, D.int w)
theorem putD_mem {T : Tb} {k : List L2.Key} {z : D} {kv : List L2.Key × D} (h : kv ∈ putD T k z) : kv ∈ T ∨ kv = (k, z) := by
  unfold putD at h
  split at h
  · obtain ⟨x, hx, rfl⟩ := List.mem_map.mp h
    by_cases c : x.1 = k
    · rw [if_pos c]
      exact .inr (by rw [c])
    · rw [if_neg c]; exact .inl hx
  · rcases List.mem_append.mp h with h | h
    · exact .inl h
    · exact .inr (List.mem_singleton.mp h)
theorem tab_put {T : Tb} (h : Tab T) (x : Stp) : Tab (putD T (keyS x) (.int x.w)) := fun kv hk => by
  rcases putD_mem hk with q | q
  · exact h kv q
  · exact ⟨x.a, x.b, x.i, x.w, q⟩
theorem tab_fold : ∀ (L : List Stp) (T : Tb), Tab T → Tab (L.foldl (fun ks x => putD ks (keyS x) (.int x.w)) T)
  | [], T, h => h
  | x :: L, T, h => tab_fold L _ (tab_put h x)
theorem tab_of (L : List Stp) : Tab (tblOf L) := tab_fold L [] fun kv h => by cases h
theorem fold_len : ∀ (L : List Stp) (T : Tb), (L.foldl (fun ks x => putD ks (keyS x) (.int x.w)) T).length ≤ T.length + L.length
  | [], T => by simp
  | x :: L, T => by
    have h := fold_len L (putD T (keyS x) (.int x.w))
    have h2 := putD_len T (keyS x) (.int x.w)
    simp only [List.foldl_cons, List.length_cons] at h ⊢
    omega
theorem tbl_len (L : List Stp) : (tblOf L).length ≤ L.length := by have := fold_len L []; simpa [tblOf] using this
theorem tbl_snoc (L : List Stp) (x : Stp) : tblOf (L ++ [x]) = putD (tblOf L) (keyS x) (.int x.w) := by simp [tblOf]
/-- the weight of a step -/
def wt (T : Tb) (a b : Str) (i : Int) : Option Int := match getD T (key3 a b i) with
  | some (.int w) => some w
  | _ => none
theorem getD_mem {T : Tb} {k : List L2.Key} {d : D} (h : getD T k = some d) : (k, d) ∈ T := by
  unfold getD at h
  cases q : T.find? fun kv => decide (kv.1 = k) with
  | none => rw [q] at h; cases h
  | some x =>
    rw [q] at h
    have hk := List.find?_some (p := fun kv : List L2.Key × D => decide (kv.1 = k)) q
    have hm := List.mem_of_find?_eq_some q
    have e : x.1 = k := of_decide_eq_true hk
    cases h
    rw [← e]
    exact hm
theorem wt_some {T : Tb} (h : Tab T) {a b : Str} {i : Int} : (getD T (key3 a b i)).isSome = (wt T a b i).isSome := by
  unfold wt
  cases q : getD T (key3 a b i) with
  | none => rfl
  | some d =>
    obtain ⟨_, _, _, w, e⟩ := h _ (getD_mem q)
    have : d = .int w := by rw [Prod.mk.injEq] at e; exact e.2
    subst this
    rfl
theorem wt_get {T : Tb} {a b : Str} {i : Int} {w : Int} (h : wt T a b i = some w) : getD T (key3 a b i) = some (.int w) := by
  unfold wt at h
  split at h
  · rename_i v hv
    cases h
    exact hv
  · cases h
theorem nodes_spec (first last : Int) (deeds : List Str) (ents : List (Str × Rec)) (hn : deeds.length ≤ 1000) (s : Store) :
    m_node_list [bookD first last deeds ents] s = .ok (.loc (s.length + 2)) (s ++ [.lst [.str ""], .lst (deeds.map D.str), .lst ((("" : Str) :: deeds).map D.str)]) := by
  have w : ∀ s, dListA [.tup (deeds.map D.str)] s = some (.loc s.length, s ++ [.lst (deeds.map D.str)]) := fun s => rfl
  have wa := dAdd_loc (s := s ++ [.lst [.str ""], .lst (deeds.map D.str)]) (l := s.length) (k := s.length + 1) (xs := [.str ""]) (ys := deeds.map D.str) (by simp) (by simp) (by simp; omega)
  have e : ([.str ""] : List D) ++ deeds.map D.str = (("" : Str) :: deeds).map D.str := rfl
  rw [e] at wa
  simp only [bookD]
  generalize (("" : Str) :: deeds).map D.str = nd at *
  generalize deeds.map D.str = dd at *
  generalize ents.map entD = ed at *
  simp at wa
  simp [m_node_list, b_node_list, ix2, w, wa]
theorem weights_spec (first last : Int) (deeds : List Str) (ents : List (Str × Rec)) (h1 : deeds.length ≤ 1000) (h2 : ents.length ≤ 1000) (hin : ∀ e ∈ ents, e.2.In deeds) (s : Store) :
    ∃ l s', m_weight_table [bookD first last deeds ents] s = .ok (.loc l) s' ∧ s'[l]? = some (.dct (tblOf (allStp first last deeds ents))) ∧ Ext s s' := by
  have e1 := nodes_spec first last deeds ents h1 s
  obtain ⟨s1, hs1⟩ : ∃ s1, s1 = s ++ [Cell.lst [.str ""], .lst (deeds.map D.str), .lst ((("" : Str) :: deeds).map D.str)] := ⟨_, rfl⟩
  rw [← hs1] at e1
  have x1 : Ext s s1 := by rw [hs1]; exact Ext.mk _ _
  have gn : s1[s.length + 2]? = some (.lst ((("" : Str) :: deeds).map D.str)) := by rw [hs1, List.getElem?_append_right (by omega), show s.length + 2 - s.length = 2 by omega]; rfl
  obtain ⟨r, R, e2, g2, hR, okr, lR⟩ := slist_spec first last deeds ents h1 h2 hin (s1 ++ [.dct []])
  obtain ⟨s2, hs2⟩ : ∃ s2, s2 = s1 ++ [Cell.dct []] ++ r := ⟨_, rfl⟩
  rw [← hs2] at e2 g2
  have x2 : Ext (s1 ++ [.dct []]) s2 := by rw [hs2]; exact Ext.mk _ _
  have gd := x2.get (get_new s1 (.dct []))
  have gn2 := x2.get ((Ext.mk s1 [.dct []]).get gn)
  have ll : (s1 ++ [Cell.dct []]).length = s1.length + 1 := by simp
  rw [ll] at e2 g2
  have lt1 := lt_of_get gn
  obtain ⟨env3, s3, e3, o3, o4, o5, o6, rfl, g3, hk3⟩ := forL_atT (gd := fun s2 => s2[s1.length + 1 + 1]? = some (Cell.lst (R.map rawD))) (g := gT 4 (gsC (gN 3) (gsC (gN 4) (gsC (gN 5) (gsC (gN 6) (gsN)))))) (b := bl_weight_table_1) (R.map rawD)
    (fun k env s' => ∃ o3 o4 o5 o6, env = [some (bookD first last deeds ents), some (.loc (s.length + 2)), some (.loc s1.length), o3, o4, o5, o6] ∧ s'[s1.length]? = some (.dct (tblOf ((R.take k).map (nm (("" : Str) :: deeds))))) ∧ ∀ l, l ≠ s1.length → s'[l]? = s2[l]?) (fun _ _ _ ⟨_, _, _, _, _, _, q⟩ => by rw [q _ (by omega)]; exact g2)
    (fun k d env s' hk ⟨o3, o4, o5, o6, he, hg, hq⟩ => by
      subst he
      obtain ⟨x, hx, rfl⟩ := map_get hk
      have hm := List.mem_of_getElem? hx
      obtain ⟨i, j, hi, hj, li, lj⟩ := okr x hm
      have gn' : s'[s.length + 2]? = some (.lst ((("" : Str) :: deeds).map D.str)) := by rw [hq _ (by omega)]; exact gn2
      have wi : dIxA (.loc (s.length + 2)) (.int x.i) s' = some (.str (nm (("" : Str) :: deeds) x).a, s') := by
        rw [dIxA_loc gn', hi, L2.atI_nat (v := D.str (nm (("" : Str) :: deeds) x).a) (by
          simp only [nm, hi, Int.toNat_natCast, List.getElem?_map, List.getD_eq_getElem?_getD]
          rw [List.getElem?_eq_getElem li]
          rfl)]
        rfl
      have wj : dIxA (.loc (s.length + 2)) (.int x.j) s' = some (.str (nm (("" : Str) :: deeds) x).b, s') := by
        rw [dIxA_loc gn', hj, L2.atI_nat (v := D.str (nm (("" : Str) :: deeds) x).b) (by
          simp only [nm, hj, Int.toNat_natCast, List.getElem?_map, List.getD_eq_getElem?_getD]
          rw [List.getElem?_eq_getElem lj]
          rfl)]
        rfl
      have tl := tbl_len ((R.take k).map (nm (("" : Str) :: deeds)))
      have tl2 : ((R.take k).map (nm (("" : Str) :: deeds))).length ≤ 10000 := by rw [List.length_map, List.length_take]; omega
      have wp := pAny_dct hg (i := .tup [.str (nm (("" : Str) :: deeds) x).a, .str (nm (("" : Str) :: deeds) x).b, .int x.t]) (k := keyS (nm (("" : Str) :: deeds) x)) rfl (by omega) (.int x.w)
      have ht : (R.take (k + 1)).map (nm (("" : Str) :: deeds)) = (R.take k).map (nm (("" : Str) :: deeds)) ++ [nm (("" : Str) :: deeds) x] := by rw [List.take_add_one, hx, List.map_append]; rfl
      have hsn := tbl_snoc ((R.take k).map (nm (("" : Str) :: deeds))) (nm (("" : Str) :: deeds) x)
      rw [← ht] at hsn
      have ew : (nm (("" : Str) :: deeds) x).w = x.w := rfl
      rw [ew] at hsn
      rw [← hsn] at wp
      have ga := get_set (c' := .dct (tblOf ((R.take (k + 1)).map (nm (("" : Str) :: deeds))))) hg
      generalize (nm (("" : Str) :: deeds) x).a = na at *
      generalize (nm (("" : Str) :: deeds) x).b = nb at *
      generalize bookD first last deeds ents = B at *
      generalize hc : (Cell.dct (tblOf ((R.take (k + 1)).map (nm (("" : Str) :: deeds))))) = cc at *
      simp [bl_weight_table_1, rawD, wi, wj, wp]
      exact ⟨ga, fun l hl => by rw [List.getElem?_set_ne (Ne.symm hl)]; exact hq l hl⟩)
    (env := [some (bookD first last deeds ents), some (.loc (s.length + 2)), some (.loc s1.length), none, none, none, none]) (s := s2) ⟨none, none, none, none, rfl, by simpa [tblOf] using gd, fun _ _ => rfl⟩
  rw [List.length_map, List.take_length, hR] at g3
  have x3 : Ext s1 s3 := by
    have hl3 : s3.length = s2.length := by
      rcases Nat.lt_trichotomy s3.length s2.length with q | q | q
      · exfalso
        have a := hk3 s3.length (by have := lt_of_get g3; omega)
        rw [List.getElem?_eq_none (Nat.le_refl _), List.getElem?_eq_getElem q] at a
        cases a
      · exact q
      · exfalso
        have lt2 := lt_of_get gd
        have a := hk3 s2.length (by omega)
        rw [List.getElem?_eq_none (Nat.le_refl s2.length), List.getElem?_eq_getElem q] at a
        cases a
    refine ⟨s3.drop s1.length, ?_⟩
    apply List.ext_getElem?
    intro l
    by_cases c : l < s1.length
    · rw [List.getElem?_append_left c, hk3 l (by omega), hs2, List.append_assoc, List.getElem?_append_left c]
    · rw [List.getElem?_append_right (by omega), List.getElem?_drop, show s1.length + (l - s1.length) = l by omega]
  refine ⟨s1.length, s3, ?_, g3, x1.trans x3⟩
  generalize bookD first last deeds ents = B at *
  generalize hRd : R.map rawD = Rd at *
  simp [m_weight_table, b_weight_table, e1, e2, g2, e3]
end Law
namespace Law
open PySem Mi
theorem put_new (s : Store) (L : List Stp) (x : Stp) (hl : L.length ≤ 10000) : pAny (.loc s.length) (.tup [.str x.a, .str x.b, .int x.i]) (.int x.w) (s ++ [.dct (tblOf L)]) = some (s ++ [.dct (tblOf (L ++ [x]))]) := by
  have tl := tbl_len L
  have wp := pAny_dct (get_new s (.dct (tblOf L))) (i := .tup [.str x.a, .str x.b, .int x.i]) (k := keyS x) rfl (by omega) (.int x.w)
  rw [wp, tbl_snoc]
  simp
theorem table_spec (first last : Int) (deeds : List Str) (ents : List (Str × Rec)) (h1 : deeds.length ≤ 1000) (h2 : ents.length ≤ 1000) (s : Store) :
    m_d_law_table [bookD first last deeds ents] s = .ok (.loc s.length) (s ++ [.dct (tblOf (allStp first last deeds ents))]) := by
  have dl : ∀ k, ((deeds.take k).flatMap (dStp first last)).length ≤ 2000 := fun k => by
    rw [deed_len]
    have : (deeds.take k).length ≤ deeds.length := by rw [List.length_take]; omega
    omega
  obtain ⟨env1, s1, e1, rfl, o2, rfl⟩ := forL_atT (gd := always) (g := gN 2) (b := bl_d_law_table_2) (deeds.map D.str) (fun k env s' => s' = s ++ [.dct (tblOf ((deeds.take k).flatMap (dStp first last)))] ∧ ∃ o2, env = [some (bookD first last deeds ents), some (.loc s.length), o2, none, none]) (fun _ _ _ _ => trivial)
    (fun k d env s' hk ⟨hs', o2, he⟩ => by
      subst he hs'
      obtain ⟨x, hx, rfl⟩ := map_get hk
      have hl := dl k
      have ht : (deeds.take (k + 1)).flatMap (dStp first last) = (deeds.take k).flatMap (dStp first last) ++ [⟨"", x, -1, first⟩] ++ [⟨x, "", -1, -last⟩] := by
        rw [List.take_add_one, hx, List.flatMap_append]
        simp [dStp]
      rw [ht]
      have p1 := put_new s ((deeds.take k).flatMap (dStp first last)) ⟨"", x, -1, first⟩ (by omega)
      have p2 := put_new s ((deeds.take k).flatMap (dStp first last) ++ [⟨"", x, -1, first⟩]) ⟨x, "", -1, -last⟩ (by rw [List.length_append, List.length_singleton]; omega)
      simp only at p1 p2
      generalize tblOf ((deeds.take k).flatMap (dStp first last) ++ [⟨"", x, -1, first⟩] ++ [⟨x, "", -1, -last⟩]) = t2 at *
      generalize tblOf ((deeds.take k).flatMap (dStp first last) ++ [⟨"", x, -1, first⟩]) = t1 at *
      generalize tblOf ((deeds.take k).flatMap (dStp first last)) = t0 at *
      simp only [bookD]
      generalize s ++ [Cell.dct t2] = q2 at *
      generalize s ++ [Cell.dct t1] = q1 at *
      generalize s ++ [Cell.dct t0] = q0 at *
      generalize ents.map entD = ed at *
      simp [bl_d_law_table_2, ix0, ix1, p1, p2]) (env := [some (bookD first last deeds ents), some (.loc s.length), none, none, none]) (s := s ++ [.dct []]) ⟨rfl, none, rfl⟩
  rw [List.length_map, List.take_length] at e1
  obtain ⟨L0, hL0⟩ : ∃ L0, L0 = deeds.flatMap (dStp first last) := ⟨_, rfl⟩
  have l0 : L0.length ≤ 2000 := by rw [hL0]; have := dl deeds.length; rwa [List.take_length] at this
  rw [← hL0] at e1
  obtain ⟨env2, s2, e2, rfl, o3, o4, rfl⟩ := forL_atT (gd := always) (g := gN 3) (b := bl_d_law_table_1) (rng ents.length) (fun k env s' => s' = s ++ [.dct (tblOf (L0 ++ eStp ents k))] ∧ ∃ o3 o4, env = [some (bookD first last deeds ents), some (.loc s.length), o2, o3, o4]) (fun _ _ _ _ => trivial)
    (fun k d env s' hk ⟨hs', o3, o4, he⟩ => by
      subst he hs'
      obtain ⟨hk', rfl⟩ := rng_get hk
      have hx : ents[k]? = some ents[k] := by simp [hk']
      have es := eStp_succ hx
      have le := eStp_len ents k
      have z : ∀ s, dIxA (.tup (ents.map entD)) (.int (k : Nat)) s = some (entD ents[k], s) := fun s => by
        rw [dIxA_tup, dIx_tup, atI_ofNat _ _ (entD ents[k]) (by simp [hk'])]
        rfl
      rw [es]
      generalize ents[k] = en at *
      obtain ⟨dg, rc⟩ := en
      cases rc with
      | gap a b w =>
        have p1 := put_new s (L0 ++ eStp ents k) ⟨a, b, k, w⟩ (by rw [List.length_append]; omega)
        simp only [rStp]
        rw [← List.append_assoc]
        simp only at p1
        generalize tblOf (L0 ++ eStp ents k ++ [⟨a, b, (k : Int), w⟩]) = t1 at *
        generalize tblOf (L0 ++ eStp ents k) = t0 at *
        simp only [bookD] at z ⊢
        generalize s ++ [Cell.dct t1] = q1 at *
        generalize s ++ [Cell.dct t0] = q0 at *
        simp only [entD, recD] at z
        generalize ents.map entD = ed at *
        generalize deeds.map D.str = dd at *
        simp [bl_d_law_table_1, ix0, ix1, ix2, ix3, z, p1]
      | yrs dd low high =>
        have p1 := put_new s (L0 ++ eStp ents k) ⟨"", dd, k, low⟩ (by rw [List.length_append]; omega)
        have p2 := put_new s (L0 ++ eStp ents k ++ [⟨"", dd, k, low⟩]) ⟨dd, "", k, -high⟩ (by rw [List.length_append, List.length_append, List.length_singleton]; omega)
        simp only [rStp]
        rw [← List.append_assoc, show (L0 ++ eStp ents k ++ [⟨"", dd, (k : Int), low⟩, ⟨dd, "", (k : Int), -high⟩] : List Stp) = L0 ++ eStp ents k ++ [⟨"", dd, (k : Int), low⟩] ++ [⟨dd, "", (k : Int), -high⟩] by simp]
        simp only at p1 p2
        generalize tblOf (L0 ++ eStp ents k ++ [⟨"", dd, (k : Int), low⟩] ++ [⟨dd, "", (k : Int), -high⟩]) = t2 at *
        generalize tblOf (L0 ++ eStp ents k ++ [⟨"", dd, (k : Int), low⟩]) = t1 at *
        generalize tblOf (L0 ++ eStp ents k) = t0 at *
        simp only [bookD] at z ⊢
        generalize s ++ [Cell.dct t2] = q2 at *
        generalize s ++ [Cell.dct t1] = q1 at *
        generalize s ++ [Cell.dct t0] = q0 at *
        simp only [entD, recD] at z
        generalize ents.map entD = ed at *
        generalize deeds.map D.str = dd2 at *
        simp [bl_d_law_table_1, ix0, ix1, ix2, ix3, z, p1, p2, years_gap]) (env := [some (bookD first last deeds ents), some (.loc s.length), o2, none, none]) (s := s ++ [.dct (tblOf (L0 ++ eStp ents 0))]) ⟨rfl, none, none, rfl⟩
  rw [rng_len] at e2
  have qa : allStp first last deeds ents = L0 ++ eStp ents ents.length := by unfold allStp; rw [hL0]
  rw [qa]
  have q0 : L0 ++ eStp ents 0 = L0 := by simp [eStp]
  rw [q0] at e2
  have wr := rangeOf_int (s ++ [.dct (tblOf L0)]) (ents.length : Int) (by omega) (by omega)
  rw [Int.toNat_natCast] at wr
  have hl2 : ((ents.map entD).length : Int) = ents.length := by simp
  simp only [bookD] at e1 e2 ⊢
  generalize ents.map entD = ed at *
  generalize deeds.map D.str = dd at *
  simp [m_d_law_table, b_d_law_table, ix2, ix3, e1, hl2, wr, e2, -rangeOf_int]
/-! ### what a thing is -/
def isT : D → Bool
  | .tup _ => true
  | _ => false
def isI : D → Bool
  | .int _ => true
  | _ => false
def isB : D → Bool
  | .bl _ => true
  | _ => false
def isS : D → Bool
  | .str _ => true
  | _ => false
def Wf (s : Store) (d : D) : Prop := (tyN s d).isSome = true
theorem isX_spec {s : Store} {d : D} (h : Wf s d) : dIsi "tuple" d s = some (.bl (isT d), s) ∧ dIsi "int" d s = some (.bl (isI d || isB d), s) ∧ dIsi "bool" d s = some (.bl (isB d), s) ∧ dIsi "str" d s = some (.bl (isS d), s) := by
  unfold Wf at h
  cases d with
  | loc l =>
    cases q : s[l]? with
    | none => simp [tyN, q] at h
    | some c => cases c <;> simp [tyN, q, isT, isI, isB, isS]
  | exv _ _ _ _ => simp [tyN] at h
  | _ => simp [tyN, isT, isI, isB, isS]
theorem integer_spec {s : Store} {d : D} (h : Wf s d) : m_is_integer [d] s = .ok (.bl (isI d)) s := by
  obtain ⟨_, h1, h2, _⟩ := isX_spec h
  cases e1 : isI d <;> cases e2 : isB d <;> simp [m_is_integer, b_is_integer, -dIsi_eq, h1, h2, e1, e2] <;> (cases d <;> simp [isI, isB] at e1 e2)
theorem Wf.up {s s' : Store} {d : D} (h : Wf s d) (k : s.length ≤ s'.length) : Wf s' d := by
  unfold Wf at *
  cases d with
  | loc l =>
    cases q : s[l]? with
    | none => simp [tyN, q] at h
    | some x =>
      have := lt_of_get q
      obtain ⟨y, hy⟩ : ∃ y, s'[l]? = some y := ⟨s'[l]'(by omega), List.getElem?_eq_getElem (by omega)⟩
      cases y <;> simp [tyN, hy]
  | _ => exact h
theorem wf_loc {s : Store} {l : Nat} (h : l < s.length) : Wf s (.loc l) := by
  unfold Wf
  obtain ⟨y, hy⟩ : ∃ y, s[l]? = some y := ⟨s[l], List.getElem?_eq_getElem h⟩
  cases y <;> simp [tyN, hy]
/-- a thing that may stand in a walk's place: its items, if it has three -/
def Wf3 (s : Store) (d : D) : Prop := Wf s d ∧ ∀ x y z, d = .tup [x, y, z] → Wf s x ∧ Wf s y ∧ Wf s z
def Wfs (s : Store) (d : D) : Prop := Wf s d ∧ ∀ xs, d = .tup xs → ∀ x ∈ xs, Wf3 s x
theorem Wf3.up {s s' : Store} {d : D} (h : Wf3 s d) (k : s.length ≤ s'.length) : Wf3 s' d := ⟨h.1.up k, fun x y z e => let ⟨a, b, c⟩ := h.2 x y z e; ⟨a.up k, b.up k, c.up k⟩⟩
theorem Wfs.up {s s' : Store} {d : D} (h : Wfs s d) (k : s.length ≤ s'.length) : Wfs s' d := ⟨h.1.up k, fun xs e x hx => (h.2 xs e x hx).up k⟩
end Law
namespace Law
open PySem Mi
/-! ### walks judged -/
def stepOk (T : Tb) (node : Str) : D → Option (Str × Int)
  | .tup [.str a, .str b, .int i] => if a = node then (wt T a b i).map fun w => (b, w) else none
  | _ => none
def walkR (T : Tb) : Str → Int → List D → Option (Str × Int)
  | n, t, [] => some (n, t)
  | n, t, d :: ds => (stepOk T n d).bind fun r => walkR T r.1 (t + r.2) ds
def walkB (T : Tb) (start end_ : Str) (least : Int) : D → Bool
  | .tup xs => match walkR T start 0 xs with
    | some (n, t) => decide (n = end_) && decide (least ≤ t)
    | none => false
  | _ => false
def isH (T : Tb) : D → Bool
  | .tup [.str a, .str b, .int i] => (wt T a b i).isSome
  | _ => false
theorem has_spec {T : Tb} (hT : Tab T) {s : Store} {l : Nat} (h : s[l]? = some (.dct T)) (a b : Str) (i : Int) : dInB (.tup [.str a, .str b, .int i]) (.loc l) s = some (wt T a b i).isSome := by
  rw [dInB_dct h (k := key3 a b i) rfl, wt_some hT]
theorem get_spec {T : Tb} {s : Store} {l : Nat} (h : s[l]? = some (.dct T)) {a b : Str} {i w : Int} (hw : wt T a b i = some w) : dIxA (.loc l) (.tup [.str a, .str b, .int i]) s = some (.int w, s) := dIxA_dct h (k := key3 a b i) rfl (wt_get hw)
/-- the cases of a thing: three items, a tuple of other length, no tuple -/
theorem three (d : D) : (∃ x y z, d = .tup [x, y, z]) ∨ (∃ xs, d = .tup xs ∧ xs.length ≠ 3) ∨ isT d = false := by
  cases d with
  | tup xs =>
    match xs with
    | [] => exact .inr (.inl ⟨_, rfl, by simp⟩)
    | [_] => exact .inr (.inl ⟨_, rfl, by simp⟩)
    | [_, _] => exact .inr (.inl ⟨_, rfl, by simp⟩)
    | [x, y, z] => exact .inl ⟨x, y, z, rfl⟩
    | _ :: _ :: _ :: _ :: _ => exact .inr (.inl ⟨_, rfl, by simp⟩)
  | _ => exact .inr (.inr rfl)
theorem notH (T : Tb) {d : D} (h : (∃ xs, d = .tup xs ∧ xs.length ≠ 3) ∨ isT d = false) : isH T d = false ∧ ∀ n, stepOk T n d = none := by
  rcases h with ⟨xs, rfl, h⟩ | h
  · constructor
    · unfold isH
      split
      · rename_i e; cases e; exact (h rfl).elim
      · rfl
    · intro n
      unfold stepOk
      split
      · rename_i e; cases e; exact (h rfl).elim
      · rfl
  · cases d with
    | tup xs => cases h
    | _ => exact ⟨rfl, fun _ => rfl⟩
theorem isstep_spec {T : Tb} (hT : Tab T) {s : Store} {l : Nat} (h : s[l]? = some (.dct T)) {d : D} (w : Wf3 s d) : m_is_step [.loc l, d] s = .ok (.bl (isH T d)) s := by
  obtain ⟨t1, _, _, _⟩ := isX_spec w.1
  rcases three d with ⟨x, y, z, rfl⟩ | ⟨xs, rfl, hl⟩ | hn
  · obtain ⟨wx, wy, wz⟩ := w.2 x y z rfl
    obtain ⟨_, _, _, sx⟩ := isX_spec wx
    obtain ⟨_, _, _, sy⟩ := isX_spec wy
    have iz := integer_spec wz
    cases x with
    | str a =>
      cases y with
      | str b =>
        cases z with
        | int i =>
          have hin := dIn_of (has_spec hT h a b i)
          simp [m_is_step, b_is_step, ix0, ix1, ix2, iz, isI, hin, isH]
        | _ => simp [m_is_step, b_is_step, ix0, ix1, ix2, iz, isI, isH]
      | _ => simp [m_is_step, b_is_step, ix0, ix1, ix2, t1, isT, sx, sy, isS, isH, -dIsi_eq]
    | _ => simp [m_is_step, b_is_step, ix0, ix1, ix2, t1, isT, sx, isS, isH, -dIsi_eq]
  · have hl' : ¬ (xs.length : Int) = 3 := by omega
    rw [(notH T (.inl ⟨xs, rfl, hl⟩)).1]
    simp [m_is_step, b_is_step, hl']
  · rw [(notH T (.inr hn)).1]
    rw [hn] at t1
    simp [m_is_step, b_is_step, t1, -dIsi_eq]
theorem walk1_turn {T : Tb} (hT : Tab T) {s : Store} {l : Nat} (h : s[l]? = some (.dct T)) {d : D} (w : Wf3 s d) (B e1 e2 e3 e4 : D) (node : Str) (total : Int) (o8 : Option D) :
    match stepOk T node d with
    | some (b, wgt) => bl_is_walk_1 [some B, some e1, some e2, some e3, some e4, some (.loc l), some (.str node), some (.int total), some d] s = .nx [some B, some e1, some e2, some e3, some e4, some (.loc l), some (.str b), some (.int (total + wgt)), some d] s
    | none => bl_is_walk_1 [some B, some e1, some e2, some e3, some e4, some (.loc l), some (.str node), some (.int total), some d] s = .rt (.bl false) s := by
  have hs := isstep_spec hT h w
  rcases three d with ⟨x, y, z, rfl⟩ | hn
  · have gen : isH T (.tup [x, y, z]) = false → (stepOk T node (.tup [x, y, z]) = none ∧ bl_is_walk_1 [some B, some e1, some e2, some e3, some e4, some (.loc l), some (.str node), some (.int total), some (.tup [x, y, z])] s = .rt (.bl false) s) := fun c => by
      rw [c] at hs
      refine ⟨?_, by simp [bl_is_walk_1, hs]⟩
      unfold stepOk
      split
      · rename_i a b i e
        simp only [D.tup.injEq, List.cons.injEq, and_true] at e
        obtain ⟨rfl, rfl, rfl⟩ := e
        simp only [isH, Option.isSome_eq_false_iff, Option.isNone_iff_eq_none] at c
        simp [c]
      · rfl
    cases c : isH T (.tup [x, y, z]) with
    | false =>
      obtain ⟨a, b⟩ := gen c
      rw [a]
      exact b
    | true =>
      have c0 := c
      unfold isH at c
      split at c
      · rename_i a b i e
        simp only [D.tup.injEq, List.cons.injEq, and_true] at e
        obtain ⟨rfl, rfl, rfl⟩ := e
        obtain ⟨wg, hw⟩ := Option.isSome_iff_exists.mp c
        have hg := get_spec h hw
        rw [c0] at hs
        by_cases ca : a = node
        · subst ca
          have e : stepOk T a (.tup [.str a, .str b, .int i]) = some (b, wg) := by simp [stepOk, hw]
          rw [e]
          simp [bl_is_walk_1, hs, ix0, ix1, hg]
        · have e : stepOk T node (.tup [.str a, .str b, .int i]) = none := by simp [stepOk, ca]
          rw [e]
          simp [bl_is_walk_1, hs, ix0, ix1, ca]
      · cases c
  · obtain ⟨q1, q2⟩ := notH T hn
    rw [q2 node]
    rw [q1] at hs
    simp [bl_is_walk_1, hs]
theorem walk_loop {T : Tb} (hT : Tab T) {s : Store} {l : Nat} (h : s[l]? = some (.dct T)) (B e1 e2 e3 e4 : D) (xs : List D) (hw : ∀ d ∈ xs, Wf3 s d) (node : Str) (total : Int) (o8 : Option D) :
    match walkR T node total xs with
    | some (n, t) => ∃ o9, forL always (gN 8) bl_is_walk_1 xs [some B, some e1, some e2, some e3, some e4, some (.loc l), some (.str node), some (.int total), o8] s = .nx [some B, some e1, some e2, some e3, some e4, some (.loc l), some (.str n), some (.int t), o9] s
    | none => forL always (gN 8) bl_is_walk_1 xs [some B, some e1, some e2, some e3, some e4, some (.loc l), some (.str node), some (.int total), o8] s = .rt (.bl false) s := by
  induction xs generalizing node total o8 with
  | nil =>
    refine ⟨o8, ?_⟩
    rw [forL_nil _ _ always trivial]
  | cons d xs ih =>
    have t := walk1_turn hT h (hw d (by simp)) B e1 e2 e3 e4 node total o8
    have hR : walkR T node total (d :: xs) = (stepOk T node d).bind fun r => walkR T r.1 (total + r.2) xs := rfl
    rw [forL_cons _ _ always trivial, hR]
    simp only [gN_eq, List.set_cons_succ, List.set_cons_zero]
    cases q : stepOk T node d with
    | none =>
      rw [q] at t
      simp only at t
      simp only [Option.bind_none, t]
    | some r =>
      obtain ⟨b, wg⟩ := r
      rw [q] at t
      simp only at t
      rw [Option.bind_some]
      simp only [t]
      exact ih (fun d hd => hw d (by simp [hd])) b (total + wg) (some d)
theorem is1_turn {T : Tb} (hT : Tab T) {s : Store} {l : Nat} (h : s[l]? = some (.dct T)) {d : D} (w : Wf3 s d) (e1 e2 e3 e4 : D) (node : Str) (total : Int) :
    match stepOk T node d with
    | some (b, wgt) => bl_d_law_is_1 [some (.loc l), some e1, some e2, some e3, some e4, some (.str node), some (.int total), some d] s = .nx [some (.loc l), some e1, some e2, some e3, some e4, some (.str b), some (.int (total + wgt)), some d] s
    | none => bl_d_law_is_1 [some (.loc l), some e1, some e2, some e3, some e4, some (.str node), some (.int total), some d] s = .rt (.bl false) s := by
  obtain ⟨t1, _, _, _⟩ := isX_spec w.1
  rcases three d with ⟨x, y, z, rfl⟩ | ⟨xs, rfl, hl⟩ | hn
  · obtain ⟨wx, wy, wz⟩ := w.2 x y z rfl
    obtain ⟨_, _, _, sx⟩ := isX_spec wx
    obtain ⟨_, _, _, sy⟩ := isX_spec wy
    obtain ⟨_, iz, bz, _⟩ := isX_spec wz
    cases x with
    | str a =>
      cases y with
      | str b =>
        by_cases ca : a = node
        · subst ca
          cases z with
          | int i =>
            have hin := dNotIn_of (has_spec hT h a b i)
            cases hw : wt T a b i with
            | none =>
              rw [hw] at hin
              have e : stepOk T a (.tup [.str a, .str b, .int i]) = none := by simp [stepOk, hw]
              rw [e]
              simp [bl_d_law_is_1, ix0, ix1, ix2, hin]
            | some wg =>
              rw [hw] at hin
              have hg := get_spec h hw
              have e : stepOk T a (.tup [.str a, .str b, .int i]) = some (b, wg) := by simp [stepOk, hw]
              rw [e]
              simp [bl_d_law_is_1, ix0, ix1, ix2, hin, hg]
          | _ =>
            show bl_d_law_is_1 _ s = _
            simp [bl_d_law_is_1, ix0, ix1, ix2, t1, isT, sx, sy, isS, iz, bz, isI, isB, -dIsi_eq]
        · have e : stepOk T node (.tup [.str a, .str b, z]) = none := by
            unfold stepOk
            split
            · rename_i a' b' i' e
              simp only [D.tup.injEq, List.cons.injEq, D.str.injEq, and_true] at e
              rw [if_neg (by rw [← e.1]; exact ca)]
            · rfl
          rw [e]
          simp [bl_d_law_is_1, ix0, ix1, ix2, ca]
      | _ =>
        show bl_d_law_is_1 _ s = _
        simp [bl_d_law_is_1, ix0, ix1, ix2, t1, isT, sx, sy, isS, -dIsi_eq]
    | _ =>
      show bl_d_law_is_1 _ s = _
      simp [bl_d_law_is_1, ix0, ix1, ix2, t1, isT, sx, isS, -dIsi_eq]
  · have hl' : ¬ (xs.length : Int) = 3 := by omega
    rw [(notH T (.inl ⟨xs, rfl, hl⟩)).2 node]
    simp [bl_d_law_is_1, hl']
  · rw [(notH T (.inr hn)).2 node]
    rw [hn] at t1
    simp [bl_d_law_is_1, t1, -dIsi_eq]
theorem is_loop {T : Tb} (hT : Tab T) {s : Store} {l : Nat} (h : s[l]? = some (.dct T)) (e1 e2 e3 e4 : D) (xs : List D) (hw : ∀ d ∈ xs, Wf3 s d) (node : Str) (total : Int) (o8 : Option D) :
    match walkR T node total xs with
    | some (n, t) => ∃ o9, forL always (gN 7) bl_d_law_is_1 xs [some (.loc l), some e1, some e2, some e3, some e4, some (.str node), some (.int total), o8] s = .nx [some (.loc l), some e1, some e2, some e3, some e4, some (.str n), some (.int t), o9] s
    | none => forL always (gN 7) bl_d_law_is_1 xs [some (.loc l), some e1, some e2, some e3, some e4, some (.str node), some (.int total), o8] s = .rt (.bl false) s := by
  induction xs generalizing node total o8 with
  | nil =>
    refine ⟨o8, ?_⟩
    rw [forL_nil _ _ always trivial]
  | cons d xs ih =>
    have t := is1_turn hT h (hw d (by simp)) e1 e2 e3 e4 node total
    have hR : walkR T node total (d :: xs) = (stepOk T node d).bind fun r => walkR T r.1 (total + r.2) xs := rfl
    rw [forL_cons _ _ always trivial, hR]
    simp only [gN_eq, List.set_cons_succ, List.set_cons_zero]
    cases q : stepOk T node d with
    | none =>
      rw [q] at t
      simp only at t
      simp only [Option.bind_none, t]
    | some r =>
      obtain ⟨b, wg⟩ := r
      rw [q] at t
      simp only at t
      rw [Option.bind_some]
      simp only [t]
      exact ih (fun d hd => hw d (by simp [hd])) b (total + wg) (some d)
end Law
namespace Law
open PySem Mi
structure BOk (deeds : List Str) (ents : List (Str × Rec)) : Prop where
  h1 : deeds.length ≤ 1000
  h2 : ents.length ≤ 1000
  hin : ∀ e ∈ ents, e.2.In deeds
theorem need_yes (first last : Int) {deeds : List Str} {ents : List (Str × Rec)} (b : BOk deeds ents) (s : Store) : ∃ s', m_need_plain [bookD first last deeds ents] s = .ok .non s' ∧ Ext s s' := by
  have h2 := b.h2
  have := need_ok first last deeds (ents.map fun e => (.str e.1, recD e.2, true)) (by simp; omega) (fun x hx s => by
    obtain ⟨e, _, rfl⟩ := List.mem_map.mp hx
    exact plain_rec e.2 s) (by simp) s
  have eb : bookG first last deeds ((ents.map fun e => (D.str e.1, recD e.2, true)).map fun x => .tup [x.1, x.2.1]) = bookD first last deeds ents := by
    simp only [bookG, bookD, List.map_map]
    rfl
  rw [eb] at this
  exact this
abbrev Tof (first last : Int) (deeds : List Str) (ents : List (Str × Rec)) : Tb := tblOf (allStp first last deeds ents)
theorem walkB_tup (T : Tb) (st en : Str) (least : Int) (xs : List D) : walkB T st en least (.tup xs) = match walkR T st 0 xs with
    | some (n, t) => decide (n = en) && decide (least ≤ t)
    | none => false := rfl
theorem iswalk_spec (first last : Int) {deeds : List Str} {ents : List (Str × Rec)} (b : BOk deeds ents) (st en : Str) (least : Int) {d : D} {s : Store} (w : Wfs s d) :
    ∃ s', m_is_walk [bookD first last deeds ents, .str st, .str en, .int least, d] s = .ok (.bl (walkB (Tof first last deeds ents) st en least d)) s' ∧ Ext s s' := by
  obtain ⟨s1, e1, x1⟩ := need_yes first last b s
  have w1 := w.up x1.le
  obtain ⟨t1, _, _, _⟩ := isX_spec w1.1
  obtain ⟨l, s2, e2, g2, x2⟩ : ∃ l s2, m_weight_table [bookD first last deeds ents] s1 = .ok (.loc l) s2 ∧ s2[l]? = some (.dct (Tof first last deeds ents)) ∧ Ext s1 s2 := weights_spec first last deeds ents b.h1 b.h2 b.hin s1
  have w2 := w1.up x2.le
  have hT : Tab (Tof first last deeds ents) := tab_of (allStp first last deeds ents)
  generalize Tof first last deeds ents = T at *
  cases d with
  | tup xs =>
    have q := walk_loop hT g2 (bookD first last deeds ents) (.str st) (.str en) (.int least) (.tup xs) xs (w2.2 xs rfl) st 0 none
    rw [walkB_tup]
    generalize bookD first last deeds ents = B at *
    cases hq : walkR T st 0 xs with
    | none =>
      rw [hq] at q
      simp only at q
      exact ⟨s2, by simp [m_is_walk, b_is_walk, e1, e2, q], x1.trans x2⟩
    | some r =>
      obtain ⟨n, t⟩ := r
      rw [hq] at q
      obtain ⟨o9, q⟩ := q
      refine ⟨s2, ?_, x1.trans x2⟩
      by_cases c : n = en
      · simp [m_is_walk, b_is_walk, e1, e2, q, c]
      · simp [m_is_walk, b_is_walk, e1, e2, q, c]
  | _ =>
    generalize bookD first last deeds ents = B at *
    exact ⟨s1, by simp [m_is_walk, b_is_walk, e1, t1, isT, walkB, -dIsi_eq], x1⟩
theorem lis_spec {T : Tb} (hT : Tab T) {s : Store} {lt : Nat} (h : s[lt]? = some (.dct T)) (st en : Str) (least : Int) {d : D} (w : Wfs s d) :
    m_d_law_is [.loc lt, .str st, .str en, .int least, d] s = .ok (.bl (walkB T st en least d)) s := by
  obtain ⟨t1, _, _, _⟩ := isX_spec w.1
  cases d with
  | tup xs =>
    have q := is_loop hT h (.str st) (.str en) (.int least) (.tup xs) xs (w.2 xs rfl) st 0 none
    rw [walkB_tup]
    cases hq : walkR T st 0 xs with
    | none =>
      rw [hq] at q
      simp only at q
      simp [m_d_law_is, b_d_law_is, q]
    | some r =>
      obtain ⟨n, t⟩ := r
      rw [hq] at q
      obtain ⟨o9, q⟩ := q
      by_cases c : n = en
      · simp [m_d_law_is, b_d_law_is, q, c]
      · simp [m_d_law_is, b_d_law_is, q, c]
  | _ => simp [m_d_law_is, b_d_law_is, t1, isT, walkB, -dIsi_eq]
/-! ### drawn walks -/
structure St where
  a : Str
  b : Str
  i : Int
def stD (x : St) : D := .tup [.str x.a, .str x.b, .int x.i]
def wv (T : Tb) (x : St) : Option Int := wt T x.a x.b x.i
theorem stepOk_st (T : Tb) (n : Str) (x : St) : stepOk T n (stD x) = if x.a = n then (wv T x).map fun w => (x.b, w) else none := rfl
/-- a walk through the table: each step is there and begins where the last one ends -/
def Chain (T : Tb) : Str → List St → Prop
  | _, [] => True
  | n, x :: ws => x.a = n ∧ (wv T x).isSome = true ∧ Chain T x.b ws
def endOf (n : Str) (ws : List St) : Str := match ws.getLast? with
  | some x => x.b
  | none => n
def sumW (T : Tb) (ws : List St) : Int := (ws.map fun x => (wv T x).getD 0).sum
theorem chain_walk {T : Tb} : ∀ {ws : List St} {n : Str} {t : Int}, Chain T n ws → walkR T n t (ws.map stD) = some (endOf n ws, t + sumW T ws)
  | [], n, t, _ => by show some (n, t) = some (n, t + 0); rw [Int.add_zero]
  | x :: ws, n, t, ⟨h1, h2, h3⟩ => by
    obtain ⟨w, hw⟩ := Option.isSome_iff_exists.mp h2
    have ih := chain_walk (t := t + w) h3
    have e : walkR T n t ((x :: ws).map stD) = (stepOk T n (stD x)).bind fun r => walkR T r.1 (t + r.2) (ws.map stD) := rfl
    rw [e, stepOk_st, if_pos h1, hw, Option.map_some, Option.bind_some, ih]
    have e1 : endOf x.b ws = endOf n (x :: ws) := by
      unfold endOf
      cases ws with
      | nil => simp
      | cons y ys =>
        rw [List.getLast?_cons_cons]
        cases h : (y :: ys).getLast? with
        | none => simp at h
        | some z => rfl
    rw [e1]
    simp only [sumW, List.map_cons, List.sum_cons, hw, Option.getD_some]
    rw [Int.add_assoc]
theorem chain_all {T : Tb} : ∀ {ws : List St} {n : Str}, Chain T n ws → ∀ x ∈ ws, (wv T x).isSome = true
  | [], _, _ => fun _ h => by cases h
  | y :: ws, n, ⟨_, h2, h3⟩ => fun x hx => by
    rcases List.mem_cons.mp hx with rfl | hx
    · exact h2
    · exact chain_all h3 x hx
theorem st_wf3 (s : Store) (x : St) : Wf3 s (stD x) := ⟨rfl, fun a b c e => by cases e; exact ⟨rfl, rfl, rfl⟩⟩
theorem ws_wfs (s : Store) (ws : List St) : Wfs s (.tup (ws.map stD)) := ⟨rfl, fun xs e d hd => by
  cases e
  obtain ⟨x, _, rfl⟩ := List.mem_map.mp hd
  exact st_wf3 s x⟩
theorem wv_get {T : Tb} {s : Store} {l : Nat} (h : s[l]? = some (.dct T)) {x : St} (hx : (wv T x).isSome = true) : dIxA (.loc l) (stD x) s = some (.int ((wv T x).getD 0), s) := by
  obtain ⟨w, hw⟩ := Option.isSome_iff_exists.mp hx
  rw [hw]
  exact get_spec h hw
theorem total_spec {T : Tb} {s : Store} {lt : Nat} (h : s[lt]? = some (.dct T)) {ws : List St} (ha : ∀ x ∈ ws, (wv T x).isSome = true) : m_d_law_total [.loc lt, .tup (ws.map stD)] s = .ok (.int (sumW T ws)) s := by
  obtain ⟨env', s', e, hs', o3, he⟩ := forL_atT (gd := always) (g := gN 3) (b := bl_d_law_total_1) (ws.map stD) (fun k env s' => s' = s ∧ ∃ o3, env = [some (.loc lt), some (.tup (ws.map stD)), some (.int (sumW T (ws.take k))), o3]) (fun _ _ _ _ => trivial)
    (fun k d env s' hk ⟨hs', o3, he⟩ => by
      subst he hs'
      obtain ⟨x, hx, rfl⟩ := map_get hk
      have hg := wv_get h (ha x (List.mem_of_getElem? hx))
      have ht : sumW T (ws.take (k + 1)) = sumW T (ws.take k) + (wv T x).getD 0 := by
        rw [List.take_add_one, hx]
        simp [sumW]
      rw [ht]
      generalize ws.map stD = wd at *
      generalize stD x = sx at *
      simp [bl_d_law_total_1, hg]) (env := [some (.loc lt), some (.tup (ws.map stD)), some (.int 0), none]) (s := s) ⟨rfl, none, rfl⟩
  rw [List.length_map, List.take_length] at he
  subst he hs'
  generalize ws.map stD = wd at *
  simp [m_d_law_total, b_d_law_total, e]
theorem sumof_spec (first last : Int) {deeds : List Str} {ents : List (Str × Rec)} (b : BOk deeds ents) {ws : List St} (hz : ws.length ≤ 1000) (ha : ∀ x ∈ ws, (wv (Tof first last deeds ents) x).isSome = true) (s : Store) :
    ∃ s', m_sum_of [bookD first last deeds ents, .tup (ws.map stD)] s = .ok (.int (sumW (Tof first last deeds ents) ws)) s' ∧ Ext s s' := by
  obtain ⟨s1, e1, x1⟩ := need_yes first last b s
  obtain ⟨l, s2, e2, g2, x2⟩ := weights_spec first last deeds ents b.h1 b.h2 b.hin s1
  have e := lcL_map (gd := always) (g := gN 3) (t := tT) (e := le_sum_of_1) (env := [some (bookD first last deeds ents), some (.tup (ws.map stD)), some (.loc l), none]) (s := s2) trivial stD (fun x => D.int ((wv (Tof first last deeds ents) x).getD 0)) ws
    (fun x hx => by
      have := wv_get g2 (ha x hx)
      simp [le_sum_of_1, tT, this]) (by omega)
  have em : ws.map (fun x => D.int ((wv (Tof first last deeds ents) x).getD 0)) = (ws.map fun x => (wv (Tof first last deeds ents) x).getD 0).map D.int := by simp
  rw [em] at e
  have wsum := dSum_loc (get_new s2 (.lst ((ws.map fun x => (wv (Tof first last deeds ents) x).getD 0).map D.int)))
  refine ⟨s2 ++ [.lst ((ws.map fun x => (wv (Tof first last deeds ents) x).getD 0).map D.int)], ?_, (x1.trans x2).trans (Ext.mk _ _)⟩
  unfold sumW
  generalize (ws.map fun x => (wv (Tof first last deeds ents) x).getD 0).sum = sm at *
  generalize (ws.map fun x => (wv (Tof first last deeds ents) x).getD 0).map D.int = vd at *
  generalize bookD first last deeds ents = B at *
  generalize ws.map stD = wd at *
  simp [m_sum_of, b_sum_of, e1, e2, e, wsum]
theorem told_spec (b : Bool) (s : Store) : m_d_law_told [.bl b, .bl b] s = .ok (.bl true) s := by simp [m_d_law_told, b_d_law_told]
end Law
namespace Law
open PySem Mi
def tails : List Str := ["", "0", "1", "5", "'", "0'", "y", "by", "33"]
def letters : List Str := ["f", "g", "h", "wa", "l"]
def allW : List Str := letters.flatMap fun a => tails.map fun t => a ++ t
theorem tails_len : ∀ t ∈ tails, t.length ≤ 10 := by decide +kernel
theorem letters_len : ∀ t ∈ letters, t.length ≤ 10 := by decide +kernel
theorem allW_nodup : allW.Nodup := by decide +kernel
theorem allW_len : allW.length = 45 := by decide +kernel
def InnI (c p lw lt ll : Nat) (n : D) (x : Str) (s0 : Store) (B : List Str) (rest : List D) (env : Sl) (s : Store) : Prop := ∃ (R T ws : List Str) (o4 : Option D), rest = R.map D.str ∧ tails = T ++ R ∧ env = [some (.loc p), some n, some (.loc lw), some (.str x), o4, none, none, none] ∧
  s[lw]? = some (.lst (ws.map D.str)) ∧ ws = B ++ T.map (fun t => x ++ t) ∧ s[lt]? = some (.lst (tails.map D.str)) ∧ s[ll]? = some (.lst (letters.map D.str)) ∧ Pool c p s ∧ Kp2 c p s0 s
theorem inner {c p lw lt ll : Nat} {n : D} {x : Str} {s0 s : Store} {B : List Str} (hN : B.length ≤ 1000) (hx : x.length ≤ 10) (n1 : lw ≠ p) (n2 : lw ≠ c) (n3 : lt ≠ lw) (n4 : ll ≠ lw) (n5 : s0.length ≤ lw) {env : Sl} (h : InnI c p lw lt ll n x s0 B (tails.map D.str) env s) :
    ∃ env' s', forL (fun s2 => s2[lt]? = some (.lst (tails.map D.str))) (gN 4) bl_d_law_deeds_2 (tails.map D.str) env s = .nx env' s' ∧ InnI c p lw lt ll n x s0 B [] env' s' := by
  refine forL_thru (InnI c p lw lt ll n x s0 B) (fun _ _ _ ⟨_, _, _, _, _, _, _, _, _, h, _⟩ => h) (fun d xs env s ⟨R, T, ws, o4, hr, hR, he, h1, h2, h3, h4, h5, h6⟩ => ?_) h
  subst he
  cases R with
  | nil => cases hr
  | cons t R =>
    obtain ⟨rfl, rfl⟩ := List.cons.inj hr
    have ht : t.length ≤ 10 := tails_len t (by rw [hR]; simp)
    have hT : T.length ≤ 9 := by
      have := congrArg List.length hR
      simp [tails] at this
      omega
    have a1 := dAdd_s (a := x) (b := t) (by omega) s
    have hl : ws.length ≤ 2000 := by rw [h2]; simp; omega
    have a2 := dAppend_loc h1 (by simp; omega) (.str (x ++ t))
    have t1 := tyOk_list h1
    simp [bl_d_law_deeds_2, t1, a1, a2]
    exact ⟨R, T ++ [t], ws ++ [x ++ t], _, rfl, by rw [hR]; simp, rfl, by rw [get_set h1]; simp, by rw [h2]; simp, by rw [List.getElem?_set_ne (Ne.symm n3)]; exact h3, by rw [List.getElem?_set_ne (Ne.symm n4)]; exact h4, h5.set n1 n2 _,
      ⟨by simp; exact h6.1, fun l hl a b => by rw [List.getElem?_set_ne (by omega)]; exact h6.2 l hl a b⟩⟩
def OutW (c p lw ll : Nat) (n : D) (s0 : Store) (rest : List D) (env : Sl) (s : Store) : Prop := ∃ (R T ws : List Str) (o3 o4 : Option D), rest = R.map D.str ∧ letters = T ++ R ∧ env = [some (.loc p), some n, some (.loc lw), o3, o4, none, none, none] ∧
  s[lw]? = some (.lst (ws.map D.str)) ∧ ws = (T.flatMap fun a => tails.map fun t => a ++ t) ∧ s[ll]? = some (.lst (letters.map D.str)) ∧ Pool c p s ∧ Kp2 c p s0 s
def PickI (c p lo : Nat) (n : D) (s0 : Store) (i : Nat) (env : Sl) (s : Store) : Prop := ∃ (lw : Nat) (ws os : List Str) (o3 o4 o6 o7 : Option D), env = [some (.loc p), some n, some (.loc lw), o3, o4, some (.loc lo), o6, o7] ∧ s[lw]? = some (.lst (ws.map D.str)) ∧ ws.length + i = 45 ∧ s[lo]? = some (.lst (os.map D.str)) ∧ os.length = i ∧ lw ≠ lo ∧ lw ≠ p ∧ lw ≠ c ∧ Pool c p s ∧ Kp2 c p s0 s ∧ (os ++ ws).Perm allW
theorem fm_len (T : List Str) : (T.flatMap fun a => tails.map fun t => a ++ t).length = 9 * T.length := by
  induction T with
  | nil => rfl
  | cons a T ih => rw [List.flatMap_cons, List.length_append, ih]; simp [tails]; omega
theorem deeds_spec {c p : Nat} {s : Store} (h : Pool c p s) {n : Nat} (hn : n ≤ 41) :
    ∃ (l : Nat) (s' : Store) (os : List Str), m_d_law_deeds [.loc p, .int n] s = .ok (.loc l) s' ∧ s'[l]? = some (.lst (os.map D.str)) ∧ os.length = n ∧ os.Nodup ∧ s.length ≤ l ∧ Pool c p s' ∧ Kp2 c p s s' ∧ ∀ x ∈ os, x ∈ allW := by
  obtain ⟨env1, s1, e1, R, T, ws, o3, o4, hr, hRT, rfl, w1, w2, _, w4, w5⟩ := forL_thru (gd := fun s2 => s2[s.length + 1]? = some (Cell.lst (letters.map D.str))) (g := gN 3) (b := bl_d_law_deeds_3) (OutW c p s.length (s.length + 1) (.int n) s) (fun _ _ _ ⟨_, _, _, _, _, _, _, _, _, _, h, _⟩ => h) (xs := letters.map D.str)
    (env := [some (.loc p), some (.int n), some (.loc s.length), none, none, none, none, none]) (s := s ++ [.lst []] ++ [.lst (letters.map D.str)]) (fun d xs env s1 ⟨R, T, ws, o3, o4, hr, hR, he, w1, w2, w3, w4, w5⟩ => by
      subst he
      cases R with
      | nil => cases hr
      | cons x R =>
        obtain ⟨rfl, rfl⟩ := List.cons.inj hr
        have hT : T.length ≤ 5 := by
          have := congrArg List.length hR
          simp [letters] at this
          omega
        have hws : ws.length ≤ 100 := by rw [w2, fm_len]; omega
        have g1 : (s1 ++ [Cell.lst (tails.map D.str)])[s.length]? = some (.lst (ws.map D.str)) := by rw [List.getElem?_append_left (lt_of_get w1)]; exact w1
        have g2 : (s1 ++ [Cell.lst (tails.map D.str)])[s.length + 1]? = some (.lst (letters.map D.str)) := by rw [List.getElem?_append_left (lt_of_get w3)]; exact w3
        have lt1 := lt_of_get w3
        obtain ⟨env2, s2, e2, R2, T2, ws2, o42, hr2, ht2, rfl, v1, v2, v3, v4, v5, v6⟩ := inner (c := c) (p := p) (lw := s.length) (lt := s1.length) (ll := s.length + 1) (n := .int n) (x := x) (s0 := s) (B := ws) (by omega) (letters_len x (by rw [hR]; simp)) (Nat.ne_of_gt h.lt.1) (Nat.ne_of_gt h.lt.2) (by omega) (by omega) (Nat.le_refl _)
          (env := [some (.loc p), some (.int n), some (.loc s.length), some (.str x), o4, none, none, none]) (s := s1 ++ [.lst (tails.map D.str)]) ⟨tails, [], ws, o4, rfl, rfl, rfl, g1, by simp, get_new _ _, g2, w4.app _, w5.trans (Kp2.app c p s1 _)⟩
        have hr2' : R2 = [] := by
          cases R2 with
          | nil => rfl
          | cons _ _ => cases hr2
        subst hr2'
        rw [List.append_nil] at ht2
        subst ht2
        have fin : OutW c p s.length (s.length + 1) (.int n) s (R.map D.str) [some (.loc p), some (.int n), some (.loc s.length), some (.str x), o42, none, none, none] s2 :=
          ⟨R, T ++ [x], ws2, _, _, rfl, by rw [hR]; simp, rfl, v1, by rw [v2, w2, List.flatMap_append]; simp, v4, v5, v6⟩
        have et : tails.map D.str = [.str "", .str "0", .str "1", .str "5", .str "'", .str "0'", .str "y", .str "by", .str "33"] := rfl
        rw [et] at e2
        simp [bl_d_law_deeds_3, e2]
        exact fin)
    ⟨letters, [], [], none, none, rfl, rfl, rfl, by simp, rfl, by
      have q := get_new (s ++ [Cell.lst []]) (.lst (letters.map D.str))
      rw [show (s ++ [Cell.lst []]).length = s.length + 1 by simp] at q
      exact q, (h.app _).app _, (Kp2.app c p s _).trans (Kp2.app c p _ _)⟩
  have hR : R = [] := by
    cases R with
    | nil => rfl
    | cons _ _ => cases hr
  subst hR
  rw [List.append_nil] at hRT
  subst hRT
  have w2' : ws = allW := w2
  have wl := allW_len
  rw [← w2'] at wl
  have lt1 := lt_of_get w1
  obtain ⟨env2, s2, e2, lw, ws2, os, q3, q4, q6, q7, rfl, _, _, v3, v4, _, _, _, v8, v9, vp⟩ := forL_rangeT (gd := always) (g := gN 6) (b := bl_d_law_deeds_1) n (PickI c p s1.length (.int n) s) (fun _ _ _ _ _ => trivial)
    (env := [some (.loc p), some (.int n), some (.loc s.length), o3, o4, some (.loc s1.length), none, none]) (s := s1 ++ [.lst []]) (fun i env s2 hi ⟨lw, ws, os, o3, o4, o6, o7, he, v1, v2, v3, v4, v5, v6, v7, v8, v9, vp⟩ => by
      subst he
      have l1 := dLen_loc v1
      rw [List.length_map] at l1
      obtain ⟨k, s3, e3, k0, k1, h3, kp3⟩ := draw_spec v8 (many := ws.length) (by omega) (by omega)
      obtain ⟨j, rfl⟩ := Int.eq_ofNat_of_zero_le k0
      have hj : j < ws.length := by omega
      have lolt := lt_of_get v3
      have g1 := kp3.get v1 v6 v7
      have nlo : s1.length ≠ p ∧ s1.length ≠ c := ⟨Nat.ne_of_gt (Nat.lt_of_lt_of_le h.lt.1 (by omega)), Nat.ne_of_gt (Nat.lt_of_lt_of_le h.lt.2 (by omega))⟩
      have g2 := kp3.get v3 nlo.1 nlo.2
      have z1 : dIxA (.loc lw) (.int (j : Nat)) s3 = some (.str ws[j], s3) := by
        rw [dIxA_loc g1, L2.atI_nat (v := D.str ws[j]) (by simp [hj])]
        rfl
      have a1 := dAppend_loc g2 (by simp; omega) (.str ws[j])
      have t1 := tyOk_list g2
      obtain ⟨s4, hs4⟩ : ∃ s4, s4 = s3.set s1.length (.lst (os.map D.str ++ [.str ws[j]])) := ⟨_, rfl⟩
      rw [← hs4] at a1
      have g3 : s4[lw]? = some (.lst (ws.map D.str)) := by rw [hs4, List.getElem?_set_ne (Ne.symm v5)]; exact g1
      have g4 : s4[s1.length]? = some (.lst ((os ++ [ws[j]]).map D.str)) := by rw [hs4, get_set g2]; simp
      have h4 : Pool c p s4 := by rw [hs4]; exact h3.set nlo.1 nlo.2 _
      have k4 : Kp2 c p s s4 := by
        have z := v9.trans kp3
        rw [hs4]
        exact ⟨by simp; exact z.1, fun l hl a b => by rw [List.getElem?_set_ne (by omega)]; exact z.2 l hl a b⟩
      have y1 : dSl (.loc lw) none (some (j : Int)) s4 = some (.loc s4.length, s4 ++ [.lst ((ws.take j).map D.str)]) := by simp [dSl, lstOf_loc g3, cutS1 ws (Nat.le_of_lt hj)]
      have g5 : (s4 ++ [Cell.lst ((ws.take j).map D.str)])[lw]? = some (.lst (ws.map D.str)) := by rw [List.getElem?_append_left (lt_of_get g3)]; exact g3
      have y2 : dSl (.loc lw) (some ((j : Int) + 1)) none (s4 ++ [.lst ((ws.take j).map D.str)]) = some (.loc (s4.length + 1), s4 ++ [.lst ((ws.take j).map D.str)] ++ [.lst ((ws.drop (j + 1)).map D.str)]) := by
        have q : dSl (.loc lw) (some ((j : Int) + 1)) none (s4 ++ [.lst ((ws.take j).map D.str)]) = (lstOf (s4 ++ [.lst ((ws.take j).map D.str)]) (.loc lw)).map fun xs => (D.loc (s4 ++ [Cell.lst ((ws.take j).map D.str)]).length, s4 ++ [.lst ((ws.take j).map D.str)] ++ [.lst (Mi.cutD xs (some ((j : Int) + 1)) none)]) := rfl
        rw [q, lstOf_loc g5, Option.map_some, cutS2 ws hj, show (s4 ++ [Cell.lst ((ws.take j).map D.str)]).length = s4.length + 1 by simp]
      have y3 := dAdd_loc (s := s4 ++ [.lst ((ws.take j).map D.str)] ++ [.lst ((ws.drop (j + 1)).map D.str)]) (l := s4.length) (k := s4.length + 1) (xs := (ws.take j).map D.str) (ys := (ws.drop (j + 1)).map D.str) (by simp) (by simp) (by simp; omega)
      have e5 : (ws.take j).map D.str ++ (ws.drop (j + 1)).map D.str = (ws.take j ++ ws.drop (j + 1)).map D.str := by simp
      rw [e5] at y3
      have ll : (ws.take j ++ ws.drop (j + 1)).length = ws.length - 1 := by simp; omega
      have s4l : s1.length < s4.length := lt_of_get g4
      have pm : (os ++ [ws[j]] ++ (ws.take j ++ ws.drop (j + 1))).Perm allW := by
        refine List.Perm.trans ?_ vp
        have e : ws = ws.take j ++ ws[j] :: ws.drop (j + 1) := by rw [List.getElem_cons_drop, List.take_append_drop]
        rw [List.append_assoc]
        refine List.Perm.append_left os ?_
        conv => rhs; rw [e]
        exact (show (ws[j] :: (ws.take j ++ ws.drop (j + 1))).Perm _ from List.perm_middle.symm)
      have fin : PickI c p s1.length (.int n) s (i + 1) [some (.loc p), some (.int n), some (.loc (s4 ++ [Cell.lst ((ws.take j).map D.str)] ++ [Cell.lst ((ws.drop (j + 1)).map D.str)]).length), o3, o4, some (.loc s1.length), some (.int (i : Nat)), some (.int (j : Nat))] (s4 ++ [.lst ((ws.take j).map D.str)] ++ [.lst ((ws.drop (j + 1)).map D.str)] ++ [.lst ((ws.take j ++ ws.drop (j + 1)).map D.str)]) :=
        ⟨_, ws.take j ++ ws.drop (j + 1), os ++ [ws[j]], _, _, _, _, rfl, get_new _ _, by omega, by
          rw [List.getElem?_append_left (by simp; omega), List.getElem?_append_left (by simp; omega), List.getElem?_append_left s4l]
          exact g4, by simp; omega, by simp; omega, Nat.ne_of_gt (Nat.lt_of_lt_of_le h4.lt.1 (by simp)), Nat.ne_of_gt (Nat.lt_of_lt_of_le h4.lt.2 (by simp)), ((h4.app _).app _).app _, ((k4.trans (Kp2.app c p _ _)).trans (Kp2.app c p _ _)).trans (Kp2.app c p _ _), pm⟩
      clear pm vp
      generalize (ws.take j ++ ws.drop (j + 1)).map D.str = l3 at *
      generalize (ws.take j).map D.str = l4 at *
      generalize (ws.drop (j + 1)).map D.str = l5 at *
      generalize ws[j] = wj at *
      simp only [List.append_assoc, List.cons_append, List.nil_append] at y2 y3
      simp [bl_d_law_deeds_1, l1, e3, z1, a1, t1, y1, y2, y3]
      simpa using fin)
    ⟨_, ws, [], _, _, _, _, rfl, by rw [List.getElem?_append_left lt1]; exact w1, by omega, get_new _ _, rfl, by omega, Nat.ne_of_gt h.lt.1, Nat.ne_of_gt h.lt.2, w4.app _, w5.trans (Kp2.app c p _ _), by rw [List.nil_append, w2']⟩
  have wr := rangeOf_int (s1 ++ [.lst []]) (n : Int) (by omega) (by omega)
  simp only [Int.toNat_natCast] at wr
  have el : letters.map D.str = [.str "f", .str "g", .str "h", .str "wa", .str "l"] := rfl
  rw [el] at e1
  have nd : os.Nodup := by
    have := vp.nodup_iff.mpr allW_nodup
    exact (List.nodup_append.mp this).1
  refine ⟨s1.length, s2, os, ?_, v3, v4, nd, by omega, v8, v9, fun x hx => vp.mem_iff.mp (List.mem_append.mpr (.inl hx))⟩
  simp only [List.append_assoc, List.cons_append, List.nil_append] at e1
  simp [m_d_law_deeds, b_d_law_deeds, e1, wr, e2]
end Law
namespace Law
open PySem Mi
theorem insert_loc {s : Store} {l : Nat} {xs : List D} (h : s[l]? = some (.lst xs)) {i : Int} (h0 : 0 ≤ i) (h1 : i ≤ xs.length) (hz : xs.length ≤ 1000000) (y : D) : dInsert (.loc l) [.int i, y] s = some (.non, s.set l (.lst (xs.take i.toNat ++ [y] ++ xs.drop i.toNat))) := by
  have q := lt_line hz
  simp only [dInsert, h]
  rw [if_pos ⟨q, h0, by omega⟩]
theorem ixN {nm : List Str} {s : Store} {l : Nat} (h : s[l]? = some (.lst (nm.map D.str))) {i : Int} (h0 : 0 ≤ i) (h1 : i < nm.length) : ∃ a, a ∈ nm ∧ nm[i.toNat]? = some a ∧ dIxA (.loc l) (.int i) s = some (.str a, s) := by
  obtain ⟨n, rfl⟩ := Int.eq_ofNat_of_zero_le h0
  have hn : n < nm.length := by omega
  refine ⟨nm[n], List.getElem_mem _, by simp [hn], ?_⟩
  rw [dIxA_loc h, L2.atI_nat (v := D.str nm[n]) (by simp [hn])]
  rfl
theorem ixI' {xs : List Int} {s : Store} {l : Nat} (h : s[l]? = some (.lst (xs.map D.int))) {i : Int} (h0 : 0 ≤ i) (h1 : i < xs.length) : ∃ a, a ∈ xs ∧ dIxA (.loc l) (.int i) s = some (.int a, s) := by
  obtain ⟨n, rfl⟩ := Int.eq_ofNat_of_zero_le h0
  have hn : n < xs.length := by omega
  refine ⟨xs[n], List.getElem_mem _, ?_⟩
  rw [dIxA_loc h, L2.atI_nat (v := D.int xs[n]) (by simp [hn])]
  rfl
theorem book2_turn {c p ln le : Nat} {nm : List Str} {s0 s : Store} (hp : Pool c p s) (k0 : Kp2 c p s0 s) (gn : s[ln]? = some (.lst (nm.map D.str))) (nn : ln ≠ p ∧ ln ≠ c) (hn : 1 ≤ nm.length) (hn2 : nm.length ≤ 41) {es : List (Str × Rec)} (he : s[le]? = some (.lst (es.map entD))) (hes : es.length ≤ 1000) (hin : ∀ e ∈ es, e.2.In nm) (nle : le ≠ p ∧ le ≠ c) (n2 : s0.length ≤ le) (a2 : D) {first last : Int} (hf : 0 ≤ last - first) (hf2 : last - first ≤ 100) (o6 o7 o8 o9 o10 o11 o12 o13 : Option D) :
    ∃ (env' : Sl) (s' : Store) (es' : List (Str × Rec)), bl_d_law_book_2 [some (.loc p), some (.loc ln), some a2, some (.int first), some (.int last), some (.loc le), o6, o7, o8, o9, o10, o11, o12, o13] s = .nx env' s' ∧ (∃ o6 o7 o8 o9 o10 o11 o12 o13, env' = [some (.loc p), some (.loc ln), some a2, some (.int first), some (.int last), some (.loc le), o6, o7, o8, o9, o10, o11, o12, o13]) ∧
      Pool c p s' ∧ Kp2 c p s0 s' ∧ s'[le]? = some (.lst (es'.map entD)) ∧ es'.length ≤ es.length + 1 ∧ ∀ e ∈ es', e.2.In nm := by
  have x1 := Ext.mk s [Cell.lst ([("ann" : Str), "bob", "told"].map D.str)]
  obtain ⟨k1, s1, e1, k10, k11, p1, kp1⟩ := draw_spec (Ext.pool x1 hp) (many := 3) (by omega) (by omega)
  have nlt : s.length ≠ p ∧ s.length ≠ c := ⟨Nat.ne_of_gt hp.lt.1, Nat.ne_of_gt hp.lt.2⟩
  obtain ⟨dg, _, _, wdg⟩ := ixN (kp1.get (get_new s (.lst ([("ann" : Str), "bob", "told"].map D.str))) nlt.1 nlt.2) k10 (by show k1 < 3; omega)
  have kA := (Ext.kp x1 c p).trans kp1
  have gn1 := kA.get gn nn.1 nn.2
  have wl1 := dLen_loc gn1
  rw [List.length_map] at wl1
  obtain ⟨k2, s2, e2, k20, k21, p2, kp2⟩ := draw_spec p1 (many := nm.length) (by omega) (by omega)
  have kB := kA.trans kp2
  have gn2 := kB.get gn nn.1 nn.2
  have wl2 := dLen_loc gn2
  rw [List.length_map] at wl2
  have done : ∀ {s' : Store} (e : Str × Rec), Pool c p s' → Kp2 c p s s' → e.2.In nm → ∀ (o6 o7 o8 o9 o10 o11 o12 o13 : Option D), ∃ (s2 : Store) (es' : List (Str × Rec)), dAppend (.loc le) [entD e] s' = some (.non, s2) ∧ Pool c p s2 ∧ Kp2 c p s0 s2 ∧ s2[le]? = some (.lst (es'.map entD)) ∧ es'.length ≤ es.length + 1 ∧ ∀ e ∈ es', e.2.In nm := fun {s'} e hp' k' hin' _ _ _ _ _ _ _ _ => by
    have ge := k'.get he nle.1 nle.2
    have wa := dAppend_loc ge (by simp; omega) (entD e)
    have z := k0.trans k'
    refine ⟨_, es ++ [e], wa, hp'.set nle.1 nle.2 _, ⟨by rw [List.length_set]; exact z.1, fun l hl a b => by rw [List.getElem?_set_ne (by omega)]; exact z.2 l hl a b⟩, by rw [get_set ge]; simp, by simp, fun x hx => ?_⟩
    rcases List.mem_append.mp hx with hx | hx
    · exact hin x hx
    · rw [List.mem_singleton.mp hx]; exact hin'
  have wte : ∀ {s'}, Kp2 c p s s' → tyOk "list" s' (.loc le) = true := fun k' => tyOk_list (k'.get he nle.1 nle.2)
  have e1' : m_d_law_draw [.loc p, .int 3] (s ++ [.lst [.str "ann", .str "bob", .str "told"]]) = .ok (.int k1) s1 := e1
  have yrs : ∀ (s3 : Store), Pool c p s3 → Kp2 c p s s3 → ∀ (one : Str), one ∈ nm → dIxA (.loc ln) (.int k2) s3 = some (.str one, s3) → ∃ (k5 : Int) (s5 : Store) (k6 : Int) (s6 s7 : Store) (es' : List (Str × Rec)), m_d_law_draw [.loc p, .int (last - first + 4)] s3 = .ok (.int k5) s5 ∧ tyOk "list" s5 (.loc le) = true ∧ dIxA (.loc ln) (.int k2) s5 = some (.str one, s5) ∧ m_d_law_draw [.loc p, .int 6] s5 = .ok (.int k6) s6 ∧
      dAppend (.loc le) [entD (dg, .yrs one (first - 2 + k5) (first - 2 + k5 + k6))] s6 = some (.non, s7) ∧ Pool c p s7 ∧ Kp2 c p s0 s7 ∧ s7[le]? = some (.lst (es'.map entD)) ∧ es'.length ≤ es.length + 1 ∧ ∀ e ∈ es', e.2.In nm := fun s3 p3 k3 one h1 w1 => by
    obtain ⟨k5, s5, e5, k50, k51, p5, kp5⟩ := draw_spec p3 (many := last - first + 4) (by omega) (by omega)
    obtain ⟨k6, s6, e6, k60, k61, p6, kp6⟩ := draw_spec p5 (many := 6) (by omega) (by omega)
    have gn5 := (k3.trans kp5).get gn nn.1 nn.2
    obtain ⟨one', _, ho', wo'⟩ := ixN gn5 k20 (by omega)
    obtain ⟨one'', _, ho'', wo''⟩ := ixN (k3.get gn nn.1 nn.2) k20 (by omega)
    have : one' = one := by
      rw [w1] at wo''
      have : one = one'' := by simpa using wo''
      rw [this]
      rw [ho'] at ho''
      exact Option.some.inj ho''
    subst this
    obtain ⟨s7, es', r1, r2, r3, r4, r5, r6⟩ := done (dg, .yrs one' (first - 2 + k5) (first - 2 + k5 + k6)) p6 ((k3.trans kp5).trans kp6) h1 none none none none none none none none
    exact ⟨k5, s5, k6, s6, s7, es', e5, wte (k3.trans kp5), wo', e6, r1, r2, r3, r4, r5, r6⟩
  obtain ⟨one, hone, hone2, wone⟩ := ixN gn2 k20 (by omega)
  by_cases c1 : 1 < nm.length
  · have c1' : (1 : Int) < nm.length := by omega
    obtain ⟨k3, s3, e3, k30, k31, p3, kp3⟩ := draw_spec p2 (many := 4) (by omega) (by omega)
    have kC := kB.trans kp3
    have gn3 := kC.get gn nn.1 nn.2
    have wl3 := dLen_loc gn3
    rw [List.length_map] at wl3
    by_cases c2 : 0 < k3
    · obtain ⟨k4, s4, e4, k40, k41, p4, kp4⟩ := draw_spec p3 (many := (nm.length : Int) - 1) (by omega) (by omega)
      have kD := kC.trans kp4
      have gn4 := kD.get gn nn.1 nn.2
      have wl4 := dLen_loc gn4
      rw [List.length_map] at wl4
      have wm := fun s => dMod_int (k2 + 1 + k4) (nm.length : Int) s (by omega)
      have b0 := Int.emod_nonneg (k2 + 1 + k4) (by omega : (nm.length : Int) ≠ 0)
      have b1 := Int.emod_lt_of_pos (k2 + 1 + k4) (by omega : (0 : Int) < nm.length)
      obtain ⟨a, ha, _, wa⟩ := ixN gn4 k20 (by omega)
      obtain ⟨b, hb, _, wb⟩ := ixN gn4 b0 b1
      obtain ⟨k5, s5, e5, k50, k51, p5, kp5⟩ := draw_spec p4 (many := 13) (by omega) (by omega)
      obtain ⟨s7, es', r1, r2, r3, r4, r5, r6⟩ := done (dg, .gap a b (k5 - 6)) p5 (kD.trans kp5) ⟨ha, hb⟩ none none none none none none none none
      have wt4 := wte kD
      simp only [entD, recD] at r1
      refine ⟨[some (.loc p), some (.loc ln), some a2, some (.int first), some (.int last), some (.loc le), o6, some (.str dg), some (.int k2), some (.int ((k2 + 1 + k4) % nm.length)), o10, o11, o12, o13], s7, es', ?_, ⟨_, _, _, _, _, _, _, _, rfl⟩, r2, r3, r4, r5, r6⟩
      simp [bl_d_law_book_2, e1', wdg, wl1, e2, wl2, c1', e3, c2, wl3, e4, wl4, wm, wt4, wa, wb, e5, r1]
    · obtain ⟨one3, h3, h32, w3⟩ := ixN gn3 k20 (by omega)
      obtain ⟨k5, s5, k6, s6, s7, es', q1, q2, q3, q4, q5, r2, r3, r4, r5, r6⟩ := yrs s3 p3 kC one3 h3 w3
      simp only [entD, recD] at q5
      refine ⟨[some (.loc p), some (.loc ln), some a2, some (.int first), some (.int last), some (.loc le), o6, some (.str dg), some (.int k2), o9, some (.int (first - 2 + k5)), o11, o12, o13], s7, es', ?_, ⟨_, _, _, _, _, _, _, _, rfl⟩, r2, r3, r4, r5, r6⟩
      simp [bl_d_law_book_2, e1', wdg, wl1, e2, wl2, c1', e3, c2, q1, q2, q3, q4, q5]
  · have c1' : ¬ (1 : Int) < nm.length := by omega
    obtain ⟨k5, s5, k6, s6, s7, es', q1, q2, q3, q4, q5, r2, r3, r4, r5, r6⟩ := yrs s2 p2 kB one hone wone
    simp only [entD, recD] at q5
    refine ⟨[some (.loc p), some (.loc ln), some a2, some (.int first), some (.int last), some (.loc le), o6, some (.str dg), some (.int k2), o9, some (.int (first - 2 + k5)), o11, o12, o13], s7, es', ?_, ⟨_, _, _, _, _, _, _, _, rfl⟩, r2, r3, r4, r5, r6⟩
    simp [bl_d_law_book_2, e1', wdg, wl1, e2, wl2, c1', q1, q2, q3, q4, q5]
end Law
namespace Law
open PySem Mi
theorem book1_turn {c p le : Nat} {nm : List Str} {s0 s : Store} (hp : Pool c p s) (k0 : Kp2 c p s0 s) {es : List (Str × Rec)} (he : s[le]? = some (.lst (es.map entD))) (hes : es.length ≤ 1000) (hin : ∀ e ∈ es, e.2.In nm) (nle : le ≠ p ∧ le ≠ c) (n2 : s0.length ≤ le) (r : Rec) (hr : r.In nm) (a1 a2 a3 a4 a6 a7 a8 a9 a10 a11 o13 : Option D) :
    ∃ (k : Int) (s' : Store) (es' : List (Str × Rec)), bl_d_law_book_1 [some (.loc p), a1, a2, a3, a4, some (.loc le), a6, a7, a8, a9, a10, a11, some (recD r), o13] s = .nx [some (.loc p), a1, a2, a3, a4, some (.loc le), a6, a7, a8, a9, a10, a11, some (recD r), some (.int k)] s' ∧
      Pool c p s' ∧ Kp2 c p s0 s' ∧ s'[le]? = some (.lst (es'.map entD)) ∧ es'.length = es.length + 1 ∧ (∀ e ∈ es', e.2.In nm) ∧ (∀ e ∈ es, e ∈ es') ∧ (("cy" : Str), r) ∈ es' ∧ (∀ l, l < s.length → l ≠ p → l ≠ c → l ≠ le → s'[l]? = s[l]?) := by
  have wl := dLen_loc he
  rw [List.length_map] at wl
  obtain ⟨k, s1, e1, k0', k1, p1, kp1⟩ := draw_spec hp (many := (es.length : Int) + 1) (by omega) (by omega)
  have ge := kp1.get he nle.1 nle.2
  have wi := insert_loc ge (i := k) k0' (by rw [List.length_map]; omega) (by rw [List.length_map]; omega) (entD (("cy" : Str), r))
  have wt := tyOk_list ge
  have z := k0.trans kp1
  have em : (es.map entD).take k.toNat ++ [entD (("cy" : Str), r)] ++ (es.map entD).drop k.toNat = (es.take k.toNat ++ [(("cy" : Str), r)] ++ es.drop k.toNat).map entD := by simp
  rw [em] at wi
  refine ⟨k, s1.set le (.lst ((es.take k.toNat ++ [(("cy" : Str), r)] ++ es.drop k.toNat).map entD)), es.take k.toNat ++ [(("cy" : Str), r)] ++ es.drop k.toNat, ?_, p1.set nle.1 nle.2 _, ⟨by rw [List.length_set]; exact z.1, fun l hl a b => by rw [List.getElem?_set_ne (by omega)]; exact z.2 l hl a b⟩, by rw [get_set ge], by simp; omega, fun e h => ?_, fun e h => ?_, by simp, fun l hl a b q => by rw [List.getElem?_set_ne (Ne.symm q)]; exact kp1.2 l hl a b⟩
  · generalize (es.take k.toNat ++ [(("cy" : Str), r)] ++ es.drop k.toNat).map entD = ed2 at *
    simp only [entD] at wi
    generalize recD r = rd at *
    simp [bl_d_law_book_1, wl, e1, wt, wi]
  · simp only [List.mem_append, List.mem_singleton] at h
    rcases h with (h | rfl) | h
    · exact hin e (List.mem_of_mem_take h)
    · exact hr
    · exact hin e (List.mem_of_mem_drop h)
  · rw [← List.take_append_drop k.toNat es] at h
    simp only [List.mem_append, List.mem_singleton] at h ⊢
    rcases h with h | h
    · exact .inl (.inl h)
    · exact .inr h
theorem book_spec {c p ln : Nat} {nm : List Str} {s : Store} (hp : Pool c p s) (gn : s[ln]? = some (.lst (nm.map D.str))) (nn : ln ≠ p ∧ ln ≠ c) (hn2 : nm.length ≤ 41) {ct : Nat} (hct : ct ≤ 200) (hz : nm.length = 0 → ct = 0) :
    ∃ (s' : Store) (first last : Int) (deeds : List Str) (ents : List (Str × Rec)), m_d_law_book [.loc p, .loc ln, .int ct] s = .ok (bookD first last deeds ents) s' ∧ deeds.Perm nm ∧ BOk deeds ents ∧ ents.length ≤ 900 ∧ Pool c p s' ∧ Kp2 c p s s' ∧
      (∀ a b r, nm = a :: b :: r → ∃ w, (("cy" : Str), Rec.gap a b w) ∈ ents ∧ (("cy" : Str), Rec.gap b a (0 - w)) ∈ ents) := by
  have x1 := Ext.mk s [Cell.lst ([(0 : Int), -6, 3, -9000, 800].map D.int)]
  obtain ⟨k1, s1, e1, k10, k11, p1, kp1⟩ := draw_spec (Ext.pool x1 hp) (many := 5) (by omega) (by omega)
  have nlt : s.length ≠ p ∧ s.length ≠ c := ⟨Nat.ne_of_gt hp.lt.1, Nat.ne_of_gt hp.lt.2⟩
  obtain ⟨first, hf, w1⟩ := ixI' (kp1.get (get_new s (.lst ([(0 : Int), -6, 3, -9000, 800].map D.int))) nlt.1 nlt.2) k10 (by show k1 < 5; omega)
  have kA := (Ext.kp x1 c p).trans kp1
  have x2 := Ext.mk s1 [Cell.lst ([(0 : Int), 1, 8, 70].map D.int)]
  obtain ⟨k2, s2, e2, k20, k21, p2, kp2⟩ := draw_spec (Ext.pool x2 p1) (many := 4) (by omega) (by omega)
  have nlt1 : s1.length ≠ p ∧ s1.length ≠ c := ⟨Nat.ne_of_gt p1.lt.1, Nat.ne_of_gt p1.lt.2⟩
  obtain ⟨wide, hw, w2⟩ := ixI' (kp2.get (get_new s1 (.lst ([(0 : Int), 1, 8, 70].map D.int))) nlt1.1 nlt1.2) k20 (by show k2 < 4; omega)
  have kB := (kA.trans (Ext.kp x2 c p)).trans kp2
  have hw0 : 0 ≤ wide ∧ wide ≤ 100 := by
    simp only [List.mem_cons, List.mem_nil_iff, or_false] at hw
    rcases hw with rfl | rfl | rfl | rfl <;> decide
  have x3 := Ext.mk s2 [Cell.lst (([] : List (Str × Rec)).map entD)]
  have p3 := Ext.pool x3 p2
  have kC := kB.trans (Ext.kp x3 c p)
  have nle : s2.length ≠ p ∧ s2.length ≠ c := ⟨Nat.ne_of_gt p2.lt.1, Nat.ne_of_gt p2.lt.2⟩
  obtain ⟨env4, s4, e4, ⟨q6, q7, q8, q9, q10, q11, q12, q13, rfl⟩, p4, k4, es, g4, l4, hin4⟩ := forL_atT (gd := always) (g := gN 6) (b := bl_d_law_book_2) (rng ct) (fun k env s' => (∃ o6 o7 o8 o9 o10 o11 o12 o13, env = [some (.loc p), some (.loc ln), some (.int ct), some (.int first), some (.int (first + wide)), some (.loc s2.length), o6, o7, o8, o9, o10, o11, o12, o13]) ∧ Pool c p s' ∧ Kp2 c p s2 s' ∧ ∃ es : List (Str × Rec), s'[s2.length]? = some (.lst (es.map entD)) ∧ es.length ≤ k ∧ ∀ e ∈ es, e.2.In nm) (fun _ _ _ _ => trivial)
    (fun k d env s' hk ⟨⟨o6, o7, o8, o9, o10, o11, o12, o13, he⟩, hp', kp', es, ges, hl, hin⟩ => by
      subst he
      obtain ⟨hk', rfl⟩ := rng_get hk
      obtain ⟨env', s'', es', e, ⟨a6, a7, a8, a9, a10, a11, a12, a13, rfl⟩, r2, r3, r4, r5, r6⟩ := book2_turn hp' kp' (kp'.get (kB.get gn nn.1 nn.2) nn.1 nn.2) nn (by omega) hn2 ges (by omega) hin nle (Nat.le_refl _) (.int ct) (first := first) (last := first + wide) (by omega) (by omega) (some (.int (k : Nat))) o7 o8 o9 o10 o11 o12 o13
      rw [turn_gN]
      show Turns _ _ (bl_d_law_book_2 [some (.loc p), some (.loc ln), some (.int ct), some (.int first), some (.int (first + wide)), some (.loc s2.length), some (.int (k : Nat)), o7, o8, o9, o10, o11, o12, o13] s')
      rw [e]
      exact ⟨⟨_, _, _, _, _, _, _, _, rfl⟩, r2, r3, es', r4, by omega, r6⟩) (env := [some (.loc p), some (.loc ln), some (.int ct), some (.int first), some (.int (first + wide)), some (.loc s2.length), none, none, none, none, none, none, none, none]) (s := s2 ++ [Cell.lst (([] : List (Str × Rec)).map entD)])
    ⟨⟨_, _, _, _, _, _, _, _, rfl⟩, p3, Ext.kp x3 c p, [], get_new _ _, Nat.zero_le _, fun e h => by cases h⟩
  rw [rng_len] at l4
  have wr := rangeOf_int (s2 ++ [Cell.lst []]) (ct : Int) (by omega) (by omega)
  rw [Int.toNat_natCast] at wr
  have gn4 := k4.get (kB.get gn nn.1 nn.2) nn.1 nn.2
  have wl4 := dLen_loc gn4
  rw [List.length_map] at wl4
  obtain ⟨ok, ds, hM, lM, pM⟩ := sort_strs nm
  have perm_in : ∀ {r : Rec}, r.In nm → r.In ds := fun {r} h => by
    cases r with
    | gap a b w => exact ⟨pM.mem_iff.mpr h.1, pM.mem_iff.mpr h.2⟩
    | yrs d i j => exact pM.mem_iff.mpr h
  have srt : ∀ s', s'[ln]? = some (.lst (nm.map D.str)) → dSorted [.loc ln] s' = some (.loc s'.length, s' ++ [.lst (ds.map D.str)]) := fun s' h => by simp [dSorted, seqOf, lstOf, h, ok, hM]
  have e1' : m_d_law_draw [.loc p, .int 5] (s ++ [.lst [.int 0, .int (-6), .int 3, .int (-9000), .int 800]]) = .ok (.int k1) s1 := e1
  have e2' : m_d_law_draw [.loc p, .int 4] (s1 ++ [.lst [.int 0, .int 1, .int 8, .int 70]]) = .ok (.int k2) s2 := e2
  have e4' : forL always (gN 6) bl_d_law_book_2 (rng ct) [some (.loc p), some (.loc ln), some (.int ct), some (.int first), some (.int (first + wide)), some (.loc s2.length), none, none, none, none, none, none, none, none] (s2 ++ [Cell.lst []]) = .nx _ s4 := e4
  clear e1 e2 e4
  by_cases c1 : 1 < nm.length
  · obtain ⟨a, b, rest, hab⟩ : ∃ a b rest, nm = a :: b :: rest := by
      match nm, c1 with
      | a :: b :: rest, _ => exact ⟨a, b, rest, rfl⟩
    have c1' : (1 : Int) < nm.length := by omega
    obtain ⟨k5, s5, e5, k50, k51, p5, kp5⟩ := draw_spec p4 (many := 9) (by omega) (by omega)
    have gn5 := kp5.get gn4 nn.1 nn.2
    have ia : dIxA (.loc ln) (.int 0) s5 = some (.str a, s5) := by rw [dIxA_loc gn5, hab]; simp
    have ib : dIxA (.loc ln) (.int 1) s5 = some (.str b, s5) := by rw [dIxA_loc gn5, hab]; simp
    have g5 := kp5.get g4 nle.1 nle.2
    obtain ⟨w, hw'⟩ : ∃ w, w = k5 - 4 := ⟨_, rfl⟩
    have ma : a ∈ nm := by rw [hab]; simp
    have mb : b ∈ nm := by rw [hab]; simp
    have x6 := Ext.mk s5 [Cell.lst [recD (.gap a b w), recD (.gap b a (0 - w))]]
    have p6 := Ext.pool x6 p5
    have g6 := x6.get g5
    have gl := get_new s5 (.lst [recD (.gap a b w), recD (.gap b a (0 - w))])
    have n6 : s5.length ≠ p ∧ s5.length ≠ c := ⟨Nat.ne_of_gt p5.lt.1, Nat.ne_of_gt p5.lt.2⟩
    have lt5 := lt_of_get g5
    have kp6 := ((k4.trans kp5).trans (Ext.kp x6 c p))
    obtain ⟨k7, s7, es7, e7, p7, kp7, g7, l7, hin7, m7, cy7, o7⟩ := book1_turn (s0 := s2) p6 kp6 g6 (by omega) hin4 nle (Nat.le_refl _) (.gap a b w) ⟨ma, mb⟩ (some (.loc ln)) (some (.int ct)) (some (.int first)) (some (.int (first + wide))) q6 q7 q8 q9 q10 (some (.int w)) q13
    obtain ⟨k8, s8, es8, e8, p8, kp8, g8, l8, hin8, m8, cy8, o8⟩ := book1_turn (s0 := s2) p7 kp7 g7 (by omega) hin7 nle (Nat.le_refl _) (.gap b a (0 - w)) ⟨mb, ma⟩ (some (.loc ln)) (some (.int ct)) (some (.int first)) (some (.int (first + wide))) q6 q7 q8 q9 q10 (some (.int w)) (some (.int k7))
    have lts5 : s5.length < (s5 ++ [Cell.lst [recD (.gap a b w), recD (.gap b a (0 - w))]]).length := by simp
    have n7 : s5.length ≠ s2.length := by omega
    have gl7 : s7[s5.length]? = some (.lst [recD (.gap a b w), recD (.gap b a (0 - w))]) := by rw [o7 _ lts5 n6.1 n6.2 n7]; exact gl
    have gl8 : s8[s5.length]? = some (.lst [recD (.gap a b w), recD (.gap b a (0 - w))]) := by rw [o8 _ (lt_of_get gl7) n6.1 n6.2 n7]; exact gl7
    have gn8 := (kp8.get (kB.get gn nn.1 nn.2) nn.1 nn.2)
    have eF : forL (fun z => z[s5.length]? = some (Cell.lst [recD (.gap a b w), recD (.gap b a (0 - w))])) (gN 12) bl_d_law_book_1 [recD (.gap a b w), recD (.gap b a (0 - w))] [some (.loc p), some (.loc ln), some (.int ct), some (.int first), some (.int (first + wide)), some (.loc s2.length), q6, q7, q8, q9, q10, some (.int w), q12, q13] (s5 ++ [Cell.lst [recD (.gap a b w), recD (.gap b a (0 - w))]]) = .nx [some (.loc p), some (.loc ln), some (.int ct), some (.int first), some (.int (first + wide)), some (.loc s2.length), q6, q7, q8, q9, q10, some (.int w), some (recD (.gap b a (0 - w))), some (.int k8)] s8 := by
      rw [forL_cons _ _ _ gl]
      simp only [gN_eq, List.set_cons_succ, List.set_cons_zero, e7]
      rw [forL_cons _ _ _ gl7]
      simp only [gN_eq, List.set_cons_succ, List.set_cons_zero, e8]
      rw [forL_nil _ _ _ gl8]
    have y1 := srt s8 gn8
    have y2 := dTuple_loc (get_new s8 (.lst (ds.map D.str)))
    have x9 := Ext.mk s8 [.lst (ds.map D.str)]
    have y3 := dTuple_loc (x9.get g8)
    refine ⟨s8 ++ [.lst (ds.map D.str)], first, first + wide, ds, es8, ?_, pM, ⟨by omega, by omega, fun e h => perm_in (hin8 e h)⟩, by omega, Ext.pool x9 p8, (kB.trans kp8).trans (Ext.kp x9 c p), fun a' b' r' h => ?_⟩
    · simp only [bookD]
      rw [hw'] at eF
      simp only [recD, Int.zero_sub] at eF
      generalize ds.map D.str = dd at *
      generalize es8.map entD = ed at *
      simp [m_d_law_book, b_d_law_book, e1', w1, e2', w2, wr, e4', wl4, c1', e5, ia, ib, eF, y1, y2, y3, -rangeOf_int]
    · rw [hab] at h
      simp only [List.cons.injEq] at h
      obtain ⟨rfl, rfl, _⟩ := h
      exact ⟨w, m8 _ cy7, cy8⟩
  · have c1' : ¬ (1 : Int) < nm.length := by omega
    have y1 := srt s4 gn4
    have y2 := dTuple_loc (get_new s4 (.lst (ds.map D.str)))
    have x5 := Ext.mk s4 [.lst (ds.map D.str)]
    have y3 := dTuple_loc (x5.get g4)
    refine ⟨s4 ++ [.lst (ds.map D.str)], first, first + wide, ds, es, ?_, pM, ⟨by omega, by omega, fun e h => perm_in (hin4 e h)⟩, by omega, Ext.pool x5 p4, (kB.trans k4).trans (Ext.kp x5 c p), fun a b r h => by rw [h] at c1; exact absurd c1 (by simp)⟩
    simp only [bookD]
    generalize ds.map D.str = dd at *
    generalize es.map entD = ed at *
    simp [m_d_law_book, b_d_law_book, e1', w1, e2', w2, wr, e4', wl4, c1', y1, y2, y3, -rangeOf_int]
end Law
namespace Law
open PySem Mi
/-! ### equality with nothing -/
def stP (x : St) : PyData := .tuple [.str x.a, .str x.b, .int x.i]
theorem pys_st : ∀ ws : List St, pys0 (ws.map stD) = some (ws.map stP)
  | [] => rfl
  | x :: r => by
    show (py0 (stD x)).bind (fun a => (pys0 (r.map stD)).map fun q => a :: q) = _
    rw [pys_st r]
    rfl
/-- a step whose names are texts, whose number is small -/
def sOk (x : St) : Prop := PyData.strOk x.a = true ∧ PyData.strOk x.b = true ∧ -1 ≤ x.i ∧ x.i ≤ 1000 ∧ x.a.length ≤ 100
theorem lay_st : ∀ ws : List St, (∀ x ∈ ws, sOk x) → PyData.canLayAll0 (ws.map stP) = true ∧ PyData.depthAll (ws.map stP) ≤ 20
  | [], _ => ⟨by simp [PyData.canLayAll0], by simp [PyData.depthAll]⟩
  | x :: r, h => by
    obtain ⟨a, b⟩ := lay_st r fun y hy => h y (by simp [hy])
    obtain ⟨h1, h2, _, _⟩ := h x (by simp)
    constructor
    · simp [PyData.canLayAll0, PyData.canLay0, stP, h1, h2]
      simpa [stP] using a
    · have e : PyData.depth (stP x) ≤ 10 := by simp [stP, PyData.depth, PyData.depthAll]
      simp only [List.map_cons, PyData.depthAll]
      omega
theorem eqB_nilL {s : Store} {l k : Nat} {ws : List St} (h : s[l]? = some (.lst (ws.map stD))) (hw : ∀ x ∈ ws, sOk x) (h2 : s[k]? = some (.lst [])) : dEq (.loc l) (.loc k) s = some (.bl ws.isEmpty, s) := by
  obtain ⟨a, b⟩ := lay_st ws hw
  have h1 : py1 s (.loc l) = some (.list (ws.map stP)) := by simp [py1, h, pys_st]
  have h3 : py1 s (.loc k) = some (.list []) := by simp [py1, h2, pys0]
  have h4 : SeqAt.shaped (.list (ws.map stP)) = true := by
    simp [SeqAt.shaped, PyData.canLay0, PyData.depth, a]
    omega
  have h5 : SeqAt.shaped (.list []) = true := by simp [SeqAt.shaped, PyData.canLay0, PyData.canLayAll0, PyData.depth, PyData.depthAll]
  have h6 : PyData.eqv (.list (ws.map stP)) (.list []) = ws.isEmpty := by
    cases ws <;> simp [PyData.eqv, PyData.eqvAll]
  have h7 : dScal (.loc l) (.loc k) = none := rfl
  simp [dEq, dEqB, h7, h1, h3, h4, h5, h6]
theorem eqB_nilT {ws : List St} (hw : ∀ x ∈ ws, sOk x) (s : Store) : dEqB (.tup (ws.map stD)) (.tup []) s = some ws.isEmpty := by
  obtain ⟨a, b⟩ := lay_st ws hw
  have h1 : py1 s (.tup (ws.map stD)) = some (.tuple (ws.map stP)) := by simp [py1, py0, pys_st]
  have h3 : py1 s (.tup []) = some (.tuple []) := by simp [py1, py0, pys0]
  have h4 : SeqAt.shaped (.tuple (ws.map stP)) = true := by
    simp [SeqAt.shaped, PyData.canLay0, PyData.depth, a]
    omega
  have h5 : SeqAt.shaped (.tuple []) = true := by simp [SeqAt.shaped, PyData.canLay0, PyData.canLayAll0, PyData.depth, PyData.depthAll]
  have h6 : PyData.eqv (.tuple (ws.map stP)) (.tuple []) = ws.isEmpty := by
    cases ws <;> simp [PyData.eqv, PyData.eqvAll]
  have h7 : dScal (.tup (ws.map stD)) (.tup []) = none := rfl
  simp [dEqB, h7, h1, h3, h4, h5, h6]
theorem eq_nilT {ws : List St} (hw : ∀ x ∈ ws, sOk x) (s : Store) : dEq (.tup (ws.map stD)) (.tup []) s = some (.bl ws.isEmpty, s) := by simp [dEq, eqB_nilT hw]
theorem ne_nilT {ws : List St} (hw : ∀ x ∈ ws, sOk x) (s : Store) : dNe (.tup (ws.map stD)) (.tup []) s = some (.bl !ws.isEmpty, s) := by simp [dNe, eqB_nilT hw]
/-! ### the steps of a book's table -/
def TOk (T : Tb) : Prop := ∀ x, (wv T x).isSome = true → sOk x
theorem fold_mem : ∀ (L : List Stp) (T : Tb) (kv : List L2.Key × D), kv ∈ L.foldl (fun ks x => putD ks (keyS x) (.int x.w)) T → kv ∈ T ∨ ∃ x ∈ L, kv = (keyS x, .int x.w)
  | [], T, kv, h => .inl h
  | x :: L, T, kv, h => by
    rcases fold_mem L _ kv h with q | ⟨y, hy, q⟩
    · rcases putD_mem q with q | q
      · exact .inl q
      · exact .inr ⟨x, by simp, q⟩
    · exact .inr ⟨y, by simp [hy], q⟩
theorem tbl_mem {L : List Stp} {kv : List L2.Key × D} (h : kv ∈ tblOf L) : ∃ x ∈ L, kv = (keyS x, .int x.w) := by
  rcases fold_mem L [] kv h with q | q
  · cases q
  · exact q
theorem wv_mem {L : List Stp} {x : St} (h : (wv (tblOf L) x).isSome = true) : ∃ y ∈ L, y.a = x.a ∧ y.b = x.b ∧ y.i = x.i := by
  have e : (wv (tblOf L) x).isSome = (getD (tblOf L) (key3 x.a x.b x.i)).isSome := (wt_some (tab_of L)).symm
  rw [e] at h
  obtain ⟨d, hd⟩ := Option.isSome_iff_exists.mp h
  obtain ⟨y, hy, e⟩ := tbl_mem (getD_mem hd)
  refine ⟨y, hy, ?_⟩
  have e := (Prod.mk.inj e).1
  unfold keyS key3 at e
  simp only [List.cons.injEq, Sum.inr.injEq, Sum.inl.injEq, and_true] at e
  exact ⟨e.1.symm, e.2.1.symm, e.2.2.symm⟩
theorem rec_mem {deeds : List Str} {n : Nat} {r : Rec} (hr : r.In deeds) {y : Stp} (h : y ∈ rStp n r) : (y.a = "" ∨ y.a ∈ deeds) ∧ (y.b = "" ∨ y.b ∈ deeds) ∧ y.i = n := by
  cases r with
  | gap a b w =>
    rw [List.mem_singleton.mp h]
    exact ⟨.inr hr.1, .inr hr.2, rfl⟩
  | yrs d i j =>
    simp only [rStp, List.mem_cons, List.mem_nil_iff, or_false] at h
    rcases h with rfl | rfl
    · exact ⟨.inl rfl, .inr hr, rfl⟩
    · exact ⟨.inr hr, .inl rfl, rfl⟩
theorem all_mem {first last : Int} {deeds : List Str} {ents : List (Str × Rec)} (b : BOk deeds ents) {y : Stp} (h : y ∈ allStp first last deeds ents) : (y.a = "" ∨ y.a ∈ deeds) ∧ (y.b = "" ∨ y.b ∈ deeds) ∧ -1 ≤ y.i ∧ y.i ≤ 1000 := by
  have h2 := b.h2
  unfold allStp at h
  rcases List.mem_append.mp h with h | h
  · obtain ⟨d, hd, h⟩ := List.mem_flatMap.mp h
    simp only [dStp, List.mem_cons, List.mem_nil_iff, or_false] at h
    rcases h with rfl | rfl
    · exact ⟨.inl rfl, .inr hd, by show (-1 : Int) ≤ -1; omega, by show (-1 : Int) ≤ 1000; omega⟩
    · exact ⟨.inr hd, .inl rfl, by show (-1 : Int) ≤ -1; omega, by show (-1 : Int) ≤ 1000; omega⟩
  · unfold eStp at h
    obtain ⟨i, hi, h⟩ := List.mem_flatMap.mp h
    rw [List.mem_range] at hi
    rw [List.getElem?_eq_getElem hi] at h
    obtain ⟨p1, p2, p3⟩ := rec_mem (b.hin _ (List.getElem_mem hi)) h
    exact ⟨p1, p2, by omega, by omega⟩
theorem tok_of {first last : Int} {deeds : List Str} {ents : List (Str × Rec)} (b : BOk deeds ents) (hd : ∀ x ∈ deeds, PyData.strOk x = true ∧ x.length ≤ 100) : TOk (Tof first last deeds ents) := fun x hx => by
  obtain ⟨y, hy, e1, e2, e3⟩ := wv_mem hx
  obtain ⟨p1, p2, p3, p4⟩ := all_mem b hy
  have e0 : PyData.strOk "" = true := by decide +kernel
  refine ⟨?_, ?_, by omega, by omega, ?_⟩
  · rw [← e1]
    rcases p1 with q | q
    · rw [q]; exact e0
    · exact (hd _ q).1
  · rw [← e2]
    rcases p2 with q | q
    · rw [q]; exact e0
    · exact (hd _ q).1
  · rw [← e1]
    rcases p1 with q | q
    · rw [q]; decide
    · exact (hd _ q).2
theorem allW_ok : ∀ x ∈ allW, PyData.strOk x = true ∧ x.length ≤ 100 := by decide +kernel
/-! ### the steps of a table -/
theorem sort_sts (L : List St) : sortOk (L.map stD) ∧ ∃ M : List St, sortD (L.map stD) = M.map stD ∧ M.Perm L := by
  have e : ∀ x : St, pyD (stD x) = stP x := fun _ => rfl
  refine ⟨⟨fun d hd => ?_, ?_, ?_⟩, L.mergeSort fun x y => PySem.W.dataLe false pyD (stD x) (stD y), ?_, List.mergeSort_perm _ _⟩
  · obtain ⟨x, _, rfl⟩ := List.mem_map.mp hd
    exact ⟨rfl, by rw [e]; simp [stP, PyData.depth, PyData.depthAll]⟩
  · rw [List.map_map]
    exact PySem.W.AllAlike.of (enc := fun x => pyD (stD x)) fun x y => by rw [e, e]; simp [stP, PySem.W.alike, PySem.W.alikeAll]
  · rw [List.map_map]
    exact PySem.W.Sortable.tuples (enc := fun x => pyD (stD x)) fun x => ⟨_, _, e x⟩
  · unfold sortD
    rw [List.map_mergeSort (r := fun x y : St => PySem.W.dataLe false pyD (stD x) (stD y)) (s := PySem.W.dataLe false pyD) fun _ _ _ _ => rfl]
theorem keys_of : ∀ (T : Tb), Tab T → ∃ L : List St, T.map (fun kv => D.tup (kv.1.map keyD)) = L.map stD ∧ L.length = T.length ∧ T.map Prod.fst = L.map fun x => key3 x.a x.b x.i
  | [], _ => ⟨[], rfl, rfl, rfl⟩
  | kv :: T, h => by
    obtain ⟨L, h1, h2, h3⟩ := keys_of T fun z hz => h z (by simp [hz])
    obtain ⟨a, b, i, w, e⟩ := h kv (by simp)
    subst e
    refine ⟨⟨a, b, i⟩ :: L, ?_, by simp [h2], ?_⟩
    · simp only [List.map_cons, h1]
      rfl
    · simp only [List.map_cons, h3]
theorem getD_some {T : Tb} {k : List L2.Key} (h : k ∈ T.map Prod.fst) : (getD T k).isSome = true := by
  obtain ⟨kv, hm, rfl⟩ := List.mem_map.mp h
  unfold getD
  cases q : T.find? fun z => decide (z.1 = kv.1) with
  | none => exact absurd (List.find?_eq_none.mp q kv hm) (by simp)
  | some z => rfl
theorem keys_spec {T : Tb} (hT : Tab T) : ∃ L : List St, T.map (fun kv => D.tup (kv.1.map keyD)) = L.map stD ∧ L.length = T.length ∧ ∀ x, x ∈ L ↔ (wv T x).isSome = true := by
  obtain ⟨L, h1, h2, h3⟩ := keys_of T hT
  refine ⟨L, h1, h2, fun x => ?_⟩
  have e : (wv T x).isSome = (getD T (key3 x.a x.b x.i)).isSome := (wt_some hT).symm
  rw [e]
  constructor
  · intro hx
    refine getD_some ?_
    rw [h3]
    exact List.mem_map.mpr ⟨x, hx, rfl⟩
  · intro hx
    obtain ⟨d, hd⟩ := Option.isSome_iff_exists.mp hx
    have hm := getD_mem hd
    have : key3 x.a x.b x.i ∈ T.map Prod.fst := List.mem_map.mpr ⟨_, hm, rfl⟩
    rw [h3] at this
    obtain ⟨y, hy, e⟩ := List.mem_map.mp this
    unfold key3 at e
    simp only [List.cons.injEq, Sum.inr.injEq, Sum.inl.injEq, and_true] at e
    obtain ⟨e1, e2, e3⟩ := e
    have : y = x := by cases y; cases x; simp_all
    rw [← this]; exact hy
theorem steps_spec {T : Tb} (hT : Tab T) {s : Store} {lt : Nat} (h : s[lt]? = some (.dct T)) : ∃ M : List St, (∀ x, x ∈ M ↔ (wv T x).isSome = true) ∧ M.length = T.length ∧ ∃ s1, dListA [.loc lt] s = some (.loc s.length, s1) ∧ Ext s s1 ∧ dSorted [.loc s.length] s1 = some (.loc s1.length, s1 ++ [.lst (M.map stD)]) := by
  obtain ⟨L, h1, h2, h3⟩ := keys_spec hT
  obtain ⟨ok, M, hM, pM⟩ := sort_sts L
  refine ⟨M, fun x => by rw [pM.mem_iff]; exact h3 x, by rw [pM.length_eq, h2], s ++ [.lst (L.map stD)], ?_, Ext.mk _ _, ?_⟩
  · have e : dicOf s (.loc lt) = none := by simp [dicOf, h]
    have e2 : dctOf s (.loc lt) = some (lt, T) := by simp [dctOf, h]
    unfold dListA
    simp only [e, e2, h1]
  · have g := get_new s (.lst (L.map stD))
    generalize s ++ [Cell.lst (L.map stD)] = s1 at *
    simp [dSorted, seqOf, lstOf, g, ok, hM]
/-! ### drawn walks -/
theorem chain_snoc {T : Tb} : ∀ {ws : List St} {n : Str} {x : St}, Chain T n ws → x.a = endOf n ws → (wv T x).isSome = true → Chain T n (ws ++ [x])
  | [], n, x, _, h, k => ⟨h, k, trivial⟩
  | y :: ws, n, x, ⟨h1, h2, h3⟩, h, k => by
    have e : endOf n (y :: ws) = endOf y.b ws := by
      unfold endOf
      cases ws with
      | nil => simp
      | cons z zs =>
        rw [List.getLast?_cons_cons]
        cases hh : (z :: zs).getLast? with
        | none => simp at hh
        | some z => rfl
    rw [e] at h
    exact ⟨h1, h2, chain_snoc h3 h k⟩
theorem endOf_snoc (n : Str) (ws : List St) (x : St) : endOf n (ws ++ [x]) = x.b := by unfold endOf; simp
theorem st0 (x : St) (s : Store) : dIxA (stD x) (.int 0) s = some (.str x.a, s) := by unfold stD; rw [dIxA_tup, ix0]
theorem st1 (x : St) (s : Store) : dIxA (stD x) (.int 1) s = some (.str x.b, s) := by unfold stD; rw [dIxA_tup, ix1]
theorem st2 (x : St) (s : Store) : dIxA (stD x) (.int 2) s = some (.int x.i, s) := by unfold stD; rw [dIxA_tup, ix2]
theorem here_spec {s : Store} {ls : Nat} {M : List St} (h : s[ls]? = some (.lst (M.map stD))) (hz : M.length ≤ 1000000) (node : Str) (o0 o1 o2 o3 o5 o6 o7 o8 : Option D) :
    lcL (fun s2 => s2[ls]? = some (.lst (M.map stD))) (gN 7) lt_d_law_walk_1 le_d_law_walk_2 [o0, o1, o2, o3, some (.str node), o5, o6, o7, o8] (M.map stD) [] s = .ok ((M.filter fun x => decide (x.a = node)).map stD) s := by
  have w := lcL_fm (gd := fun s2 => s2[ls]? = some (Cell.lst (M.map stD))) (g := gN 7) (t := lt_d_law_walk_1) (e := le_d_law_walk_2) (env := [o0, o1, o2, o3, some (.str node), o5, o6, o7, o8]) (s := s) h stD (fun x => if x.a = node then some (stD x) else none) M [] (fun x _ => by
    have i0 : dIxA (stD x) (.int 0) s = some (.str x.a, s) := st0 x s
    by_cases c : x.a = node
    · generalize stD x = sx at *
      simp [lt_d_law_walk_1, le_d_law_walk_2, i0, c]
    · generalize stD x = sx at *
      simp [lt_d_law_walk_1, le_d_law_walk_2, i0, c]) (by simpa using hz)
  rw [w, List.nil_append]
  congr 1
  clear w h hz
  induction M with
  | nil => rfl
  | cons x M ih =>
    by_cases c : x.a = node
    · simp [c, ih]
    · simp [c, ih]
theorem walk3_turn {c p ls lo : Nat} {T : Tb} {M ws : List St} {s0 s : Store} (hp : Pool c p s) (k0 : Kp2 c p s0 s) (hM : ∀ x ∈ M, (wv T x).isSome = true) (hT : TOk T) (hz : M.length ≤ 100000) (gs : s[ls]? = some (.lst (M.map stD))) (n1 : ls ≠ p ∧ ls ≠ c) (n2 : lo ≠ p ∧ lo ≠ c) (n3 : s0.length ≤ lo) (n4 : ls < s0.length)
    (go : s[lo]? = some (.lst (ws.map stD))) (hw : ws.length ≤ 1000) (start : Str) (hc : Chain T start ws) (o2 o3 o6 o7 o8 : Option D) :
    (∃ s2 b8, bl_d_law_walk_3 [some (.loc p), some (.loc ls), o2, o3, some (.str (endOf start ws)), some (.loc lo), o6, o7, o8] s = .bk [some (.loc p), some (.loc ls), o2, o3, some (.str (endOf start ws)), some (.loc lo), o6, o7, b8] s2 ∧ Pool c p s2 ∧ Kp2 c p s0 s2 ∧ s2[lo]? = some (.lst (ws.map stD))) ∨
    ∃ s2 x b7 b8, bl_d_law_walk_3 [some (.loc p), some (.loc ls), o2, o3, some (.str (endOf start ws)), some (.loc lo), o6, o7, o8] s = .nx [some (.loc p), some (.loc ls), o2, o3, some (.str (endOf start (ws ++ [x]))), some (.loc lo), o6, b7, b8] s2 ∧ Pool c p s2 ∧ Kp2 c p s0 s2 ∧ s2[lo]? = some (.lst ((ws ++ [x]).map stD)) ∧ Chain T start (ws ++ [x]) := by
  have e1 := here_spec gs (by omega) (endOf start ws) (some (.loc p)) (some (.loc ls)) o2 o3 (some (.loc lo)) o6 none o8
  obtain ⟨H, hH⟩ : ∃ H, H = M.filter fun x => decide (x.a = endOf start ws) := ⟨_, rfl⟩
  rw [← hH] at e1
  have hHm : ∀ x ∈ H, x ∈ M ∧ x.a = endOf start ws := fun x hx => by
    rw [hH] at hx
    exact ⟨(List.mem_filter.mp hx).1, of_decide_eq_true (List.mem_filter.mp hx).2⟩
  have hHl : H.length ≤ M.length := by rw [hH]; exact List.length_filter_le _ _
  have x1 := Ext.mk s [Cell.lst (H.map stD), Cell.lst []]
  have g1 : (s ++ [Cell.lst (H.map stD), Cell.lst []])[s.length]? = some (.lst (H.map stD)) := by simp
  have g2 : (s ++ [Cell.lst (H.map stD), Cell.lst []])[s.length + 1]? = some (.lst []) := by simp
  have q := eqB_nilL g1 (fun x hx => hT x (hM x (hHm x hx).1)) g2
  have p1 := Ext.pool x1 hp
  have kp1 := k0.trans (Ext.kp x1 c p)
  cases hE : H with
  | nil =>
    refine .inl ⟨s ++ [Cell.lst (H.map stD), Cell.lst []], some (.loc s.length), ?_, p1, kp1, x1.get go⟩
    rw [hE] at e1 q
    generalize M.map stD = md at *
    simp at e1 q
    simp [bl_d_law_walk_3, gs, e1, q, hE]
  | cons y ys =>
    have hne : H.isEmpty = false := by rw [hE]; rfl
    have hpos : 0 < H.length := by rw [hE]; simp
    rw [hne] at q
    have wl := dLen_loc g1
    rw [List.length_map] at wl
    obtain ⟨k, s3, e3, k0', k1, p3, kp3⟩ := draw_spec p1 (many := H.length) (by omega) (by omega)
    have nl : s.length ≠ p ∧ s.length ≠ c := ⟨Nat.ne_of_gt hp.lt.1, Nat.ne_of_gt hp.lt.2⟩
    have g3 := kp3.get g1 nl.1 nl.2
    obtain ⟨x, hx, hx2⟩ : ∃ x, x ∈ H ∧ dIxA (.loc s.length) (.int k) s3 = some (stD x, s3) := by
      obtain ⟨n, rfl⟩ := Int.eq_ofNat_of_zero_le k0'
      have hn : n < H.length := by omega
      refine ⟨H[n], List.getElem_mem _, ?_⟩
      rw [dIxA_loc g3, L2.atI_nat (v := stD H[n]) (by simp [hn])]
      rfl
    obtain ⟨hxM, hxa⟩ := hHm x hx
    have go3 := kp3.get (x1.get go) n2.1 n2.2
    have wa := dAppend_loc go3 (by simp; omega) (stD x)
    have wt := tyOk_list go3
    have z := kp1.trans kp3
    have em : ws.map stD ++ [stD x] = (ws ++ [x]).map stD := by simp
    rw [em] at wa
    have i1 : ∀ s, dIxA (stD x) (.int 1) s = some (.str x.b, s) := fun s => st1 x s
    refine .inr ⟨_, x, some (stD x), some (.loc s.length), ?_, p3.set n2.1 n2.2 (.lst ((ws ++ [x]).map stD)), ⟨by rw [List.length_set]; exact z.1, fun l hl a b => by rw [List.getElem?_set_ne (by omega)]; exact z.2 l hl a b⟩, get_set go3, chain_snoc hc hxa (hM x hxM)⟩
    rw [endOf_snoc]
    clear hE em x1 g1 g2 g3 go3
    generalize (ws ++ [x]).map stD = wd2 at *
    generalize H.map stD = hd at *
    generalize M.map stD = md at *
    generalize stD x = sx at *
    simp [bl_d_law_walk_3, gs, e1, q, wl, e3, hx2, wt, wa, i1]
theorem walk_spec {c p ls : Nat} {T : Tb} {M : List St} {s : Store} (hp : Pool c p s) (hM : ∀ x ∈ M, (wv T x).isSome = true) (hT : TOk T) (hz : M.length ≤ 100000) (gs : s[ls]? = some (.lst (M.map stD))) (n1 : ls ≠ p ∧ ls ≠ c) (start : Str) {most : Nat} (hm : most ≤ 200) :
    ∃ (s' : Store) (ws : List St), m_d_law_walk [.loc p, .loc ls, .str start, .int most] s = .ok (.tup (ws.map stD)) s' ∧ Chain T start ws ∧ ws.length ≤ most ∧ Pool c p s' ∧ Kp2 c p s s' := by
  have x0 := Ext.mk s [Cell.lst (([] : List St).map stD)]
  have nlo : s.length ≠ p ∧ s.length ≠ c := ⟨Nat.ne_of_gt hp.lt.1, Nat.ne_of_gt hp.lt.2⟩
  have fin := forL_at (gd := always) (g := gN 6) (b := bl_d_law_walk_3) (rng most) (fun k env s' => Pool c p s' ∧ Kp2 c p s s' ∧ ∃ (ws : List St) (o6 o7 o8 : Option D), env = [some (.loc p), some (.loc ls), some (.str start), some (.int most), some (.str (endOf start ws)), some (.loc s.length), o6, o7, o8] ∧ Chain T start ws ∧ ws.length ≤ k ∧ k ≤ most ∧ s'[s.length]? = some (.lst (ws.map stD)))
    (fun r => ∃ env' s', r = .nx env' s' ∧ Pool c p s' ∧ Kp2 c p s s' ∧ ∃ (ws : List St) (o6 o7 o8 : Option D), env' = [some (.loc p), some (.loc ls), some (.str start), some (.int most), some (.str (endOf start ws)), some (.loc s.length), o6, o7, o8] ∧ Chain T start ws ∧ ws.length ≤ most ∧ s'[s.length]? = some (.lst (ws.map stD))) (fun _ _ _ _ => trivial)
    (fun k d env s' hk ⟨hp', kp', ws, o6, o7, o8, he, hc, hl, hkm, hg⟩ => by
      subst he
      obtain ⟨hk', rfl⟩ := rng_get hk
      rw [turn_gN]
      rcases walk3_turn hp' kp' hM hT hz (kp'.get gs n1.1 n1.2) n1 nlo (Nat.le_refl _) (lt_of_get gs) hg (by omega) start hc (some (.str start)) (some (.int most)) (some (.int (k : Nat))) o7 o8 with ⟨s2, b8, e, p2, k2, g2⟩ | ⟨s2, x, b7, b8, e, p2, k2, g2, c2⟩
      · show Turns _ _ (bl_d_law_walk_3 [some (.loc p), some (.loc ls), some (.str start), some (.int most), some (.str (endOf start ws)), some (.loc s.length), some (.int (k : Nat)), o7, o8] s')
        rw [e]
        exact ⟨_, _, rfl, p2, k2, ws, _, _, _, rfl, hc, by omega, g2⟩
      · show Turns _ _ (bl_d_law_walk_3 [some (.loc p), some (.loc ls), some (.str start), some (.int most), some (.str (endOf start ws)), some (.loc s.length), some (.int (k : Nat)), o7, o8] s')
        rw [e]
        exact ⟨p2, k2, ws ++ [x], _, _, _, rfl, c2, by simp; omega, by omega, g2⟩)
    (fun env s' ⟨hp', kp', ws, o6, o7, o8, he, hc, hl, hkm, hg⟩ => ⟨env, s', rfl, hp', kp', ws, o6, o7, o8, he, hc, by omega, hg⟩)
    (env := [some (.loc p), some (.loc ls), some (.str start), some (.int most), some (.str start), some (.loc s.length), none, none, none]) (s := s ++ [.lst []]) ⟨Ext.pool x0 hp, Ext.kp x0 c p, [], none, none, none, rfl, trivial, Nat.le_refl _, Nat.zero_le _, get_new _ _⟩
  obtain ⟨env', s', e, hp', kp', ws, o6, o7, o8, rfl, hc, hl, hg⟩ := fin
  refine ⟨s', ws, ?_, hc, hl, hp', kp'⟩
  have wr := rangeOf_int (s ++ [.lst []]) (most : Int) (by omega) (by omega)
  rw [Int.toNat_natCast] at wr
  have y := dTuple_loc hg
  generalize ws.map stD = wd at *
  simp [m_d_law_walk, b_d_law_walk, wr, e, y, -rangeOf_int]
end Law
namespace Law
open PySem Mi
theorem cutT1 (xs : List D) {k : Nat} (h : k ≤ xs.length) : Mi.cutD xs none (some (k : Int)) = xs.take k := by
  unfold Mi.cutD
  rw [HT.sIx_none, HT.sIx_nat]
  simp [Nat.min_eq_left h]
theorem cutT2 (xs : List D) {k : Nat} (h : k ≤ xs.length) : Mi.cutD xs (some (k : Int)) none = xs.drop k := by
  unfold Mi.cutD
  rw [HT.sIx_none, HT.sIx_nat, Nat.min_eq_left h]
  rw [List.take_of_length_le (by simp)]
theorem sl1 (xs : List D) {k : Nat} (h : k ≤ xs.length) (s : Store) : dSl (.tup xs) none (some (k : Int)) s = some (.tup (xs.take k), s) := by
  show some (D.tup (Mi.cutD xs none (some (k : Int))), s) = _
  rw [cutT1 xs h]
theorem sl2 (xs : List D) {k : Nat} (h : k ≤ xs.length) (s : Store) : dSl (.tup xs) (some (k : Int)) none s = some (.tup (xs.drop k), s) := by
  show some (D.tup (Mi.cutD xs (some (k : Int)) none), s) = _
  rw [cutT2 xs h]
theorem sl3 (xs : List D) {k : Nat} (h : k + 1 ≤ xs.length) (s : Store) : dSl (.tup xs) (some ((k : Int) + 1)) none s = some (.tup (xs.drop (k + 1)), s) := by
  have := sl2 xs h s
  rw [show ((k + 1 : Nat) : Int) = (k : Int) + 1 by omega] at this
  exact this
def putL (xs : List D) (k : Nat) (d : D) : List D := xs.take k ++ [d] ++ xs.drop (k + 1)
theorem putL_len {xs : List D} {k : Nat} (h : k < xs.length) (d : D) : (putL xs k d).length = xs.length := by simp [putL]; omega
theorem put_spec {xs : List D} {k : Nat} (h : k < xs.length) (hz : xs.length ≤ 1000) (d : D) (s : Store) : m_d_law_put [.tup xs, .int k, d] s = .ok (.tup (putL xs k d)) s := by
  have w1 := sl1 xs (Nat.le_of_lt h) s
  have w2 := sl3 xs h s
  have w3 : dAdd (.tup (xs.take k)) (.tup [d]) s = some (.tup (xs.take k ++ [d]), s) := dAdd_tup (by simp; omega)
  have w4 : dAdd (.tup (xs.take k ++ [d])) (.tup (xs.drop (k + 1))) s = some (.tup (xs.take k ++ [d] ++ xs.drop (k + 1)), s) := dAdd_tup (by simp; omega)
  unfold putL
  generalize xs.take k ++ [d] = l1 at *
  simp [m_d_law_put, b_d_law_put, w1, w2, w3, w4]
theorem putL_mem {xs : List D} {k : Nat} {d x : D} (h : x ∈ putL xs k d) : x ∈ xs ∨ x = d := by
  unfold putL at h
  rcases List.mem_append.mp h with h | h
  · rcases List.mem_append.mp h with h | h
    · exact .inl (List.mem_of_mem_take h)
    · exact .inr (List.mem_singleton.mp h)
  · exact .inl (List.mem_of_mem_drop h)
theorem ixA_mem {xs : List D} {s : Store} {l : Nat} (h : s[l]? = some (.lst xs)) {i : Int} (h0 : 0 ≤ i) (h1 : i < xs.length) : ∃ a, a ∈ xs ∧ dIxA (.loc l) (.int i) s = some (a, s) := by
  obtain ⟨a, ha, e⟩ := ixL_mem h h0 h1
  rw [dIx_loc h] at e
  exact ⟨a, ha, by rw [dIxA_loc h]; exact e⟩
/-! ### things that may stand there -/
theorem w3_flat {s : Store} {d : D} (h : Wf s d) (q : ∀ x y z, d ≠ .tup [x, y, z]) : Wf3 s d := ⟨h, fun x y z e => (q x y z e).elim⟩
theorem w3_tri {s : Store} {x y z : D} (a : Wf s x) (b : Wf s y) (c : Wf s z) : Wf3 s (.tup [x, y, z]) := ⟨rfl, fun x' y' z' e => by cases e; exact ⟨a, b, c⟩⟩
theorem ws_flat {s : Store} {d : D} (h : Wf s d) (q : ∀ xs, d ≠ .tup xs) : Wfs s d := ⟨h, fun xs e => (q xs e).elim⟩
theorem ws_tup {s : Store} {xs : List D} (h : ∀ x ∈ xs, Wf3 s x) : Wfs s (.tup xs) := ⟨rfl, fun ys e => by cases e; exact h⟩
theorem ws_put {s : Store} {ws : List D} (h : ∀ x ∈ ws, Wf3 s x) {d : D} (hd : Wf3 s d) (k : Nat) : Wfs s (.tup (putL ws k d)) := ws_tup fun x hx => by
  rcases putL_mem hx with q | rfl
  · exact h x q
  · exact hd
theorem st_all (s : Store) (ws : List St) : ∀ d ∈ ws.map stD, Wf3 s d := fun d hd => by
  obtain ⟨x, _, rfl⟩ := List.mem_map.mp hd
  exact st_wf3 s x
noncomputable def bentR : MS := (sSeq (sIf (tV (e2 dEq (eV 4) (eC (.int 1)))) (sRet (eFn dListA (aCons (eV 1) (aNil)))) (sNil))
  (sSeq (sIf (tV (e2 dEq (eV 4) (eC (.int 2)))) (sRet (eCall m_d_law_put (aCons (eV 1) (aCons (eV 5) (aCons (eFn dListA (aCons (eV 6) (aNil))) (aNil)))))) (sNil))
  (sSeq (sIf (tV (e2 dEq (eV 4) (eC (.int 3)))) (sRet (eCall m_d_law_put (aCons (eV 1) (aCons (eV 5) (aCons (e2 dIxA (eTup (aCons (e2 dAdd (eV 6) (eTup (aCons (eC (.int 0)) (aNil)))) (aCons (eSl dSl (eV 6) (oNone) (oSome (eC (.int 2)))) (aCons (eTup (aCons (eV 6) (aNil))) (aCons (e2 dAdd (eV 6) (eV 6)) (aNil)))))) (eCall m_d_law_draw (aCons (eV 0) (aCons (eC (.int 4)) (aNil))))) (aNil)))))) (sNil))
  (sSeq (sIf (tV (e2 dEq (eV 4) (eC (.int 4)))) (sSeq (sSet 7 (e2 dIxA (eLst (aCons (eC (.bl true)) (aCons (eC (.bl false)) (aCons (eFn dStr (aCons (e2 dIxA (eV 6) (eC (.int 2))) (aNil))) (aCons (eC .non) (aCons (eTup (aCons (e2 dIxA (eV 6) (eC (.int 2))) (aNil))) (aCons (e2 dAdd (e2 dPow (eC (.int 10)) (eC (.int 40))) (e2 dIxA (eV 6) (eC (.int 2)))) (aNil)))))))) (eCall m_d_law_draw (aCons (eV 0) (aCons (eC (.int 6)) (aNil))))))
  (sRet (eCall m_d_law_put (aCons (eV 1) (aCons (eV 5) (aCons (eTup (aCons (e2 dIxA (eV 6) (eC (.int 0))) (aCons (e2 dIxA (eV 6) (eC (.int 1))) (aCons (eV 7) (aNil))))) (aNil))))))) (sNil))
  (sSeq (sIf (tOr (tV (e2 dEq (eV 4) (eC (.int 5)))) (tV (e2 dEq (eV 4) (eC (.int 6))))) (sSeq (sSet 7 (e2 dIxA (eLst (aCons (e2 dAdd (e2 dIxA (eV 6) (eC (.int 2))) (eC (.int 1))) (aCons (e2 dSub (e2 dIxA (eV 6) (eC (.int 2))) (eC (.int 1))) (aCons (e1 dNeg (eC (.int 1))) (aCons (e1 dNeg (eC (.int 2))) (aCons (eV 2) (aCons (eCall m_d_law_draw (aCons (eV 0) (aCons (e2 dAdd (eV 2) (eC (.int 1))) (aNil)))) (aNil)))))))) (eCall m_d_law_draw (aCons (eV 0) (aCons (eC (.int 6)) (aNil))))))
  (sRet (eCall m_d_law_put (aCons (eV 1) (aCons (eV 5) (aCons (eTup (aCons (e2 dIxA (eV 6) (eC (.int 0))) (aCons (e2 dIxA (eV 6) (eC (.int 1))) (aCons (eV 7) (aNil))))) (aNil))))))) (sNil))
  (sSeq (sIf (tV (e2 dEq (eV 4) (eC (.int 7)))) (sRet (eCall m_d_law_put (aCons (eV 1) (aCons (eV 5) (aCons (eTup (aCons (e2 dIxA (eV 6) (eC (.int 1))) (aCons (e2 dIxA (eV 6) (eC (.int 0))) (aCons (e2 dIxA (eV 6) (eC (.int 2))) (aNil))))) (aNil)))))) (sNil))
  (sSeq (sIf (tV (e2 dEq (eV 4) (eC (.int 8)))) (sRet (e2 dAdd (eSl dSl (eV 1) (oNone) (oSome (eV 5))) (eSl dSl (eV 1) (oSome (e2 dAdd (eV 5) (eC (.int 1)))) (oNone)))) (sNil))
  (sSeq (sIf (tV (e2 dEq (eV 4) (eC (.int 9)))) (sSeq (sSet 7 (eCall m_d_law_draw (aCons (eV 0) (aCons (eFn dLen (aCons (eV 1) (aNil))) (aNil)))))
  (sRet (eCall m_d_law_put (aCons (eCall m_d_law_put (aCons (eV 1) (aCons (eV 5) (aCons (e2 dIxA (eV 1) (eV 7)) (aNil))))) (aCons (eV 7) (aCons (eV 6) (aNil))))))) (sNil))
  (sSeq (sIf (tV (e2 dEq (eV 4) (eC (.int 10)))) (sRet (e2 dAdd (e2 dAdd (eSl dSl (eV 1) (oNone) (oSome (eV 5))) (eTup (aCons (eV 6) (aNil)))) (eSl dSl (eV 1) (oSome (eV 5)) (oNone)))) (sNil))
  (sSeq (sIf (tV (e2 dEq (eV 4) (eC (.int 11)))) (sSeq (sSet 7 (e2 dIxA (eLst (aCons (eC (.str "zz")) (aCons (eC .non) (aCons (eC (.int 0)) (aCons (e2 dAdd (e2 dIxA (eV 6) (eC (.int 0))) (eC (.str "0"))) (aCons (eTup (aCons (e2 dIxA (eV 6) (eC (.int 1))) (aNil))) (aNil))))))) (eCall m_d_law_draw (aCons (eV 0) (aCons (eC (.int 5)) (aNil))))))
  (sRet (eCall m_d_law_put (aCons (eV 1) (aCons (eV 5) (aCons (e2 dIxA (eTup (aCons (eTup (aCons (eV 7) (aCons (e2 dIxA (eV 6) (eC (.int 1))) (aCons (e2 dIxA (eV 6) (eC (.int 2))) (aNil))))) (aCons (eTup (aCons (e2 dIxA (eV 6) (eC (.int 0))) (aCons (eV 7) (aCons (e2 dIxA (eV 6) (eC (.int 2))) (aNil))))) (aNil)))) (eCall m_d_law_draw (aCons (eV 0) (aCons (eC (.int 2)) (aNil))))) (aNil))))))) (sNil))
  (sRet (e2 dIxA (eTup (aCons (e1 dRev (eV 1)) (aCons (e2 dAdd (eV 1) (eV 1)) (aCons (eSl dSl (eV 1) (oNone) (oSome (eV 5))) (aCons (eSl dSl (eV 1) (oSome (eV 5)) (oNone)) (aCons (eTup (aCons (eV 1) (aNil))) (aNil))))))) (eCall m_d_law_draw (aCons (eV 0) (aCons (eC (.int 5)) (aNil))))))))))))))))
theorem bent_eq : b_d_law_bent = sSeq (sSet 3 (eLst (aCons (eC .non) (aCons (eC (.int 0)) (aCons (eC (.bl true)) (aCons (eC (.str "")) (aCons (eTup (aNil)) (aCons (eLst (aNil)) (aCons (eTup (aCons (eTup (aNil)) (aNil))) (aCons (eTup (aCons (eC (.str "")) (aNil))) (aCons (eTup (aCons (eTup (aCons (eC (.str "")) (aNil))) (aNil))) (aCons (eTup (aCons (eTup (aCons (eC (.str "")) (aCons (eC (.str "")) (aNil)))) (aNil))) (aCons (eTup (aCons (eTup (aCons (eC (.int 1)) (aCons (eC (.int 2)) (aCons (eC (.int 3)) (aNil))))) (aNil))) (aCons (eC (.str "walk")) (aCons (eTup (aCons (eC .non) (aNil))) (aNil))))))))))))))))
  (sSeq (sSet 4 (eCall m_d_law_draw (aCons (eV 0) (aCons (eC (.int 13)) (aNil)))))
  (sSeq (sIf (tOr (tV (e2 dEq (eV 4) (eC (.int 0)))) (tV (e2 dEq (eV 1) (eTup (aNil))))) (sRet (e2 dIxA (eV 3) (eCall m_d_law_draw (aCons (eV 0) (aCons (eFn dLen (aCons (eV 3) (aNil))) (aNil)))))) (sNil))
  (sSeq (sSet 5 (eCall m_d_law_draw (aCons (eV 0) (aCons (eFn dLen (aCons (eV 1) (aNil))) (aNil)))))
  (sSeq (sIf (tV (e2 dEq (eCall m_d_law_draw (aCons (eV 0) (aCons (eC (.int 2)) (aNil)))) (eC (.int 0)))) (sSet 5 (e2 dSub (e2 dSub (eFn dLen (aCons (eV 1) (aNil))) (eC (.int 1))) (eCall m_d_law_draw (aCons (eV 0) (aCons (e2 dAdd (eC (.int 1)) (e2 dDiv (eFn dLen (aCons (eV 1) (aNil))) (eC (.int 4)))) (aNil)))))) (sNil))
  (sSeq (sSet 6 (e2 dIxA (eV 1) (eV 5)))
  bentR))))) := rfl
/-- what the rest of _law_bent needs -/
structure BX (c p : Nat) (ws : List St) (x : St) (an : Nat) (s : Store) : Prop where
  hp : Pool c p s
  hn : ws.length ≤ 200
  hx : ws[an]? = some x
  ok : sOk x
def bEnv (p : Nat) (wd : List D) (many : Int) (l3 : Nat) (k : Int) (an : Nat) (sx : D) : Sl := [some (.loc p), some (.tup wd), some (.int many), some (.loc l3), some (.int k), some (.int (an : Nat)), some sx, none]
def Bent (c p : Nat) (s : Store) (r : RS) : Prop := ∃ d s', r = .rt d s' ∧ Wfs s' d ∧ Pool c p s' ∧ Kp2 c p s s'
section
variable {c p an l3 : Nat} {ws : List St} {x : St} {s : Store} {many k : Int}
theorem BX.lt (h : BX c p ws x an s) : an < ws.length := (List.getElem?_eq_some_iff.mp h.hx).1
theorem bent1 (h : BX c p ws x an s) : Bent c p s (bentR (bEnv p (ws.map stD) many l3 1 an (stD x)) s) := by
  have w : dListA [.tup (ws.map stD)] s = some (.loc s.length, s ++ [.lst (ws.map stD)]) := rfl
  refine ⟨.loc s.length, s ++ [.lst (ws.map stD)], ?_, ws_flat (wf_loc (by simp)) (fun _ e => by cases e), Ext.pool (Ext.mk _ _) h.hp, Ext.kp (Ext.mk _ _) c p⟩
  generalize ws.map stD = wd at *
  generalize stD x = sx at *
  simp [bentR, bEnv, w]
theorem bent2 (h : BX c p ws x an s) : Bent c p s (bentR (bEnv p (ws.map stD) many l3 2 an (stD x)) s) := by
  have w : dListA [stD x] s = some (.loc s.length, s ++ [.lst [.str x.a, .str x.b, .int x.i]]) := rfl
  have wp := fun d s => put_spec (xs := ws.map stD) (k := an) (by simpa using h.lt) (by simpa using Nat.le_trans h.hn (by omega)) d s
  refine ⟨_, s ++ [.lst [.str x.a, .str x.b, .int x.i]], ?_, ws_put (st_all _ ws) (w3_flat (wf_loc (l := s.length) (by simp)) (fun _ _ _ e => by cases e)) an, Ext.pool (Ext.mk _ _) h.hp, Ext.kp (Ext.mk _ _) c p⟩
  generalize ws.map stD = wd at *
  generalize stD x = sx at *
  simp [bentR, bEnv, w, wp]
theorem bent3 (h : BX c p ws x an s) : Bent c p s (bentR (bEnv p (ws.map stD) many l3 3 an (stD x)) s) := by
  have wp := fun d s => put_spec (xs := ws.map stD) (k := an) (by simpa using h.lt) (by simpa using Nat.le_trans h.hn (by omega)) d s
  obtain ⟨j, s1, e1, j0, j1, p1, k1⟩ := draw_spec h.hp (many := 4) (by omega) (by omega)
  have a1 : dAdd (stD x) (.tup [.int 0]) s = some (.tup [.str x.a, .str x.b, .int x.i, .int 0], s) := dAdd_tup (by simp)
  have a2 : dSl (stD x) none (some 2) s = some (.tup [.str x.a, .str x.b], s) := sl1 [.str x.a, .str x.b, .int x.i] (k := 2) (by simp) s
  have a3 : dAdd (stD x) (stD x) s = some (.tup [.str x.a, .str x.b, .int x.i, .str x.a, .str x.b, .int x.i], s) := dAdd_tup (by simp)
  obtain ⟨L, hL⟩ : ∃ L, L = [D.tup [.str x.a, .str x.b, .int x.i, .int 0], .tup [.str x.a, .str x.b], .tup [stD x], .tup [.str x.a, .str x.b, .int x.i, .str x.a, .str x.b, .int x.i]] := ⟨_, rfl⟩
  obtain ⟨d, hd, wd⟩ := ix_mem (xs := L) (i := j) j0 (by rw [hL]; show j < 4; omega)
  have hd3 : Wf3 s1 d := by
    rw [hL] at hd
    simp only [List.mem_cons, List.mem_nil_iff, or_false] at hd
    rcases hd with rfl | rfl | rfl | rfl <;> exact w3_flat rfl (fun _ _ _ e => by cases e)
  refine ⟨_, s1, ?_, ws_put (st_all _ ws) hd3 an, p1, k1⟩
  subst hL
  generalize ws.map stD = wd at *
  generalize stD x = sx at *
  simp [bentR, bEnv, a1, a2, a3, e1, wd, wp]
end
end Law
namespace Law
open PySem Mi
section
variable {c p an l3 : Nat} {ws : List St} {x : St} {s : Store} {many k : Int}
theorem BX.put (h : BX c p ws x an s) (d : D) (s : Store) : m_d_law_put [.tup (ws.map stD), .int an, d] s = .ok (.tup (putL (ws.map stD) an d)) s :=
  put_spec (xs := ws.map stD) (k := an) (by simpa using h.lt) (by simpa using Nat.le_trans h.hn (by omega)) d s
/-- a list laid new, an item of it drawn -/
theorem drawn (hp : Pool c p s) {L : List D} {n : Nat} (hn : L.length = n) (h0 : 0 < n) (h1 : n ≤ 100) : ∃ (j : Int) (s1 : Store) (d : D), m_d_law_draw [.loc p, .int n] (s ++ [.lst L]) = .ok (.int j) s1 ∧ d ∈ L ∧ dIxA (.loc s.length) (.int j) s1 = some (d, s1) ∧ Pool c p s1 ∧ Kp2 c p s s1 := by
  have x1 := Ext.mk s [.lst L]
  obtain ⟨j, s1, e1, j0, j1, p1, k1⟩ := draw_spec (Ext.pool x1 hp) (many := n) (by omega) (by omega)
  have g := k1.get (get_new s (.lst L)) (Nat.ne_of_gt hp.lt.1) (Nat.ne_of_gt hp.lt.2)
  obtain ⟨d, hd, wd⟩ := ixA_mem g (i := j) j0 (by omega)
  exact ⟨j, s1, d, e1, hd, wd, p1, (Ext.kp x1 c p).trans k1⟩
theorem bent4 (h : BX c p ws x an s) : Bent c p s (bentR (bEnv p (ws.map stD) many l3 4 an (stD x)) s) := by
  have wp := h.put
  have i0 := st0 x
  have i1 := st1 x
  have i2 := st2 x
  have wst : ∀ s, dStr [.int x.i] s = some (.str (toString x.i), s) := fun s => by
    have h1 := h.ok.2.2.1
    have h2 := h.ok.2.2.2.1
    have : x.i.natAbs.log2 < 1920 := Nat.lt_of_le_of_lt (Nat.log2_le_self _) (by omega)
    simp only [dStr]
    rw [if_pos this]
  obtain ⟨L, hL⟩ : ∃ L, L = [D.bl true, .bl false, .str (toString x.i), .non, .tup [.int x.i], .int (10000000000000000000000000000000000000000 + x.i)] := ⟨_, rfl⟩
  obtain ⟨j, s1, d, e1, hd, wd, p1, k1⟩ := drawn h.hp (L := L) (n := 6) (by rw [hL]; rfl) (by omega) (by omega)
  have hd3 : Wf s1 d := by
    rw [hL] at hd
    simp only [List.mem_cons, List.mem_nil_iff, or_false] at hd
    rcases hd with rfl | rfl | rfl | rfl | rfl | rfl <;> exact rfl
  refine ⟨_, s1, ?_, ws_put (st_all _ ws) (w3_tri (x := .str x.a) (y := .str x.b) (z := d) rfl rfl hd3) an, p1, k1⟩
  subst hL
  generalize ws.map stD = wm at *
  generalize stD x = sx at *
  generalize (toString x.i : Str) = ts at *
  simp at e1
  simp [bentR, bEnv, i0, i1, i2, wst, e1, wd, wp]
theorem bent56 (h : BX c p ws x an s) (m0 : 0 ≤ many) (m1 : many ≤ 1000) (hk : k = 5 ∨ k = 6) : Bent c p s (bentR (bEnv p (ws.map stD) many l3 k an (stD x)) s) := by
  have wp := h.put
  have i0 := st0 x
  have i1 := st1 x
  have i2 := st2 x
  obtain ⟨v, s1, e1, v0, v1, p1, k1⟩ := draw_spec h.hp (many := many + 1) (by omega) (by omega)
  obtain ⟨L, hL⟩ : ∃ L, L = [D.int (x.i + 1), .int (x.i - 1), .int (-1), .int (-2), .int many, .int v] := ⟨_, rfl⟩
  obtain ⟨j, s2, d, e2, hd, wd, p2, k2⟩ := drawn p1 (L := L) (n := 6) (by rw [hL]; rfl) (by omega) (by omega)
  have hd3 : Wf s2 d := by
    rw [hL] at hd
    simp only [List.mem_cons, List.mem_nil_iff, or_false] at hd
    rcases hd with rfl | rfl | rfl | rfl | rfl | rfl <;> exact rfl
  refine ⟨_, s2, ?_, ws_put (st_all _ ws) (w3_tri (x := .str x.a) (y := .str x.b) (z := d) rfl rfl hd3) an, p2, k1.trans k2⟩
  subst hL
  generalize ws.map stD = wm at *
  generalize stD x = sx at *
  simp at e2
  rcases hk with rfl | rfl <;> simp [bentR, bEnv, i0, i1, i2, e1, e2, wd, wp]
theorem bent7 (h : BX c p ws x an s) : Bent c p s (bentR (bEnv p (ws.map stD) many l3 7 an (stD x)) s) := by
  have wp := h.put
  have i0 := st0 x
  have i1 := st1 x
  have i2 := st2 x
  refine ⟨_, s, ?_, ws_put (st_all _ ws) (w3_tri (x := .str x.b) (y := .str x.a) (z := .int x.i) rfl rfl rfl) an, h.hp, Kp2.refl c p s⟩
  generalize ws.map stD = wm at *
  generalize stD x = sx at *
  simp [bentR, bEnv, i0, i1, i2, wp]
theorem bent8 (h : BX c p ws x an s) : Bent c p s (bentR (bEnv p (ws.map stD) many l3 8 an (stD x)) s) := by
  have hl := h.lt
  have hn := h.hn
  have z1 := fun s => sl1 (ws.map stD) (k := an) (by simp; omega) s
  have z2 := fun s => sl3 (ws.map stD) (k := an) (by simp; omega) s
  have z3 : ∀ s, dAdd (.tup ((ws.map stD).take an)) (.tup ((ws.map stD).drop (an + 1))) s = some (.tup ((ws.map stD).take an ++ (ws.map stD).drop (an + 1)), s) := fun s => dAdd_tup (by simp; omega)
  have hw := st_all s ws
  refine ⟨.tup ((ws.map stD).take an ++ (ws.map stD).drop (an + 1)), s, ?_, ws_tup fun d hd => ?_, h.hp, Kp2.refl c p s⟩
  · generalize (ws.map stD).take an ++ (ws.map stD).drop (an + 1) = w3 at *
    generalize (ws.map stD).take an = w1 at *
    generalize (ws.map stD).drop (an + 1) = w2 at *
    generalize ws.map stD = wm at *
    generalize stD x = sx at *
    simp [bentR, bEnv, z1, z2, z3]
  · rcases List.mem_append.mp hd with hd | hd
    · exact hw d (List.mem_of_mem_take hd)
    · exact hw d (List.mem_of_mem_drop hd)
theorem bent9 (h : BX c p ws x an s) : Bent c p s (bentR (bEnv p (ws.map stD) many l3 9 an (stD x)) s) := by
  have hl := h.lt
  have hn := h.hn
  have wp := h.put
  have wl : ∀ s, dLen [.tup (ws.map stD)] s = some (.int ws.length, s) := fun s => by simp
  obtain ⟨v, s1, e1, v0, v1, p1, k1⟩ := draw_spec h.hp (many := ws.length) (by omega) (by omega)
  obtain ⟨vn, rfl⟩ := Int.eq_ofNat_of_zero_le v0
  have hv : vn < ws.length := by omega
  have w9 : ∀ s, dIxA (.tup (ws.map stD)) (.int (vn : Nat)) s = some (stD ws[vn], s) := fun s => by
    rw [dIxA_tup, dIx_tup, atI_ofNat _ _ (stD ws[vn]) (by simp [hv])]
    rfl
  have wp2 := fun s => put_spec (xs := putL (ws.map stD) an (stD ws[vn])) (k := vn) (by rw [putL_len (by simpa using hl)]; simpa using hv) (by rw [putL_len (by simpa using hl)]; simp; omega) (stD x) s
  have hw := st_all s1 ws
  refine ⟨.tup (putL (putL (ws.map stD) an (stD ws[vn])) vn (stD x)), s1, ?_, ws_tup fun d hd => ?_, p1, k1⟩
  · generalize putL (putL (ws.map stD) an (stD ws[vn])) vn (stD x) = w3 at *
    have wp' := wp (stD ws[vn])
    clear wp hw
    generalize putL (ws.map stD) an (stD ws[vn]) = w2 at *
    generalize ws.map stD = wm at *
    generalize stD x = sx at *
    generalize stD ws[vn] = sy at *
    simp [bentR, bEnv, wl, e1, w9, wp', wp2]
  · rcases putL_mem hd with hd | rfl
    · rcases putL_mem hd with hd | rfl
      · exact hw d hd
      · exact st_wf3 s1 _
    · exact st_wf3 s1 _
theorem bent10 (h : BX c p ws x an s) : Bent c p s (bentR (bEnv p (ws.map stD) many l3 10 an (stD x)) s) := by
  have hl := h.lt
  have hn := h.hn
  have z1 := fun s => sl1 (ws.map stD) (k := an) (by simp; omega) s
  have z2 := fun s => sl2 (ws.map stD) (k := an) (by simp; omega) s
  have z3 : ∀ s, dAdd (.tup ((ws.map stD).take an)) (.tup [stD x]) s = some (.tup ((ws.map stD).take an ++ [stD x]), s) := fun s => dAdd_tup (by simp; omega)
  have z4 : ∀ s, dAdd (.tup ((ws.map stD).take an ++ [stD x])) (.tup ((ws.map stD).drop an)) s = some (.tup ((ws.map stD).take an ++ [stD x] ++ (ws.map stD).drop an), s) := fun s => dAdd_tup (by simp; omega)
  have hw := st_all s ws
  refine ⟨.tup ((ws.map stD).take an ++ [stD x] ++ (ws.map stD).drop an), s, ?_, ws_tup fun d hd => ?_, h.hp, Kp2.refl c p s⟩
  · generalize (ws.map stD).take an ++ [stD x] ++ (ws.map stD).drop an = w4 at *
    generalize (ws.map stD).take an ++ [stD x] = w3 at *
    generalize (ws.map stD).take an = w1 at *
    generalize (ws.map stD).drop an = w2 at *
    generalize ws.map stD = wm at *
    generalize stD x = sx at *
    simp [bentR, bEnv, z1, z2, z3, z4]
  · rcases List.mem_append.mp hd with hd | hd
    · rcases List.mem_append.mp hd with hd | hd
      · exact hw d (List.mem_of_mem_take hd)
      · rw [List.mem_singleton.mp hd]; exact st_wf3 s x
    · exact hw d (List.mem_of_mem_drop hd)
theorem bent11 (h : BX c p ws x an s) : Bent c p s (bentR (bEnv p (ws.map stD) many l3 11 an (stD x)) s) := by
  have wp := h.put
  have i0 := st0 x
  have i1 := st1 x
  have i2 := st2 x
  have hl := h.ok.2.2.2.2
  have a0 : ∀ s, dAdd (.str x.a) (.str "0") s = some (.str (x.a ++ "0"), s) := fun s => dAdd_s (by show x.a.length + 1 ≤ 1000000; omega) s
  obtain ⟨L, hL⟩ : ∃ L, L = [D.str "zz", .non, .int 0, .str (x.a ++ "0"), .tup [.str x.b]] := ⟨_, rfl⟩
  obtain ⟨j, s1, d, e1, hd, wd, p1, k1⟩ := drawn h.hp (L := L) (n := 5) (by rw [hL]; rfl) (by omega) (by omega)
  obtain ⟨j2, s2, e2, j20, j21, p2, k2⟩ := draw_spec p1 (many := 2) (by omega) (by omega)
  have hd3 : Wf s2 d := by
    rw [hL] at hd
    simp only [List.mem_cons, List.mem_nil_iff, or_false] at hd
    rcases hd with rfl | rfl | rfl | rfl | rfl <;> exact rfl
  obtain ⟨d2, hd2, wd2⟩ := ix_mem (xs := [D.tup [d, .str x.b, .int x.i], .tup [.str x.a, d, .int x.i]]) (i := j2) j20 (by show j2 < 2; omega)
  have hd4 : Wf3 s2 d2 := by
    simp only [List.mem_cons, List.mem_nil_iff, or_false] at hd2
    rcases hd2 with rfl | rfl
    · exact w3_tri hd3 rfl rfl
    · exact w3_tri rfl hd3 rfl
  refine ⟨_, s2, ?_, ws_put (st_all _ ws) hd4 an, p2, k1.trans k2⟩
  subst hL
  generalize ws.map stD = wm at *
  generalize stD x = sx at *
  generalize (x.a ++ "0" : Str) = ts at *
  simp at e1
  simp [bentR, bEnv, i0, i1, i2, a0, e1, wd, e2, wd2, wp]
theorem bent12 (h : BX c p ws x an s) : Bent c p s (bentR (bEnv p (ws.map stD) many l3 12 an (stD x)) s) := by
  have hl := h.lt
  have hn := h.hn
  have z1 := fun s => sl1 (ws.map stD) (k := an) (by simp; omega) s
  have z2 := fun s => sl2 (ws.map stD) (k := an) (by simp; omega) s
  have z3 : ∀ s, dAdd (.tup (ws.map stD)) (.tup (ws.map stD)) s = some (.tup (ws.map stD ++ ws.map stD), s) := fun s => dAdd_tup (by simp; omega)
  have z4 : ∀ s, dRev (.tup (ws.map stD)) s = some (.tup (ws.map stD).reverse, s) := fun s => rfl
  obtain ⟨j, s1, e1, j0, j1, p1, k1⟩ := draw_spec h.hp (many := 5) (by omega) (by omega)
  have hw := st_all s1 ws
  obtain ⟨d, hd, wd⟩ := ix_mem (xs := [D.tup (ws.map stD).reverse, .tup (ws.map stD ++ ws.map stD), .tup ((ws.map stD).take an), .tup ((ws.map stD).drop an), .tup [.tup (ws.map stD)]]) (i := j) j0 (by show j < 5; omega)
  have hd3 : Wfs s1 d := by
    simp only [List.mem_cons, List.mem_nil_iff, or_false] at hd
    rcases hd with rfl | rfl | rfl | rfl | rfl
    · exact ws_tup fun d hd => hw d (List.mem_reverse.mp hd)
    · exact ws_tup fun d hd => by rcases List.mem_append.mp hd with hd | hd <;> exact hw d hd
    · exact ws_tup fun d hd => hw d (List.mem_of_mem_take hd)
    · exact ws_tup fun d hd => hw d (List.mem_of_mem_drop hd)
    · refine ws_tup fun d hd => ?_
      rw [List.mem_singleton.mp hd]
      refine ⟨rfl, fun x y z e => ?_⟩
      have e := D.tup.inj e
      rw [e] at hw
      exact ⟨(hw x (by simp)).1, (hw y (by simp)).1, (hw z (by simp)).1⟩
  refine ⟨d, s1, ?_, hd3, p1, k1⟩
  clear hd hd3 hw
  generalize (ws.map stD).reverse = w1 at *
  generalize ws.map stD ++ ws.map stD = w2 at *
  generalize (ws.map stD).take an = w3 at *
  generalize (ws.map stD).drop an = w4 at *
  generalize ws.map stD = wm at *
  generalize stD x = sx at *
  simp [bentR, bEnv, z1, z2, z3, z4, e1, wd]
end
end Law
namespace Law
open PySem Mi
def stL (n : Nat) : List D := [.non, .int 0, .bl true, .str "", .tup [], .loc n, .tup [.tup []], .tup [.str ""], .tup [.tup [.str ""]], .tup [.tup [.str "", .str ""]], .tup [.tup [.int 1, .int 2, .int 3]], .str "walk", .tup [.non]]
theorem stL_wf {s : Store} {n : Nat} (h : n < s.length) : ∀ x ∈ stL n, Wfs s x := by
  have a : Wf s (.loc n) := wf_loc h
  intro x hx
  simp only [stL, List.mem_cons, List.mem_nil_iff, or_false] at hx
  have one : ∀ d, Wf3 s d → Wfs s (.tup [d]) := fun d hd => ws_tup fun x hx => by rw [List.mem_singleton.mp hx]; exact hd
  rcases hx with rfl | rfl | rfl | rfl | rfl | rfl | rfl | rfl | rfl | rfl | rfl | rfl | rfl
  · exact ws_flat rfl fun _ e => by cases e
  · exact ws_flat rfl fun _ e => by cases e
  · exact ws_flat rfl fun _ e => by cases e
  · exact ws_flat rfl fun _ e => by cases e
  · exact ws_tup fun x hx => by cases hx
  · exact ws_flat a fun _ e => by cases e
  · exact one _ (w3_flat rfl fun _ _ _ e => by cases e)
  · exact one _ (w3_flat rfl fun _ _ _ e => by cases e)
  · exact one _ (w3_flat rfl fun _ _ _ e => by cases e)
  · exact one _ (w3_flat rfl fun _ _ _ e => by cases e)
  · exact one _ (w3_tri rfl rfl rfl)
  · exact ws_flat rfl fun _ e => by cases e
  · exact one _ (w3_flat rfl fun _ _ _ e => by cases e)
theorem Bent.up {c p : Nat} {s s2 : Store} {r : RS} (k : Kp2 c p s s2) (h : Bent c p s2 r) : Bent c p s r := let ⟨d, s', e, w, q, k'⟩ := h; ⟨d, s', e, w, q, k.trans k'⟩
theorem bentR_all {c p an l3 : Nat} {ws : List St} {x : St} {s : Store} {many k : Int} (h : BX c p ws x an s) (m0 : 0 ≤ many) (m1 : many ≤ 1000) (k0 : 0 ≤ k) (k1 : k < 13) (kz : k ≠ 0) : Bent c p s (bentR (bEnv p (ws.map stD) many l3 k an (stD x)) s) := by
  have : k = 1 ∨ k = 2 ∨ k = 3 ∨ k = 4 ∨ (k = 5 ∨ k = 6) ∨ k = 7 ∨ k = 8 ∨ k = 9 ∨ k = 10 ∨ k = 11 ∨ k = 12 := by omega
  rcases this with rfl | rfl | rfl | rfl | q | rfl | rfl | rfl | rfl | rfl | rfl
  · exact bent1 h
  · exact bent2 h
  · exact bent3 h
  · exact bent4 h
  · exact bent56 h m0 m1 q
  · exact bent7 h
  · exact bent8 h
  · exact bent9 h
  · exact bent10 h
  · exact bent11 h
  · exact bent12 h
theorem bent_spec {c p : Nat} {s : Store} (hp : Pool c p s) {T : Tb} (hT : TOk T) {ws : List St} (hw : ∀ x ∈ ws, (wv T x).isSome = true) (hn : ws.length ≤ 200) {many : Int} (m0 : 0 ≤ many) (m1 : many ≤ 1000) :
    ∃ d s', m_d_law_bent [.loc p, .tup (ws.map stD), .int many] s = .ok d s' ∧ Wfs s' d ∧ Pool c p s' ∧ Kp2 c p s s' := by
  suffices h : Bent c p s (b_d_law_bent [some (.loc p), some (.tup (ws.map stD)), some (.int many), none, none, none, none, none] s) by
    obtain ⟨d, s', e, q⟩ := h
    refine ⟨d, s', ?_, q⟩
    have e2 : m_d_law_bent [.loc p, .tup (ws.map stD), .int many] s = fnM 8 3 b_d_law_bent [.loc p, .tup (ws.map stD), .int many] s := rfl
    rw [e2, fnM_eq]
    have e3 : ([D.loc p, .tup (ws.map stD), .int many].map some ++ List.replicate (8 - 3) none : Sl) = [some (.loc p), some (.tup (ws.map stD)), some (.int many), none, none, none, none, none] := rfl
    rw [e3, e]
  have x1 := Ext.mk s [Cell.lst [], Cell.lst (stL s.length)]
  obtain ⟨s1, hs1⟩ : ∃ s1, s1 = s ++ [Cell.lst [], Cell.lst (stL s.length)] := ⟨_, rfl⟩
  rw [← hs1] at x1
  have g1 : s1[s.length + 1]? = some (.lst (stL s.length)) := by rw [hs1]; simp
  have l1 : s.length < s1.length := by rw [hs1]; simp
  have p1 := Ext.pool x1 hp
  have kp1 := Ext.kp x1 c p
  have lp := hp.lt
  have hs1' := hs1
  simp only [stL] at hs1'
  have eqn := eq_nilT (fun x hx => hT x (hw x hx))
  rw [bent_eq]
  refine st_set (d := .loc (s.length + 1)) (s' := s1) (by rw [hs1']; simp) ?_
  obtain ⟨k, s2, ed2, k0, k1, p2, kp2⟩ := draw_spec p1 (many := 13) (by omega) (by omega)
  refine st_set (d := .int k) (s' := s2) (by simp [ed2]) ?_
  have g2 := kp2.get g1 (by omega) (by omega)
  have kz := kp1.trans kp2
  simp only [List.set_cons_succ, List.set_cons_zero]
  by_cases c0 : k = 0 ∨ ws = []
  · have w0 : dLen [.loc (s.length + 1)] s2 = some (.int 13, s2) := dLen_loc g2
    obtain ⟨j, s3, e3, j0, j1, p3, kp3⟩ := draw_spec p2 (many := 13) (by omega) (by omega)
    have g3 := kp3.get g2 (by omega) (by omega)
    obtain ⟨d, hd, wd⟩ := ixA_mem g3 (i := j) j0 (by rw [show (stL s.length).length = 13 from rfl]; omega)
    have ll := (kz.trans kp3).1
    have tt : ∀ (r : MS), tOr (tV (e2 dEq (eV 4) (eC (.int 0)))) (tV (e2 dEq (eV 1) (eTup (aNil)))) [some (.loc p), some (.tup (ws.map stD)), some (.int many), some (.loc (s.length + 1)), some (.int k), none, none, none] s2 = .ok true s2 := fun _ => by
      clear w0 g2 g3 wd hd hs1 hs1'
      by_cases q : k = 0
      · simp [q]
      · have hw2 : ws = [] := by rcases c0 with h | h; exact absurd h q; exact h
        have w2 := eqn s2
        rw [hw2] at w2
        simp at w2
        simp [q, hw2, w2]
    have kp3l := kp3.1
    have kp2l := kp2.1
    refine st_out (s' := s2) (d := d) (s2 := s3) (tt sNil) ?_ ⟨d, s3, rfl, stL_wf (by omega) d hd, p3, kz.trans kp3⟩
    generalize ws.map stD = wm at *
    simp [w0, e3, wd]
  · have ck : ¬ k = 0 := fun h => c0 (.inl h)
    have cw : ws ≠ [] := fun h => c0 (.inr h)
    have hpos : 0 < ws.length := List.length_pos_iff.mpr cw
    have he : ws.isEmpty = false := by cases ws with
      | nil => exact absurd rfl cw
      | cons _ _ => rfl
    have w2 := eqn s2
    rw [he] at w2
    have wl : ∀ s, dLen [.tup (ws.map stD)] s = some (.int ws.length, s) := fun s => by simp
    have lmap : (ws.map stD).length = ws.length := by simp
    refine st_no (s' := s2) (by generalize ws.map stD = wm at *; simp [ck, w2]) ?_
    obtain ⟨a, s3, e3, a0, a1, p3, kp3⟩ := draw_spec p2 (many := ws.length) (by omega) (by omega)
    refine st_set (d := .int a) (s' := s3) (by generalize ws.map stD = wm at *; simp [wl, e3]) ?_
    obtain ⟨h, s4, e4, h0, h1, p4, kp4⟩ := draw_spec p3 (many := 2) (by omega) (by omega)
    simp only [List.set_cons_succ, List.set_cons_zero]
    have fin : ∀ (a : Int) (s' : Store), 0 ≤ a → a < ws.length → Pool c p s' → Kp2 c p s s' → Bent c p s ((sSeq (sSet 6 (e2 dIxA (eV 1) (eV 5))) bentR) [some (.loc p), some (.tup (ws.map stD)), some (.int many), some (.loc (s.length + 1)), some (.int k), some (.int a), none, none] s') := fun a s' a0 a1 p' kp' => by
      obtain ⟨an, rfl⟩ := Int.eq_ofNat_of_zero_le a0
      have ha : an < ws.length := by omega
      have hx : ws[an]? = some ws[an] := by simp [ha]
      have wi : dIxA (.tup (ws.map stD)) (.int (an : Nat)) s' = some (stD ws[an], s') := by
        rw [dIxA_tup, dIx_tup, atI_ofNat _ _ (stD ws[an]) (by simp [ha])]
        rfl
      refine st_set (d := stD ws[an]) (s' := s') (by generalize ws.map stD = wm at *; simp [wi]) ?_
      exact (bentR_all (l3 := s.length + 1) (k := k) ⟨p', hn, hx, hT _ (hw _ (List.getElem_mem ha))⟩ m0 m1 k0 k1 ck).up kp'
    by_cases ch : h = 0
    · have hb : 0 < (1 : Int) + (ws.length : Int) / 4 := by omega
      obtain ⟨b, s5, e5, b0, b1, p5, kp5⟩ := draw_spec p4 (many := 1 + (ws.length : Int) / 4) hb (by omega)
      have wd4 := fun s => dDiv_int (ws.length : Int) 4 s ⟨by omega, by omega⟩
      have b2 : b < ws.length := by omega
      have d0 : (0 : Int) ≤ ws.length - 1 - b := by omega
      refine st_yes (s' := s4) (env2 := [some (.loc p), some (.tup (ws.map stD)), some (.int many), some (.loc (s.length + 1)), some (.int k), some (.int (ws.length - 1 - b)), none, none]) (s2 := s5) (by simp [e4, ch]) (by generalize ws.map stD = wm at *; simp [wl, wd4, e5]) ?_
      exact fin _ s5 d0 (by omega) p5 ((kz.trans kp3).trans (kp4.trans kp5))
    · refine st_no (s' := s4) (by simp [e4, ch]) ?_
      exact fin a s4 a0 a1 p4 ((kz.trans kp3).trans kp4)
end Law
namespace Law
open PySem Mi
/-! ### a walk with a strange step -/
theorem walkR_none {T : Tb} {d : D} (h : ∀ n, stepOk T n d = none) : ∀ (xs ys : List D) (n : Str) (t : Int), walkR T n t (xs ++ d :: ys) = none
  | [], ys, n, t => by
    show (stepOk T n d).bind _ = none
    rw [h]; rfl
  | x :: xs, ys, n, t => by
    show (stepOk T n x).bind (fun r => walkR T r.1 (t + r.2) (xs ++ d :: ys)) = none
    cases q : stepOk T n x with
    | none => rfl
    | some r => rw [Option.bind_some]; exact walkR_none h xs ys _ _
theorem walkB_put {T : Tb} {d : D} (h : ∀ n, stepOk T n d = none) (xs : List D) (k : Nat) (st en : Str) (least : Int) : walkB T st en least (.tup (putL xs k d)) = false := by
  rw [walkB_tup]
  have e : putL xs k d = xs.take k ++ d :: xs.drop (k + 1) := by simp [putL]
  rw [e, walkR_none h]
theorem walkB_chain {T : Tb} {st : Str} {ws : List St} (h : Chain T st ws) (least : Int) : walkB T st (endOf st ws) least (.tup (ws.map stD)) = decide (least ≤ sumW T ws) := by
  rw [walkB_tup, chain_walk h]
  simp
/-- the ask's surroundings -/
structure AX (c p lt : Nat) (first last : Int) (deeds : List Str) (ents : List (Str × Rec)) (start : Str) (ws : List St) (s : Store) : Prop where
  hp : Pool c p s
  b : BOk deeds ents
  ht : s[lt]? = some (.dct (Tof first last deeds ents))
  tok : TOk (Tof first last deeds ents)
  nt : lt ≠ p ∧ lt ≠ c
  ch : Chain (Tof first last deeds ents) start ws
  hn : ws.length ≤ 200
section
variable {c p lt : Nat} {first last : Int} {deeds : List Str} {ents : List (Str × Rec)} {start : Str} {ws : List St} {s : Store}
theorem AX.kp (h : AX c p lt first last deeds ents start ws s) {s' : Store} (hp : Pool c p s') (k : Kp2 c p s s') : AX c p lt first last deeds ents start ws s' := { h with hp := hp, ht := k.get h.ht h.nt.1 h.nt.2 }
theorem AX.ext (h : AX c p lt first last deeds ents start ws s) {s' : Store} (x : Ext s s') : AX c p lt first last deeds ents start ws s' := h.kp (Ext.pool x h.hp) (Ext.kp x c p)
theorem AX.isw (h : AX c p lt first last deeds ents start ws s) (st en : Str) (least : Int) {d : D} (w : Wfs s d) : ∃ s', m_is_walk [bookD first last deeds ents, .str st, .str en, .int least, d] s = .ok (.bl (walkB (Tof first last deeds ents) st en least d)) s' ∧ Ext s s' := iswalk_spec first last h.b st en least w
theorem AX.lis (h : AX c p lt first last deeds ents start ws s) (st en : Str) (least : Int) {d : D} (w : Wfs s d) : m_d_law_is [.loc lt, .str st, .str en, .int least, d] s = .ok (.bl (walkB (Tof first last deeds ents) st en least d)) s := lis_spec (tab_of (allStp first last deeds ents)) h.ht st en least w
/-- both say the same -/
theorem AX.both (h : AX c p lt first last deeds ents start ws s) (st en : Str) (least : Int) {d : D} (w : Wfs s d) : ∃ v s', m_is_walk [bookD first last deeds ents, .str st, .str en, .int least, d] s = .ok (.bl v) s' ∧ m_d_law_is [.loc lt, .str st, .str en, .int least, d] s' = .ok (.bl v) s' ∧ Ext s s' := by
  obtain ⟨s', e, x⟩ := h.isw st en least w
  exact ⟨_, s', e, (h.ext x).lis st en least (w.up x.le), x⟩
def aEnv (p lt : Nat) (B wd : D) (start en : Str) (W : Int) (told : D) (r : Sl) : Sl := some (.loc p) :: some B :: some (.loc lt) :: some (.str start) :: some wd :: some (.str en) :: some (.int W) :: some told :: r
theorem ask3_turn (h : AX c p lt first last deeds ents start ws s) (en z : Str) (W : Int) (o9 o10 o11 o12 : Option D) :
    ∃ s', bl_d_law_asked_3 (aEnv p lt (bookD first last deeds ents) (.tup (ws.map stD)) start en W (.int W) [some (.str z), o9, o10, o11, o12]) s = .nx (aEnv p lt (bookD first last deeds ents) (.tup (ws.map stD)) start en W (.int W) [some (.str z), o9, o10, o11, o12]) s' ∧ Ext s s' := by
  obtain ⟨v1, s1, e1, f1, x1⟩ := h.both z en (-100000) (ws_wfs s ws)
  have h1 := h.ext x1
  obtain ⟨v2, s2, e2, f2, x2⟩ := h1.both start z (-100000) (ws_wfs s1 ws)
  have t1 := told_spec v1 s1
  have t2 := told_spec v2 s2
  refine ⟨s2, ?_, x1.trans x2⟩
  generalize bookD first last deeds ents = B at *
  generalize ws.map stD = wm at *
  simp [bl_d_law_asked_3, aEnv, e1, f1, t1, e2, f2, t2]
theorem ask2_turn (h : AX c p lt first last deeds ents start ws s) {k : Nat} (hk : k < ws.length) (en : Str) (W : Int) (o8 o10 o11 o12 : Option D) :
    ∃ s' b10, (bl_d_law_asked_2 (aEnv p lt (bookD first last deeds ents) (.tup (ws.map stD)) start en W (.int W) [o8, some (.int (k : Nat)), o10, o11, o12]) s = .nx (aEnv p lt (bookD first last deeds ents) (.tup (ws.map stD)) start en W (.int W) [o8, some (.int (k : Nat)), b10, o11, o12]) s' ∨ bl_d_law_asked_2 (aEnv p lt (bookD first last deeds ents) (.tup (ws.map stD)) start en W (.int W) [o8, some (.int (k : Nat)), o10, o11, o12]) s = .bk (aEnv p lt (bookD first last deeds ents) (.tup (ws.map stD)) start en W (.int W) [o8, some (.int (k : Nat)), b10, o11, o12]) s') ∧ Ext s s' := by
  have wi : dIxA (.tup (ws.map stD)) (.int (k : Nat)) s = some (stD ws[k], s) := by
    rw [dIxA_tup, dIx_tup, atI_ofNat _ _ (stD ws[k]) (by simp [hk])]
    rfl
  have hn := h.hn
  generalize ws[k] = x at wi
  have i0 := st0 x
  have i1 := st1 x
  have i2 := st2 x
  by_cases c1 : x.i = 0 ∨ x.i = 1
  · have hno : ∀ n, stepOk (Tof first last deeds ents) n (.tup [.str x.a, .str x.b, .bl (decide (x.i = 1))]) = none := fun n => rfl
    have wp := put_spec (xs := ws.map stD) (k := k) (by simpa using hk) (by simpa using Nat.le_trans hn (by omega)) (.tup [.str x.a, .str x.b, .bl (decide (x.i = 1))]) s
    obtain ⟨s1, e1, x1⟩ := h.isw start en (-1000000) (d := .tup (putL (ws.map stD) k (.tup [.str x.a, .str x.b, .bl (decide (x.i = 1))]))) (ws_put (st_all s ws) (w3_tri (x := .str x.a) (y := .str x.b) (z := .bl (decide (x.i = 1))) rfl rfl rfl) k)
    rw [walkB_put hno] at e1
    refine ⟨s1, some (stD x), .inr ?_, x1⟩
    generalize bookD first last deeds ents = B at *
    generalize ws.map stD = wm at *
    generalize stD x = sx at *
    rcases c1 with c1 | c1 <;> simp [c1] at wp e1 <;> simp [bl_d_law_asked_2, aEnv, wi, i0, i1, i2, c1, wp, e1]
  · have c2 : ¬ x.i = 0 := fun h => c1 (.inl h)
    have c3 : ¬ x.i = 1 := fun h => c1 (.inr h)
    refine ⟨s, some (stD x), .inl ?_, Ext.refl s⟩
    generalize bookD first last deeds ents = B at *
    generalize ws.map stD = wm at *
    generalize stD x = sx at *
    simp [bl_d_law_asked_2, aEnv, wi, i2, c2, c3]
theorem ask1_turn (h : AX c p lt first last deeds ents start ws s) (en : Str) (W : Int) (o8 o9 o10 o11 o12 : Option D) :
    ∃ s' b11 b12, bl_d_law_asked_1 (aEnv p lt (bookD first last deeds ents) (.tup (ws.map stD)) start en W (.int W) [o8, o9, o10, o11, o12]) s = .nx (aEnv p lt (bookD first last deeds ents) (.tup (ws.map stD)) start en W (.int W) [o8, o9, o10, b11, b12]) s' ∧ Pool c p s' ∧ Kp2 c p s s' := by
  have h2 := h.b.h2
  have wl : ∀ s, dLen [.tup (ents.map entD)] s = some (.int ents.length, s) := fun s => by simp
  have i3 : ∀ s, dIxA (bookD first last deeds ents) (.int 3) s = some (.tup (ents.map entD), s) := fun s => by unfold bookD; rw [dIxA_tup, ix3]
  obtain ⟨d, s1, e1, w1, p1, k1⟩ := bent_spec h.hp h.tok (chain_all h.ch) h.hn (many := ents.length) (by omega) (by omega)
  obtain ⟨j, s2, v, e2, hv, wv, p2, k2⟩ := drawn p1 (L := [.int (-1000000), .int W, .int 0, .int 1]) (n := 4) rfl (by omega) (by omega)
  obtain ⟨least, rfl⟩ : ∃ least, v = .int least := by
    simp only [List.mem_cons, List.mem_nil_iff, or_false] at hv
    rcases hv with rfl | rfl | rfl | rfl <;> exact ⟨_, rfl⟩
  have a2 := h.kp p2 (k1.trans k2)
  obtain ⟨v, s3, e3, f3, x3⟩ := a2.both start en least (w1.up k2.1)
  have t3 := told_spec v s3
  refine ⟨s3, some d, some (.int least), ?_, Ext.pool x3 p2, (k1.trans k2).trans (Ext.kp x3 c p)⟩
  generalize bookD first last deeds ents = B at *
  generalize ents.map entD = em at *
  generalize ws.map stD = wm at *
  simp at e2
  simp [bl_d_law_asked_1, aEnv, i3, wl, e1, e2, wv, e3, f3, t3]
/-- it says True, and the pool goes on -/
def YesP (c p : Nat) (s : Store) (r : RS) : Prop := ∃ s', r = .rt (.bl true) s' ∧ Pool c p s' ∧ Kp2 c p s s'
theorem cut_mem {xs : List D} {lo hi : Option Int} {x : D} (h : x ∈ Mi.cutD xs lo hi) : x ∈ xs := List.mem_of_mem_drop (List.mem_of_mem_take h)
theorem asked_spec (h : AX c p lt first last deeds ents start ws s) : ∃ s', m_d_law_asked [.loc p, bookD first last deeds ents, .loc lt, .str start, .tup (ws.map stD)] s = .ok (.bl true) s' ∧ Pool c p s' ∧ Kp2 c p s s' := by
  suffices q : YesP c p s (b_d_law_asked [some (.loc p), some (bookD first last deeds ents), some (.loc lt), some (.str start), some (.tup (ws.map stD)), none, none, none, none, none, none, none, none] s) by
    obtain ⟨s', e, q⟩ := q
    refine ⟨s', ?_, q⟩
    have e2 : m_d_law_asked [.loc p, bookD first last deeds ents, .loc lt, .str start, .tup (ws.map stD)] s = fnM 13 5 b_d_law_asked [.loc p, bookD first last deeds ents, .loc lt, .str start, .tup (ws.map stD)] s := rfl
    rw [e2, fnM_eq]
    have e3 : ([D.loc p, bookD first last deeds ents, .loc lt, .str start, .tup (ws.map stD)].map some ++ List.replicate (13 - 5) none : Sl) = [some (.loc p), some (bookD first last deeds ents), some (.loc lt), some (.str start), some (.tup (ws.map stD)), none, none, none, none, none, none, none, none] := rfl
    rw [e3, e]
  have hch := h.ch
  have hall := chain_all hch
  have neq := ne_nilT (fun x hx => h.tok x (hall x hx))
  have wl : ∀ s, dLen [.tup (ws.map stD)] s = some (.int ws.length, s) := fun s => by simp
  obtain ⟨E, hE⟩ : ∃ E, E = endOf start ws := ⟨_, rfl⟩
  obtain ⟨W, hW⟩ : ∃ W, W = sumW (Tof first last deeds ents) ws := ⟨_, rfl⟩
  have wv := walkB_chain hch
  rw [← hE, ← hW] at wv
  unfold b_d_law_asked
  refine st_set (d := .str start) (s' := s) (by simp) ?_
  simp only [List.set_cons_succ, List.set_cons_zero]
  suffices q : YesP c p s (sSeq _ _ [some (.loc p), some (bookD first last deeds ents), some (.loc lt), some (.str start), some (.tup (ws.map stD)), some (.str E), none, none, none, none, none, none, none] s) by
    cases hws : ws with
    | nil =>
      have w2 := neq s
      rw [hws] at w2
      have hE' : E = start := by rw [hE, hws]; rfl
      rw [hws, hE'] at q
      refine st_no (s' := s) ?_ q
      generalize bookD first last deeds ents = B at *
      simp at w2
      simp [w2]
    | cons y ys =>
      have w2 := neq s
      have hne : ws.isEmpty = false := by rw [hws]; rfl
      rw [hne] at w2
      have hpos : 0 < ws.length := by rw [hws]; simp
      have wlast : dIxA (.tup (ws.map stD)) (.int ((ws.length : Int) - 1)) s = some (stD (ws[ws.length - 1]'(by omega)), s) := by
        rw [dIxA_tup, dIx_tup, show ((ws.length : Int) - 1) = ((ws.length - 1 : Nat) : Int) by omega, atI_ofNat _ _ (stD (ws[ws.length - 1]'(by omega))) (by rw [List.getElem?_map, List.getElem?_eq_getElem (by omega)]; rfl)]
        rfl
      have i1 := st1 (ws[ws.length - 1]'(by omega))
      have hE' : E = (ws[ws.length - 1]'(by omega)).b := by
        rw [hE]
        unfold endOf
        rw [List.getLast?_eq_getElem?, List.getElem?_eq_getElem (by omega)]
      rw [← hE'] at i1
      rw [← hws]
      refine st_yes (s' := s) (env2 := [some (.loc p), some (bookD first last deeds ents), some (.loc lt), some (.str start), some (.tup (ws.map stD)), some (.str E), none, none, none, none, none, none, none]) (s2 := s) ?_ ?_ q
      · generalize bookD first last deeds ents = B at *
        generalize ws.map stD = wm at *
        simp [w2]
      · generalize bookD first last deeds ents = B at *
        generalize ws.map stD = wm at *
        generalize stD (ws[ws.length - 1]'(by omega)) = sx at *
        simp [wl, wlast, i1]
  have et := total_spec h.ht hall
  rw [← hW] at et
  refine st_set (d := .int W) (s' := s) (by generalize bookD first last deeds ents = B at *; generalize ws.map stD = wm at *; simp [et]) ?_
  simp only [List.set_cons_succ, List.set_cons_zero]
  obtain ⟨s1, e1, x1⟩ := h.isw start E W (ws_wfs s ws)
  have h1 := h.ext x1
  obtain ⟨s2, e2, x2⟩ := h1.isw start E (W + 1) (ws_wfs s1 ws)
  have h2 := h1.ext x2
  rw [wv, decide_eq_true (Int.le_refl W)] at e1
  rw [wv, decide_eq_false (by omega)] at e2
  refine st_no (s' := s2) (by generalize bookD first last deeds ents = B at *; generalize ws.map stD = wm at *; simp [e1, e2]) ?_
  obtain ⟨v, s3, e3, v0, v1, p3, k3⟩ := draw_spec h2.hp (many := 50) (by omega) (by omega)
  have h3 := h2.kp p3 k3
  obtain ⟨s4, e4, x4⟩ := h3.isw start E (W - 1 - v) (ws_wfs s3 ws)
  have h4 := h3.ext x4
  rw [wv, decide_eq_true (by omega)] at e4
  refine st_no (s' := s4) (by generalize bookD first last deeds ents = B at *; generalize ws.map stD = wm at *; simp [e3, e4]) ?_
  obtain ⟨s5, e5, x5⟩ := sumof_spec first last h.b (ws := ws) (by have := h.hn; omega) hall s4
  have h5 := h4.ext x5
  rw [← hW] at e5
  refine st_set (d := .int W) (s' := s5) (by generalize bookD first last deeds ents = B at *; generalize ws.map stD = wm at *; simp [e5]) ?_
  simp only [List.set_cons_succ, List.set_cons_zero]
  refine st_no (s' := s5) (by generalize bookD first last deeds ents = B at *; generalize ws.map stD = wm at *; simp) ?_
  have kz : Kp2 c p s s5 := ((((Ext.kp x1 c p).trans (Ext.kp x2 c p)).trans k3).trans (Ext.kp x4 c p)).trans (Ext.kp x5 c p)
  have i2 : ∀ s, dIxA (bookD first last deeds ents) (.int 2) s = some (.tup (deeds.map D.str), s) := fun s => by unfold bookD; rw [dIxA_tup, ix2]
  have hd1 := h.b.h1
  have ad : ∀ s, dAdd (.tup [.str ""]) (.tup (deeds.map D.str)) s = some (.tup ([.str ""] ++ deeds.map D.str), s) := fun s => dAdd_tup (by simp; omega)
  obtain ⟨j, s6, ot, e6, hot, wot, p6, k6⟩ := drawn h5.hp (L := [.tup ([.str ""] ++ deeds.map D.str), .tup [.str E, .str start]]) (n := 2) rfl (by omega) (by omega)
  have h6 := h5.kp p6 k6
  obtain ⟨oL, rfl, hoL⟩ : ∃ oL, ot = .tup oL ∧ ∀ x ∈ oL, ∃ z, x = D.str z := by
    simp only [List.mem_cons, List.mem_nil_iff, or_false] at hot
    rcases hot with rfl | rfl
    · refine ⟨_, rfl, fun x hx => ?_⟩
      rcases List.mem_append.mp hx with hx | hx
      · exact ⟨_, List.mem_singleton.mp hx⟩
      · obtain ⟨z, _, rfl⟩ := List.mem_map.mp hx
        exact ⟨z, rfl⟩
    · refine ⟨_, rfl, fun x hx => ?_⟩
      simp only [List.mem_cons, List.mem_nil_iff, or_false] at hx
      rcases hx with rfl | rfl <;> exact ⟨_, rfl⟩
  have wsl : ∀ s, dSl (.tup oL) none (some 6) s = some (.tup (Mi.cutD oL none (some 6)), s) := fun s => rfl
  obtain ⟨env7, s7, e7, ⟨o8, rfl⟩, h7, k7⟩ := forL_atT (gd := always) (g := gN 8) (b := bl_d_law_asked_3) (Mi.cutD oL none (some 6)) (fun k env s' => (∃ o8, env = aEnv p lt (bookD first last deeds ents) (.tup (ws.map stD)) start E W (.int W) [o8, none, none, none, none]) ∧ AX c p lt first last deeds ents start ws s' ∧ Kp2 c p s s') (fun _ _ _ _ => trivial)
    (fun k d env s' hk ⟨⟨o8, he⟩, hh, kk⟩ => by
      subst he
      obtain ⟨z, rfl⟩ := hoL d (cut_mem (List.mem_of_getElem? hk))
      obtain ⟨s'', e, x⟩ := ask3_turn hh E z W none none none none
      rw [turn_gN]
      show Turns _ _ (bl_d_law_asked_3 (aEnv p lt (bookD first last deeds ents) (.tup (ws.map stD)) start E W (.int W) [some (.str z), none, none, none, none]) s')
      rw [e]
      exact ⟨⟨_, rfl⟩, hh.ext x, kk.trans (Ext.kp x c p)⟩) (env := aEnv p lt (bookD first last deeds ents) (.tup (ws.map stD)) start E W (.int W) [none, none, none, none, none]) (s := s6) ⟨⟨_, rfl⟩, h6, kz.trans k6⟩
  refine st_for (x := ⟨Mi.cutD oL none (some 6), always⟩) (s' := s6) ?_ e7 ?_
  · generalize bookD first last deeds ents = B at *
    generalize ws.map stD = wm at *
    generalize deeds.map D.str = dm at *
    have e6' : m_d_law_draw [.loc p, .int 2] (s5 ++ [Cell.lst [D.tup (D.str "" :: dm), D.tup [D.str E, D.str start]]]) = R.ok (D.int j) s6 := e6
    simp only [List.cons_append, List.nil_append] at ad
    simp [i2, ad, e6', wot, wsl]
  obtain ⟨env8, s8, e8, ⟨o9, o10, rfl⟩, h8, k8⟩ := forL_at (gd := always) (g := gN 9) (b := bl_d_law_asked_2) (rng ws.length) (fun k env s' => (∃ o9 o10, env = aEnv p lt (bookD first last deeds ents) (.tup (ws.map stD)) start E W (.int W) [o8, o9, o10, none, none]) ∧ AX c p lt first last deeds ents start ws s' ∧ Kp2 c p s s')
    (fun r => ∃ env' s', r = .nx env' s' ∧ (∃ o9 o10, env' = aEnv p lt (bookD first last deeds ents) (.tup (ws.map stD)) start E W (.int W) [o8, o9, o10, none, none]) ∧ AX c p lt first last deeds ents start ws s' ∧ Kp2 c p s s') (fun _ _ _ _ => trivial)
    (fun k d env s' hk ⟨⟨o9, o10, he⟩, hh, kk⟩ => by
      subst he
      obtain ⟨hk', rfl⟩ := rng_get hk
      obtain ⟨s'', b10, e, x⟩ := ask2_turn hh hk' E W o8 o10 none none
      rw [turn_gN]
      show Turns _ _ (bl_d_law_asked_2 (aEnv p lt (bookD first last deeds ents) (.tup (ws.map stD)) start E W (.int W) [o8, some (.int (k : Nat)), o10, none, none]) s')
      rcases e with e | e
      · rw [e]
        exact ⟨⟨_, _, rfl⟩, hh.ext x, kk.trans (Ext.kp x c p)⟩
      · rw [e]
        exact ⟨_, _, rfl, ⟨_, _, rfl⟩, hh.ext x, kk.trans (Ext.kp x c p)⟩) (fun env s' ⟨he, hh, kk⟩ => ⟨_, _, rfl, he, hh, kk⟩) (env := aEnv p lt (bookD first last deeds ents) (.tup (ws.map stD)) start E W (.int W) [o8, none, none, none, none]) (s := s7) ⟨⟨_, _, rfl⟩, h7, k7⟩
  have wr7 := rangeOf_int s7 (ws.length : Int) (by omega) (by have := h.hn; omega)
  rw [Int.toNat_natCast] at wr7
  refine st_for (x := ⟨rng ws.length, always⟩) (s' := s7) (by simp only [aEnv]; generalize bookD first last deeds ents = B at *; generalize ws.map stD = wm at *; simp [wl, wr7, -rangeOf_int]) e8 ?_
  obtain ⟨env9, s9, e9, ⟨o11, o12, o10', rfl⟩, h9, k9⟩ := forL_atT (gd := always) (g := gN 10) (b := bl_d_law_asked_1) (rng 8) (fun k env s' => (∃ o11 o12 o10, env = aEnv p lt (bookD first last deeds ents) (.tup (ws.map stD)) start E W (.int W) [o8, o9, o10, o11, o12]) ∧ AX c p lt first last deeds ents start ws s' ∧ Kp2 c p s s') (fun _ _ _ _ => trivial)
    (fun k d env s' hk ⟨⟨o11, o12, o10, he⟩, hh, kk⟩ => by
      subst he
      obtain ⟨hk', rfl⟩ := rng_get hk
      obtain ⟨s'', b11, b12, e, pp, k2⟩ := ask1_turn hh E W o8 o9 (some (.int (k : Nat))) o11 o12
      rw [turn_gN]
      show Turns _ _ (bl_d_law_asked_1 (aEnv p lt (bookD first last deeds ents) (.tup (ws.map stD)) start E W (.int W) [o8, o9, some (.int (k : Nat)), o11, o12]) s')
      rw [e]
      exact ⟨⟨_, _, _, rfl⟩, hh.kp pp k2, kk.trans k2⟩) (env := aEnv p lt (bookD first last deeds ents) (.tup (ws.map stD)) start E W (.int W) [o8, o9, o10, none, none]) (s := s8) ⟨⟨_, _, _, rfl⟩, h8, k8⟩
  refine st_for (x := ⟨rng 8, always⟩) (s' := s8) (by have := rangeOf_int s8 8 (by omega) (by omega); simpa using this) e9 ?_
  exact st_ret (d := .bl true) (s' := s9) (by simp) ⟨s9, rfl, h9.hp, k9⟩
end
end Law
namespace Law
open PySem Mi
/-! ### a book that is not plain -/
def exW : Ex := ⟨"BadStep", [("word", .str "plain")]⟩
theorem need_odd (first last : Int) {deeds : List Str} {ents : List (Str × Rec)} (h2 : ents.length ≤ 900) {odd : D} (ho : ∀ s, m_plain_record [odd] s = .ok (.bl false) s) (s : Store) :
    ∃ s', m_need_plain [bookG first last deeds (ents.map entD ++ [.tup [.str "dan", odd]])] s = .ex exW s' ∧ Ext s s' := by
  have q := need_no first last deeds (ents.map (fun e => (D.str e.1, recD e.2, true)) ++ [(D.str "dan", odd, false)]) (by simp; omega) (fun x hx s => by
    rcases List.mem_append.mp hx with hx | hx
    · obtain ⟨e, _, rfl⟩ := List.mem_map.mp hx
      exact plain_rec e.2 s
    · rw [List.mem_singleton.mp hx]
      exact ho s) (by simp) s
  have eb : (ents.map (fun e => (D.str e.1, recD e.2, true)) ++ [(D.str "dan", odd, false)]).map (fun x => D.tup [x.1, x.2.1]) = ents.map entD ++ [.tup [.str "dan", odd]] := by
    rw [List.map_append, List.map_map]
    rfl
  rw [eb] at q
  exact q
theorem word_spec (first last : Int) {deeds : List Str} {ents : List (Str × Rec)} (h2 : ents.length ≤ 900) {odd : D} (ho : ∀ s, m_plain_record [odd] s = .ok (.bl false) s) (wd : D) (j : Bool) (s : Store) :
    ∃ s', m_d_law_word [bookG first last deeds (ents.map entD ++ [.tup [.str "dan", odd]]), wd, .bl j] s = .ok (.str "plain") s' ∧ Ext s s' := by
  obtain ⟨s', e, x⟩ := need_odd first last (deeds := deeds) h2 ho s
  refine ⟨s', ?_, x⟩
  generalize bookG first last deeds (ents.map entD ++ [.tup [.str "dan", odd]]) = B at *
  have e1 : m_is_walk [B, .str "", .str "", .int 0, wd] s = .ex exW s' := by simp [m_is_walk, b_is_walk, e]
  have e2 : m_sum_of [B, wd] s = .ex exW s' := by simp [m_sum_of, b_sum_of, e]
  have et : sTryAs 3 ["BadStep"] (sIf (tTru (eV 2)) (sExpr (eCall m_is_walk (aCons (eV 0) (aCons (eC (.str "")) (aCons (eC (.str "")) (aCons (eC (.int 0)) (aCons (eV 1) (aNil)))))))) (sExpr (eCall m_sum_of (aCons (eV 0) (aCons (eV 1) (aNil)))))) (fun g => sRet (eFld g 3 "word")) [some B, some wd, some (.bl j), none] s = .rt (.str "plain") s' := by
    refine tryAs_ex (e := exW) (env2 := [some B, some wd, some (.bl j), none]) (s2 := s') ?_ (by simp [exW]) (by simp [exW]) fun g => ?_
    · cases j <;> simp [e1, e2]
    · have f : eFld g 3 "word" [some B, some wd, some (.bl j), some (.exv g.1 g.2 exW.cls exW.fs)] s' = .ok (.str "plain") s' := by simp [eFld, List.lookup, exW]
      simp [f, clr]
  simp [m_d_law_word, b_d_law_word, et]
theorem lplain_spec {c p : Nat} {s : Store} (hp : Pool c p s) (first last : Int) {deeds : List Str} {ents : List (Str × Rec)} (h2 : ents.length ≤ 900) (hd : 0 < deeds.length) (hd1 : deeds.length ≤ 1000) (wd : D) :
    ∃ s', m_d_law_plain [.loc p, bookD first last deeds ents, wd] s = .ok (.bl true) s' ∧ Pool c p s' ∧ Kp2 c p s s' := by
  suffices q : YesP c p s (b_d_law_plain [some (.loc p), some (bookD first last deeds ents), some wd, none, none] s) by
    obtain ⟨s', e, q⟩ := q
    refine ⟨s', ?_, q⟩
    have e2 : m_d_law_plain [.loc p, bookD first last deeds ents, wd] s = fnM 5 3 b_d_law_plain [.loc p, bookD first last deeds ents, wd] s := rfl
    rw [e2, fnM_eq]
    have e3 : ([D.loc p, bookD first last deeds ents, wd].map some ++ List.replicate (5 - 3) none : Sl) = [some (.loc p), some (bookD first last deeds ents), some wd, none, none] := rfl
    rw [e3, e]
  obtain ⟨d0, ds, hds⟩ : ∃ d0 ds, deeds = d0 :: ds := by
    match deeds, hd with
    | d0 :: ds, _ => exact ⟨d0, ds, rfl⟩
  have i0 : ∀ s, dIxA (bookD first last deeds ents) (.int 0) s = some (.int first, s) := fun s => by unfold bookD; rw [dIxA_tup, ix0]
  have i1 : ∀ s, dIxA (bookD first last deeds ents) (.int 1) s = some (.int last, s) := fun s => by unfold bookD; rw [dIxA_tup, ix1]
  have i2 : ∀ s, dIxA (bookD first last deeds ents) (.int 2) s = some (.tup (deeds.map D.str), s) := fun s => by unfold bookD; rw [dIxA_tup, ix2]
  have i3 : ∀ s, dIxA (bookD first last deeds ents) (.int 3) s = some (.tup (ents.map entD), s) := fun s => by unfold bookD; rw [dIxA_tup, ix3]
  have j0 : ∀ s, dIxA (.tup (deeds.map D.str)) (.int 0) s = some (.str d0, s) := fun s => by rw [hds, List.map_cons, dIxA_tup, ix0]
  have wl : ∀ s, dLen [.tup (deeds.map D.str)] s = some (.int deeds.length, s) := fun s => by simp
  have yu : ¬ (("years" : Str) = "gap") := years_gap
  have o1 : ∀ s, m_plain_record [.tup [.str "years", .str d0, .tup [.tup [.int 0, .int 1], .tup [.int 3, .int 4]]]] s = .ok (.bl false) s := fun s => by simp [m_plain_record, b_plain_record, ix0, ix2, yu]
  have o2 : ∀ s, m_plain_record [.tup [.str "years", .str d0, .tup []]] s = .ok (.bl false) s := fun s => by simp [m_plain_record, b_plain_record, ix0, ix2, yu]
  obtain ⟨v, s1, odd, e1, hodd, wodd, p1, k1⟩ := drawn hp (L := [.tup [.str "years", .str d0, .tup [.tup [.int 0, .int 1], .tup [.int 3, .int 4]]], .tup [.str "years", .str d0, .tup []]]) (n := 2) rfl (by omega) (by omega)
  have ho : ∀ s, m_plain_record [odd] s = .ok (.bl false) s := fun s => by
    simp only [List.mem_cons, List.mem_nil_iff, or_false] at hodd
    rcases hodd with rfl | rfl
    · exact o1 s
    · exact o2 s
  have e1' : m_d_law_draw [.loc p, .int 2] (s ++ [Cell.lst [.tup [.str "years", .str d0, .tup [.tup [.int 0, .int 1], .tup [.int 3, .int 4]]], .tup [.str "years", .str d0, .tup []]]]) = .ok (.int v) s1 := e1
  unfold b_d_law_plain
  refine st_set (d := odd) (s' := s1) ?_ ?_
  · generalize bookD first last deeds ents = B at *
    generalize deeds.map D.str = dm at *
    simp [i2, j0, e1', wodd]
  simp only [List.set_cons_succ, List.set_cons_zero]
  have tail : ∀ (odd : D) (s' : Store), (∀ s, m_plain_record [odd] s = .ok (.bl false) s) → Pool c p s' → Kp2 c p s s' → YesP c p s ((sSeq (sSet 1 (eTup (aCons (e2 dIxA (eV 1) (eC (.int 0))) (aCons (e2 dIxA (eV 1) (eC (.int 1))) (aCons (e2 dIxA (eV 1) (eC (.int 2))) (aCons (e2 dAdd (e2 dIxA (eV 1) (eC (.int 3))) (eTup (aCons (eTup (aCons (eC (.str "dan")) (aCons (eV 3) (aNil)))) (aNil)))) (aNil)))))))
    (sSeq (sFor (iSeq (eLst (aCons (eCall m_d_law_word (aCons (eV 1) (aCons (eV 2) (aCons (eC (.bl true)) (aNil))))) (aCons (eCall m_d_law_word (aCons (eV 1) (aCons (eTup (aNil)) (aCons (eC (.bl false)) (aNil))))) (aNil))))) (gN 4) (bl_d_law_plain_1))
    (sRet (eC (.bl true))))) [some (.loc p), some (bookD first last deeds ents), some wd, some odd, none] s') := fun odd s' ho p' k' => by
    have ad : ∀ s, dAdd (.tup (ents.map entD)) (.tup [.tup [.str "dan", odd]]) s = some (.tup (ents.map entD ++ [.tup [.str "dan", odd]]), s) := fun s => dAdd_tup (by simp; omega)
    obtain ⟨B', hB'⟩ : ∃ B', B' = bookG first last deeds (ents.map entD ++ [.tup [.str "dan", odd]]) := ⟨_, rfl⟩
    refine st_set (d := B') (s' := s') ?_ ?_
    · rw [hB']
      unfold bookG
      generalize bookD first last deeds ents = B at *
      generalize ents.map entD ++ [.tup [.str "dan", odd]] = em2 at *
      generalize ents.map entD = em at *
      generalize deeds.map D.str = dm at *
      simp [i0, i1, i2, i3, ad]
    simp only [List.set_cons_succ, List.set_cons_zero]
    obtain ⟨s2, e2, x2⟩ := word_spec first last (deeds := deeds) h2 ho wd true s'
    obtain ⟨s3, e3, x3⟩ := word_spec first last (deeds := deeds) h2 ho (.tup []) false s2
    rw [← hB'] at e2 e3
    have x4 := Ext.mk s3 [Cell.lst [.str "plain", .str "plain"]]
    have g4 := get_new s3 (.lst [.str "plain", .str "plain"])
    have eF : forL (fun z => z[s3.length]? = some (Cell.lst [.str "plain", .str "plain"])) (gN 4) bl_d_law_plain_1 [.str "plain", .str "plain"] [some (.loc p), some B', some wd, some odd, none] (s3 ++ [Cell.lst [.str "plain", .str "plain"]]) = .nx [some (.loc p), some B', some wd, some odd, some (.str "plain")] (s3 ++ [Cell.lst [.str "plain", .str "plain"]]) := by
      have t : ∀ o4, bl_d_law_plain_1 [some (.loc p), some B', some wd, some odd, some (.str "plain")] (s3 ++ [Cell.lst [.str "plain", .str "plain"]]) = .nx [some (.loc p), some B', some wd, some odd, some (.str "plain")] (s3 ++ [Cell.lst [.str "plain", .str "plain"]]) := fun (o4 : Unit) => by simp [bl_d_law_plain_1]
      rw [forL_cons _ _ _ g4]
      simp only [gN_eq, List.set_cons_succ, List.set_cons_zero, t ()]
      rw [forL_cons _ _ _ g4]
      simp only [gN_eq, List.set_cons_succ, List.set_cons_zero, t ()]
      rw [forL_nil _ _ _ g4]
    refine st_for (x := ⟨[.str "plain", .str "plain"], fun z => z[s3.length]? = some (Cell.lst [.str "plain", .str "plain"])⟩) (s' := s3 ++ [Cell.lst [.str "plain", .str "plain"]]) (by simp [e2, e3]) eF ?_
    exact st_ret (d := .bl true) (s' := s3 ++ [Cell.lst [.str "plain", .str "plain"]]) (by simp) ⟨_, rfl, Ext.pool ((x2.trans x3).trans x4) p', k'.trans (Ext.kp ((x2.trans x3).trans x4) c p)⟩
  by_cases c1 : 1 < deeds.length
  · have c1' : (1 : Int) < deeds.length := by omega
    obtain ⟨d1, hd1⟩ : ∃ d1, deeds[1]? = some d1 := ⟨deeds[1], by simp [c1]⟩
    have j1 : ∀ s, dIxA (.tup (deeds.map D.str)) (.int 1) s = some (.str d1, s) := fun s => by
      rw [dIxA_tup, dIx_tup, show (1 : Int) = ((1 : Nat) : Int) from rfl, atI_ofNat _ _ (D.str d1) (by rw [List.getElem?_map, hd1]; rfl)]
      rfl
    obtain ⟨h, s2, e2, h0, h1, p2, k2⟩ := draw_spec p1 (many := 2) (by omega) (by omega)
    by_cases ch : h = 0
    · have o3 : ∀ s, m_plain_record [.tup [.str "under", .str d0, .int 1, .tup [.tup [.str d1, .int 1], .tup [.str d1, .int 2]]]] s = .ok (.bl false) s := fun s => by
        have u1 : ¬ (("under" : Str) = "gap") := by decide +kernel
        have u2 : ¬ (("under" : Str) = "years") := by decide +kernel
        simp [m_plain_record, b_plain_record, ix0, ix2, u1, u2]
      refine st_yes (s' := s2) (env2 := [some (.loc p), some (bookD first last deeds ents), some wd, some (.tup [.str "under", .str d0, .int 1, .tup [.tup [.str d1, .int 1], .tup [.str d1, .int 2]]]), none]) (s2 := s2) ?_ ?_ (tail _ s2 o3 p2 (k1.trans k2))
      · generalize bookD first last deeds ents = B at *
        generalize deeds.map D.str = dm at *
        simp [i2, wl, c1', e2, ch]
      · generalize bookD first last deeds ents = B at *
        generalize deeds.map D.str = dm at *
        simp [i2, j0, j1]
    · refine st_no (s' := s2) ?_ (tail _ s2 ho p2 (k1.trans k2))
      generalize bookD first last deeds ents = B at *
      generalize deeds.map D.str = dm at *
      simp [i2, wl, c1', e2, ch]
  · have c1' : ¬ (1 : Int) < deeds.length := by omega
    refine st_no (s' := s1) ?_ (tail _ s1 ho p1 k1)
    generalize bookD first last deeds ents = B at *
    generalize deeds.map D.str = dm at *
    simp [i2, wl, c1']
end Law
namespace Law
open PySem Mi
/-! ### a gap's weight stands in the table -/
theorem fold_get {k : List L2.Key} {v : Int} (L : List Stp) (h : ∀ y ∈ L, keyS y = k → y.w = v) (he : ∃ y ∈ L, keyS y = k) : getD (tblOf L) k = some (.int v) := by
  obtain ⟨R, hR⟩ : ∃ R, L = R.reverse := ⟨L.reverse, by simp⟩
  subst hR
  induction R with
  | nil =>
    obtain ⟨y, hy, _⟩ := he
    cases hy
  | cons x R ih =>
    rw [List.reverse_cons, tbl_snoc]
    by_cases c : keyS x = k
    · rw [c, putD_get, h x (by simp) c]
    · rw [putD_other fun e => c e.symm]
      refine ih (fun y hy => h y (by rw [List.reverse_cons]; exact List.mem_append.mpr (.inl hy))) ?_
      obtain ⟨y, hy, e⟩ := he
      rw [List.reverse_cons] at hy
      rcases List.mem_append.mp hy with hy | hy
      · exact ⟨y, hy, e⟩
      · rw [List.mem_singleton.mp hy] at e
        exact absurd e c
theorem gap_wt {first last : Int} {deeds : List Str} {ents : List (Str × Rec)} {dg a b : Str} {w : Int} (h : (dg, Rec.gap a b w) ∈ ents) : ∃ i : Nat, i < ents.length ∧ wt (Tof first last deeds ents) a b i = some w := by
  obtain ⟨i, hi, e⟩ := List.mem_iff_getElem.mp h
  refine ⟨i, hi, ?_⟩
  have q := fold_get (k := key3 a b i) (v := w) (allStp first last deeds ents) (fun y hy hk => ?_) ?_
  · unfold wt
    rw [q]
  · unfold keyS key3 at hk
    simp only [List.cons.injEq, Sum.inr.injEq, Sum.inl.injEq, and_true] at hk
    obtain ⟨k1, k2, k3⟩ := hk
    unfold allStp at hy
    rcases List.mem_append.mp hy with hy | hy
    · obtain ⟨d, _, hy⟩ := List.mem_flatMap.mp hy
      simp only [dStp, List.mem_cons, List.mem_nil_iff, or_false] at hy
      rcases hy with rfl | rfl <;> simp only at k3 <;> omega
    · unfold eStp at hy
      obtain ⟨j, hj, hy⟩ := List.mem_flatMap.mp hy
      rw [List.mem_range] at hj
      rw [List.getElem?_eq_getElem hj] at hy
      have yi : y.i = j := by
        cases hr : (ents[j]).2 with
        | gap a' b' w' => simp only [hr, rStp, List.mem_singleton] at hy; rw [hy]
        | yrs d' i' j' =>
          simp only [hr, rStp, List.mem_cons, List.mem_nil_iff, or_false] at hy
          rcases hy with rfl | rfl <;> rfl
      have : j = i := by omega
      subst this
      rw [e] at hy
      simp only [rStp, List.mem_singleton] at hy
      rw [hy]
  · refine ⟨⟨a, b, i, w⟩, ?_, rfl⟩
    unfold allStp
    refine List.mem_append.mpr (.inr ?_)
    unfold eStp
    refine List.mem_flatMap.mpr ⟨i, List.mem_range.mpr hi, ?_⟩
    rw [List.getElem?_eq_getElem hi, e]
    simp [rStp]
theorem all_len (first last : Int) {deeds : List Str} {ents : List (Str × Rec)} (b : BOk deeds ents) : (allStp first last deeds ents).length ≤ 4000 := by
  have h1 := b.h1
  have h2 := b.h2
  have := eStp_len ents ents.length
  unfold allStp
  rw [List.length_append, deed_len]
  omega
/-! ### the law's last search -/
def lEnv (v0 : D) (p many : Nat) (o3 : Option D) (most : Nat) (ln : Nat) (B : D) (lt ls : Nat) (nodes start : D) (lh : Nat) (r : Sl) : Sl := some v0 :: some (.loc p) :: some (.int (many : Nat)) :: o3 :: some (.int (most : Nat)) :: some (.loc ln) :: some B :: some (.loc lt) :: some (.loc ls) :: some nodes :: some start :: some (.loc lh) :: r
/-- what stands when the search begins -/
structure LX (c p ln lt ls lh : Nat) (first last : Int) (deeds : List Str) (ents : List (Str × Rec)) (n0 n1 : Str) (nr : List Str) (M H : List St) (s : Store) : Prop where
  hp : Pool c p s
  b : BOk deeds ents
  he : ents.length ≤ 900
  hd : 0 < deeds.length
  ht : s[lt]? = some (.dct (Tof first last deeds ents))
  hn : s[ln]? = some (.lst ((n0 :: n1 :: nr).map D.str))
  hs : s[ls]? = some (.lst (M.map stD))
  hh : s[lh]? = some (.lst (H.map stD))
  hM : ∀ x, x ∈ M ↔ (wv (Tof first last deeds ents) x).isSome = true
  hz : M.length ≤ 4000
  hH : ∀ x, x ∈ H ↔ x ∈ M ∧ x.a = n0 ∧ x.b = n1 ∧ 0 ≤ x.i
  tok : TOk (Tof first last deeds ents)
  nt : lt ≠ p ∧ lt ≠ c
  nn : ln ≠ p ∧ ln ≠ c
  ns : ls ≠ p ∧ ls ≠ c
section
variable {c p ln lt ls lh : Nat} {first last : Int} {deeds : List Str} {ents : List (Str × Rec)} {n0 n1 : Str} {nr : List Str} {M H : List St} {s : Store}
theorem find1 (h : LX c p ln lt ls lh first last deeds ents n0 n1 nr M H s) {x y : St} (hx : x ∈ H) (hy : y ∈ M) {most many : Nat} (hm : most ≤ 100) (v0 : D) (o3 : Option D) (nodes start : D) (o14 o15 : Option D) :
    (¬ (y.a = n1 ∧ y.b = n0 ∧ (wv (Tof first last deeds ents) y).getD 0 + (wv (Tof first last deeds ents) x).getD 0 = 0) ∧
      bl_law_1 (lEnv v0 p many o3 most ln (bookD first last deeds ents) lt ls nodes start lh [some (stD x), some (stD y), o14, o15]) s = .nx (lEnv v0 p many o3 most ln (bookD first last deeds ents) lt ls nodes start lh [some (stD x), some (stD y), o14, o15]) s) ∨
    Yes (bl_law_1 (lEnv v0 p many o3 most ln (bookD first last deeds ents) lt ls nodes start lh [some (stD x), some (stD y), o14, o15]) s) := by
  obtain ⟨hxM, xa, xb, _⟩ := (h.hH x).mp hx
  have sx := (h.hM x).mp hxM
  have sy := (h.hM y).mp hy
  have gx := wv_get h.ht sx
  have gy := wv_get h.ht sy
  have y0 := st0 y
  have y1 := st1 y
  have m0 : ∀ s', s'[ln]? = some (.lst ((n0 :: n1 :: nr).map D.str)) → dIxA (.loc ln) (.int 0) s' = some (.str n0, s') := fun s' g => by rw [dIxA_loc g]; simp
  have m1 : dIxA (.loc ln) (.int 1) s = some (.str n1, s) := by rw [dIxA_loc h.hn]; simp
  have m0s := m0 s h.hn
  by_cases c1 : y.a = n1
  · by_cases c2 : y.b = n0
    · by_cases c3 : (wv (Tof first last deeds ents) y).getD 0 + (wv (Tof first last deeds ents) x).getD 0 = 0
      · refine .inr ?_
        obtain ⟨s1, ws, e1, ch, hl, p1, k1⟩ := walk_spec h.hp (fun x hx => (h.hM x).mp hx) h.tok (by have := h.hz; omega) h.hs h.ns n0 (most := 1 + most / 2) (by omega)
        have wc : Chain (Tof first last deeds ents) n0 (x :: y :: ws) := ⟨xa, sx, by rw [c1, xb], sy, by rw [c2]; exact ch⟩
        have ax : AX c p lt first last deeds ents n0 (x :: y :: ws) s1 := ⟨p1, h.b, k1.get h.ht h.nt.1 h.nt.2, h.tok, h.nt, wc, by simp; omega⟩
        obtain ⟨s2, e2, p2, k2⟩ := asked_spec ax
        obtain ⟨s3, e3, p3, k3⟩ := lplain_spec p2 first last h.he h.hd h.b.h1 (.tup ((x :: y :: ws).map stD))
        have ad : dAdd (.tup [stD x, stD y]) (.tup (ws.map stD)) s1 = some (.tup ((x :: y :: ws).map stD), s1) := by rw [dAdd_tup (by simp; omega)]; rfl
        have m01 := m0 s1 (k1.get h.hn h.nn.1 h.nn.2)
        have dd := fun s => dDiv_int (most : Int) 2 s ⟨by omega, by omega⟩
        have ec : ((1 + most / 2 : Nat) : Int) = 1 + (most : Int) / 2 := by omega
        rw [ec] at e1
        refine ⟨s3, ?_⟩
        generalize (x :: y :: ws).map stD = w2 at *
        generalize ws.map stD = wm at *
        generalize bookD first last deeds ents = B at *
        generalize stD x = xd at *
        generalize stD y = yd at *
        generalize (wv (Tof first last deeds ents) y).getD 0 = vy at *
        generalize (wv (Tof first last deeds ents) x).getD 0 = vx at *
        rw [c1] at y0
        rw [c2] at y1
        simp [bl_law_1, lEnv, y0, y1, m0s, m1, gy, gx, c3, dd, e1, ad, m01, e2, e3]
      · refine .inl ⟨fun q => c3 q.2.2, ?_⟩
        generalize bookD first last deeds ents = B at *
        generalize stD x = xd at *
        generalize stD y = yd at *
        generalize (wv (Tof first last deeds ents) y).getD 0 = vy at *
        generalize (wv (Tof first last deeds ents) x).getD 0 = vx at *
        rw [c1] at y0
        rw [c2] at y1
        simp [bl_law_1, lEnv, y0, y1, m0s, m1, gy, gx, c3]
    · refine .inl ⟨fun q => c2 q.2.1, ?_⟩
      generalize bookD first last deeds ents = B at *
      generalize stD x = xd at *
      generalize stD y = yd at *
      rw [c1] at y0
      simp [bl_law_1, lEnv, y0, y1, m0s, m1, c2]
  · refine .inl ⟨fun q => c1 q.1, ?_⟩
    generalize bookD first last deeds ents = B at *
    generalize stD x = xd at *
    generalize stD y = yd at *
    simp [bl_law_1, lEnv, y0, y1, m0s, m1, c1]
end
end Law
namespace Law
open PySem Mi
section
variable {c p ln lt ls lh : Nat} {first last : Int} {deeds : List Str} {ents : List (Str × Rec)} {n0 n1 : Str} {nr : List Str} {M H : List St} {s : Store}
def Back (T : Tb) (n0 n1 : Str) (x y : St) : Prop := y.a = n1 ∧ y.b = n0 ∧ (wv T y).getD 0 + (wv T x).getD 0 = 0
theorem find2 (h : LX c p ln lt ls lh first last deeds ents n0 n1 nr M H s) {x : St} (hx : x ∈ H) {most many : Nat} (hm : most ≤ 100) (v0 : D) (o3 : Option D) (nodes start : D) (o13 o14 o15 : Option D) :
    ((∀ y ∈ M, ¬ Back (Tof first last deeds ents) n0 n1 x y) ∧ ∃ b13 b14 b15, bl_law_2 (lEnv v0 p many o3 most ln (bookD first last deeds ents) lt ls nodes start lh [some (stD x), o13, o14, o15]) s = .nx (lEnv v0 p many o3 most ln (bookD first last deeds ents) lt ls nodes start lh [some (stD x), b13, b14, b15]) s) ∨
    Yes (bl_law_2 (lEnv v0 p many o3 most ln (bookD first last deeds ents) lt ls nodes start lh [some (stD x), o13, o14, o15]) s) := by
  have q := forL_at (gd := fun z => z[ls]? = some (Cell.lst (M.map stD))) (g := gN 13) (b := bl_law_1) (M.map stD)
    (fun k env s' => s' = s ∧ (∃ o13 o14 o15, env = lEnv v0 p many o3 most ln (bookD first last deeds ents) lt ls nodes start lh [some (stD x), o13, o14, o15]) ∧ ∀ j y, j < k → M[j]? = some y → ¬ Back (Tof first last deeds ents) n0 n1 x y)
    (fun r => ((∀ y ∈ M, ¬ Back (Tof first last deeds ents) n0 n1 x y) ∧ ∃ o13 o14 o15, r = .nx (lEnv v0 p many o3 most ln (bookD first last deeds ents) lt ls nodes start lh [some (stD x), o13, o14, o15]) s) ∨ Yes r)
    (fun _ _ _ ⟨e, _⟩ => by rw [e]; exact h.hs)
    (fun k d env s' hk ⟨hs', ⟨o13, o14, o15, he⟩, hj⟩ => by
      subst he hs'
      obtain ⟨y, hy, rfl⟩ := map_get hk
      rw [turn_gN]
      show Turns _ _ (bl_law_1 (lEnv v0 p many o3 most ln (bookD first last deeds ents) lt ls nodes start lh [some (stD x), some (stD y), o14, o15]) s')
      rcases find1 h hx (List.mem_of_getElem? hy) (many := many) hm v0 o3 nodes start o14 o15 with ⟨nb, e⟩ | ⟨s2, e⟩
      · rw [e]
        refine ⟨rfl, ⟨_, _, _, rfl⟩, fun j z hjk hz => ?_⟩
        rcases Nat.lt_or_ge j k with u | u
        · exact hj j z u hz
        · have : j = k := by omega
          subst this
          rw [hy] at hz
          cases hz
          exact nb
      · rw [e]
        exact .inr ⟨s2, rfl⟩)
    (fun env s' ⟨hs', ⟨o13, o14, o15, he⟩, hj⟩ => by
      subst he hs'
      rw [List.length_map] at hj
      refine .inl ⟨fun y hy => ?_, _, _, _, rfl⟩
      obtain ⟨j, hjl, e⟩ := List.mem_iff_getElem.mp hy
      exact hj j y hjl (by rw [List.getElem?_eq_getElem hjl, e]))
    (env := lEnv v0 p many o3 most ln (bookD first last deeds ents) lt ls nodes start lh [some (stD x), o13, o14, o15]) (s := s) ⟨rfl, ⟨_, _, _, rfl⟩, fun j y hj => absurd hj (Nat.not_lt_zero j)⟩
  have e : bl_law_2 (lEnv v0 p many o3 most ln (bookD first last deeds ents) lt ls nodes start lh [some (stD x), o13, o14, o15]) s = forL (fun z => z[ls]? = some (Cell.lst (M.map stD))) (gN 13) bl_law_1 (M.map stD) (lEnv v0 p many o3 most ln (bookD first last deeds ents) lt ls nodes start lh [some (stD x), o13, o14, o15]) s := by
    have hs := h.hs
    clear q
    generalize bookD first last deeds ents = B at *
    generalize M.map stD = md at *
    generalize stD x = xd at *
    simp [bl_law_2, lEnv, hs]
  rw [e]
  exact q
theorem search_spec (h : LX c p ln lt ls lh first last deeds ents n0 n1 nr M H s) {x0 y0 : St} (hx0 : x0 ∈ H) (hy0 : y0 ∈ M) (hb : Back (Tof first last deeds ents) n0 n1 x0 y0) {most many : Nat} (hm : most ≤ 100) (v0 : D) (o3 : Option D) (nodes start : D) (o12 o13 o14 o15 : Option D) :
    ∃ s', forL (fun z => z[lh]? = some (Cell.lst (H.map stD))) (gN 12) bl_law_2 (H.map stD) (lEnv v0 p many o3 most ln (bookD first last deeds ents) lt ls nodes start lh [o12, o13, o14, o15]) s = .rt (.bl true) s' := by
  refine forL_at (gd := fun z => z[lh]? = some (Cell.lst (H.map stD))) (g := gN 12) (b := bl_law_2) (H.map stD)
    (fun k env s' => s' = s ∧ (∃ o12 o13 o14 o15, env = lEnv v0 p many o3 most ln (bookD first last deeds ents) lt ls nodes start lh [o12, o13, o14, o15]) ∧ ∀ j x, j < k → H[j]? = some x → x ≠ x0)
    (fun r => ∃ s', r = .rt (.bl true) s')
    (fun _ _ _ ⟨e, _⟩ => by rw [e]; exact h.hh)
    (fun k d env s' hk ⟨hs', ⟨o12, o13, o14, o15, he⟩, hj⟩ => ?_)
    (fun env s' ⟨hs', _, hj⟩ => ?_) ⟨rfl, ⟨_, _, _, _, rfl⟩, fun j y hj => absurd hj (Nat.not_lt_zero j)⟩
  · subst he hs'
    obtain ⟨x, hx, rfl⟩ := map_get hk
    rw [turn_gN]
    show Turns _ _ (bl_law_2 (lEnv v0 p many o3 most ln (bookD first last deeds ents) lt ls nodes start lh [some (stD x), o13, o14, o15]) s')
    rcases find2 h (List.mem_of_getElem? hx) (many := many) hm v0 o3 nodes start o13 o14 o15 with ⟨nb, b13, b14, b15, e⟩ | ⟨s2, e⟩
    · rw [e]
      refine ⟨rfl, ⟨_, _, _, _, rfl⟩, fun j z hjk hz => ?_⟩
      rcases Nat.lt_or_ge j k with u | u
      · exact hj j z u hz
      · have : j = k := by omega
        subst this
        rw [hx] at hz
        cases hz
        intro ez
        rw [ez] at nb
        exact nb y0 hy0 hb
    · rw [e]
      exact ⟨s2, rfl⟩
  · rw [List.length_map] at hj
    obtain ⟨j, hjl, e⟩ := List.mem_iff_getElem.mp hx0
    exact absurd rfl (hj j x0 hjl (by rw [List.getElem?_eq_getElem hjl, e]))
theorem ahead_spec {s : Store} {ln : Nat} (hn : s[ln]? = some (.lst ((n0 :: n1 :: nr).map D.str))) (hs : s[ls]? = some (.lst (M.map stD))) (hz : M.length ≤ 1000000) (o0 o1 o2 o3 o4 o6 o7 o8 o9 o10 o11 o12 o13 o14 o15 : Option D) :
    lcL (fun z => z[ls]? = some (Cell.lst (M.map stD))) (gN 15) lt_law_3 le_law_4 [o0, o1, o2, o3, o4, some (.loc ln), o6, o7, o8, o9, o10, o11, o12, o13, o14, o15] (M.map stD) [] s = .ok ((M.filter fun x => decide (x.a = n0 ∧ x.b = n1 ∧ 0 ≤ x.i)).map stD) s := by
  have m0 : dIxA (.loc ln) (.int 0) s = some (.str n0, s) := by rw [dIxA_loc hn]; simp
  have m1 : dIxA (.loc ln) (.int 1) s = some (.str n1, s) := by rw [dIxA_loc hn]; simp
  have w := lcL_fm (gd := fun z => z[ls]? = some (Cell.lst (M.map stD))) (g := gN 15) (t := lt_law_3) (e := le_law_4) (env := [o0, o1, o2, o3, o4, some (.loc ln), o6, o7, o8, o9, o10, o11, o12, o13, o14, o15]) (s := s) hs stD (fun x => if x.a = n0 ∧ x.b = n1 ∧ 0 ≤ x.i then some (stD x) else none) M [] (fun x _ => by
    have i0 := st0 x s
    have i1 := st1 x s
    have i2 := st2 x s
    by_cases c1 : x.a = n0
    · by_cases c2 : x.b = n1
      · by_cases c3 : 0 ≤ x.i
        · generalize stD x = sx at *
          simp [lt_law_3, le_law_4, i0, i1, i2, m0, m1, c1, c2, c3]
        · generalize stD x = sx at *
          simp [lt_law_3, le_law_4, i0, i1, i2, m0, m1, c1, c2, c3]
      · generalize stD x = sx at *
        simp [lt_law_3, le_law_4, i0, i1, i2, m0, m1, c1, c2]
    · generalize stD x = sx at *
      simp [lt_law_3, le_law_4, i0, i1, i2, m0, m1, c1]) (by simpa using hz)
  rw [w, List.nil_append]
  congr 1
  clear w hs hz
  induction M with
  | nil => rfl
  | cons x M ih =>
    by_cases cc : x.a = n0 ∧ x.b = n1 ∧ 0 ≤ x.i
    · simp [cc, ih]
    · simp [cc, ih]
end
end Law
namespace Law
open PySem Mi
noncomputable def b_rest : MS := (sSeq (sSet 5 (eCall m_d_law_deeds (aCons (eV 1) (aCons (eV 2) (aNil)))))
  (sSeq (sIf (tV (e2 dEq (eV 2) (eC (.int 0)))) (sSet 3 (eC (.int 0))) (sNil))
  (sSeq (sSet 6 (eCall m_d_law_book (aCons (eV 1) (aCons (eV 5) (aCons (eV 3) (aNil))))))
  (sSeq (sSet 7 (eCall m_d_law_table (aCons (eV 6) (aNil))))
  (sSeq (sSet 8 (eFn dSorted (aCons (eFn dListA (aCons (eV 7) (aNil))) (aNil))))
  (sSeq (sSet 9 (e2 dAdd (eTup (aCons (eC (.str "")) (aNil))) (e2 dIxA (eV 6) (eC (.int 2)))))
  (sSeq (sSet 10 (e2 dIxA (eV 9) (eCall m_d_law_draw (aCons (eV 1) (aCons (eFn dLen (aCons (eV 9) (aNil))) (aNil))))))
  (sSeq (sIf (tNot (tTru (eCall m_d_law_asked (aCons (eV 1) (aCons (eV 6) (aCons (eV 7) (aCons (eV 10) (aCons (eCall m_d_law_walk (aCons (eV 1) (aCons (eV 8) (aCons (eV 10) (aCons (eV 4) (aNil)))))) (aNil))))))))) (sRet (eC (.bl false))) (sNil))
  (sSeq (sIf (tV (e2 dGt (eV 2) (eC (.int 1)))) (sSeq (sSet 11 (eLc (iSeq (eV 8)) [15] (gN 15) (lt_law_3) (le_law_4)))
  (sSeq (sFor (iSeq (eV 11)) (gN 12) (bl_law_2))
  (sRet (eC (.bl false))))) (sNil))
  (sSeq (sIf (tV (e2 dEq (eV 2) (eC (.int 1)))) (sRet (eCall m_d_law_plain (aCons (eV 1) (aCons (eV 6) (aCons (eTup (aNil)) (aNil)))))) (sNil))
  (sRet (eAnd (e2 dIs (eCall m_is_walk (aCons (eV 6) (aCons (eC (.str "")) (aCons (eC (.str "")) (aCons (eC (.int 0)) (aCons (eTup (aNil)) (aNil))))))) (eC (.bl true))) (e2 dIs (eCall m_is_walk (aCons (eV 6) (aCons (eC (.str "")) (aCons (eC (.str "")) (aCons (eC (.int 1)) (aCons (eTup (aNil)) (aNil))))))) (eC (.bl false)))))))))))))))
theorem b_law_eq : b_law = sSeq (sSet 1 (eCall m_d_law_pool (aCons (eV 0) (aNil))))
  (sSeq (sSet 2 (eCall m_d_law_draw (aCons (eV 1) (aCons (eC (.int 5)) (aNil)))))
  (sSeq (sSet 3 (eCall m_d_law_draw (aCons (eV 1) (aCons (eC (.int 7)) (aNil)))))
  (sSeq (sSet 4 (eCall m_d_law_draw (aCons (eV 1) (aCons (eC (.int 9)) (aNil)))))
  (sSeq (sIf (tV (e2 dEq (eCall m_d_law_draw (aCons (eV 1) (aCons (eC (.int 7)) (aNil)))) (eC (.int 5)))) (sSeq (sSet 2 (e2 dAdd (eC (.int 11)) (eCall m_d_law_draw (aCons (eV 1) (aCons (eC (.int 30)) (aNil))))))
  (sSeq (sSet 3 (e2 dAdd (eC (.int 100)) (eCall m_d_law_draw (aCons (eV 1) (aCons (eC (.int 18)) (aNil))))))
  (sSet 4 (e2 dAdd (eC (.int 25)) (eCall m_d_law_draw (aCons (eV 1) (aCons (eC (.int 36)) (aNil)))))))) (sNil))
  b_rest)))) := rfl
theorem rest_true (v0 : D) {c p : Nat} {s : Store} (h : Pool c p s) {many ct most : Nat} (n1 : many ≤ 41) (c2 : ct ≤ 200) (m2 : most ≤ 100) : Yes (b_rest [some v0, some (.loc p), some (.int many), some (.int ct), some (.int most), none, none, none, none, none, none, none, none, none, none, none] s) := by
  unfold b_rest
  obtain ⟨ln, s1, nm, e1, g1, hl, nd, lln, p1, k1, hW⟩ := deeds_spec h n1
  have nn : ln ≠ p ∧ ln ≠ c := ⟨Nat.ne_of_gt (Nat.lt_of_lt_of_le h.lt.1 lln), Nat.ne_of_gt (Nat.lt_of_lt_of_le h.lt.2 lln)⟩
  refine st_set (d := .loc ln) (s' := s1) (by simp [e1]) ?_
  simp only [List.set_cons_succ, List.set_cons_zero]
  suffices q : ∀ ct : Nat, ct ≤ 200 → (many = 0 → ct = 0) → Yes (sSeq _ _ [some v0, some (.loc p), some (.int many), some (.int ct), some (.int most), some (.loc ln), none, none, none, none, none, none, none, none, none, none] s1) by
    by_cases cz : many = 0
    · refine st_yes (s' := s1) (env2 := [some v0, some (.loc p), some (.int many), some (.int (0 : Nat)), some (.int most), some (.loc ln), none, none, none, none, none, none, none, none, none, none]) (s2 := s1) (by simp [cz]) (by simp) (q 0 (by omega) fun _ => rfl)
    · have cz' : ¬ (many : Int) = 0 := by omega
      exact st_no (s' := s1) (by simp [cz]) (q ct c2 fun z => absurd z cz)
  intro ct c2 hct
  obtain ⟨s2, first, last, deeds, ents, e2, pm, b, he, p2, k2, cy⟩ := book_spec p1 g1 nn (by omega) (ct := ct) c2 (by omega)
  obtain ⟨B, hB⟩ : ∃ B, B = bookD first last deeds ents := ⟨_, rfl⟩
  refine st_set (d := bookD first last deeds ents) (s' := s2) (by generalize bookD first last deeds ents = B at *; simp [e2]) ?_
  simp only [List.set_cons_succ, List.set_cons_zero]
  have g2 := k2.get g1 nn.1 nn.2
  have e3 := table_spec first last deeds ents b.h1 b.h2 s2
  have x3 := Ext.mk s2 [Cell.dct (tblOf (allStp first last deeds ents))]
  have gt3 : (s2 ++ [Cell.dct (tblOf (allStp first last deeds ents))])[s2.length]? = some (.dct (Tof first last deeds ents)) := get_new _ _
  refine st_set (d := .loc s2.length) (s' := s2 ++ [Cell.dct (tblOf (allStp first last deeds ents))]) (by generalize bookD first last deeds ents = B at *; simp [e3]) ?_
  simp only [List.set_cons_succ, List.set_cons_zero]
  have hT : Tab (Tof first last deeds ents) := tab_of (allStp first last deeds ents)
  have tok : TOk (Tof first last deeds ents) := tok_of b fun x hx => allW_ok x (hW x (pm.mem_iff.mp hx))
  have p3 := Ext.pool x3 p2
  have g3 := x3.get g2
  have nt : s2.length ≠ p ∧ s2.length ≠ c := ⟨Nat.ne_of_gt p2.lt.1, Nat.ne_of_gt p2.lt.2⟩
  generalize s2 ++ [Cell.dct (tblOf (allStp first last deeds ents))] = s3 at *
  generalize s2.length = lt at *
  obtain ⟨M, hM, hMl, s4, e4, x4, e5⟩ := steps_spec hT gt3
  have hMz : M.length ≤ 4000 := by
    have := tbl_len (allStp first last deeds ents)
    have := all_len first last b
    have e : (Tof first last deeds ents).length = (tblOf (allStp first last deeds ents)).length := rfl
    omega
  have x5 := Ext.mk s4 [Cell.lst (M.map stD)]
  have gs5 := get_new s4 (.lst (M.map stD))
  have p4 := Ext.pool x4 p3
  have ns : s4.length ≠ p ∧ s4.length ≠ c := ⟨Nat.ne_of_gt p4.lt.1, Nat.ne_of_gt p4.lt.2⟩
  refine st_set (d := .loc s4.length) (s' := s4 ++ [Cell.lst (M.map stD)]) (by generalize bookD first last deeds ents = B at *; simp [e4, e5]) ?_
  simp only [List.set_cons_succ, List.set_cons_zero]
  have p5 := Ext.pool x5 p4
  have gt5 := x5.get (x4.get gt3)
  have g5 := x5.get (x4.get g3)
  generalize s4 ++ [Cell.lst (M.map stD)] = s5 at *
  generalize s4.length = ls at *
  have i2 : ∀ s, dIxA (bookD first last deeds ents) (.int 2) s = some (.tup (deeds.map D.str), s) := fun s => by unfold bookD; rw [dIxA_tup, ix2]
  have hd1 := b.h1
  have hdl := pm.length_eq
  have ad : ∀ s, dAdd (.tup [.str ""]) (.tup (deeds.map D.str)) s = some (.tup ((("" : Str) :: deeds).map D.str), s) := fun s => by rw [dAdd_tup (by simp; omega)]; rfl
  refine st_set (d := .tup ((("" : Str) :: deeds).map D.str)) (s' := s5) (by generalize bookD first last deeds ents = B at *; generalize (("" : Str) :: deeds).map D.str = d2 at *; generalize deeds.map D.str = dm at *; simp [i2, ad]) ?_
  simp only [List.set_cons_succ, List.set_cons_zero]
  have wl : ∀ s, dLen [.tup ((("" : Str) :: deeds).map D.str)] s = some (.int ((deeds.length : Int) + 1), s) := fun s => by simp
  obtain ⟨v, s6, e6, v0', v1, p6, k6⟩ := draw_spec p5 (many := (deeds.length : Int) + 1) (by omega) (by omega)
  obtain ⟨start, _, _, wst⟩ := ix_map (f := D.str) (xs := ("" : Str) :: deeds) (i := v) v0' (by simp; omega)
  refine st_set (d := .str start) (s' := s6) (by generalize bookD first last deeds ents = B at *; generalize (("" : Str) :: deeds).map D.str = d2 at *; simp [wl, e6, wst]) ?_
  simp only [List.set_cons_succ, List.set_cons_zero]
  have gt6 := k6.get gt5 nt.1 nt.2
  have g6 := k6.get g5 nn.1 nn.2
  have gs6 := k6.get gs5 ns.1 ns.2
  obtain ⟨s7, ws, e7, ch, hwl, p7, k7⟩ := walk_spec p6 (fun x hx => (hM x).mp hx) tok (by omega) gs6 ns start (most := most) (by omega)
  have ax : AX c p lt first last deeds ents start ws s7 := ⟨p7, b, k7.get gt6 nt.1 nt.2, tok, nt, ch, by omega⟩
  obtain ⟨s8, e8, p8, k8⟩ := asked_spec ax
  refine st_no (s' := s8) (by generalize bookD first last deeds ents = B at *; generalize ws.map stD = wm at *; generalize (("" : Str) :: deeds).map D.str = d2 at *; simp [e7, e8]) ?_
  have k78 := k7.trans k8
  have gt8 := k78.get gt6 nt.1 nt.2
  have g8 := k78.get g6 nn.1 nn.2
  have gs8 := k78.get gs6 ns.1 ns.2
  by_cases cm : 1 < many
  · have cm' : (1 : Int) < many := by omega
    obtain ⟨n0, n1', nr, hn⟩ : ∃ a b r, nm = a :: b :: r := by
      match nm, hl with
      | a :: b :: r, _ => exact ⟨a, b, r, rfl⟩
      | [a], hl => simp at hl; omega
      | [], hl => simp at hl; omega
    obtain ⟨w, cy1, cy2⟩ := cy n0 n1' nr hn
    obtain ⟨i, hi, wi⟩ := gap_wt (first := first) (last := last) (deeds := deeds) cy1
    obtain ⟨j, hj, wj⟩ := gap_wt (first := first) (last := last) (deeds := deeds) cy2
    rw [hn] at g8
    have e9 := ahead_spec (M := M) g8 gs8 (by omega) (some v0) (some (.loc p)) (some (.int many)) (some (.int ct)) (some (.int most)) (some (bookD first last deeds ents)) (some (.loc lt)) (some (.loc ls)) (some (.tup ((("" : Str) :: deeds).map D.str))) (some (.str start)) none none none none none
    obtain ⟨H, hH⟩ : ∃ H, H = M.filter fun x => decide (x.a = n0 ∧ x.b = n1' ∧ 0 ≤ x.i) := ⟨_, rfl⟩
    rw [← hH] at e9
    have x9 := Ext.mk s8 [Cell.lst (H.map stD)]
    have lx : LX c p ln lt ls s8.length first last deeds ents n0 n1' nr M H (s8 ++ [Cell.lst (H.map stD)]) :=
      ⟨Ext.pool x9 p8, b, he, by omega, x9.get gt8, x9.get g8, x9.get gs8, get_new _ _, hM, hMz, fun x => by rw [hH, List.mem_filter, decide_eq_true_iff], tok, nt, nn, ns⟩
    have hx0 : (⟨n0, n1', i⟩ : St) ∈ M := (hM _).mpr (by show (wt (Tof first last deeds ents) n0 n1' i).isSome = true; rw [wi]; rfl)
    have hy0 : (⟨n1', n0, j⟩ : St) ∈ M := (hM _).mpr (by show (wt (Tof first last deeds ents) n1' n0 j).isSome = true; rw [wj]; rfl)
    have hxH : (⟨n0, n1', i⟩ : St) ∈ H := (lx.hH _).mpr ⟨hx0, rfl, rfl, by show (0 : Int) ≤ (i : Nat); omega⟩
    have hb : Back (Tof first last deeds ents) n0 n1' ⟨n0, n1', i⟩ ⟨n1', n0, j⟩ := ⟨rfl, rfl, by
      show (wt (Tof first last deeds ents) n1' n0 j).getD 0 + (wt (Tof first last deeds ents) n0 n1' i).getD 0 = 0
      rw [wi, wj]
      show 0 - w + w = 0
      omega⟩
    obtain ⟨s10, e10⟩ := search_spec lx hxH hy0 hb (most := most) (many := many) m2 v0 (some (.int ct)) (.tup ((("" : Str) :: deeds).map D.str)) (.str start) none none none none
    refine st_out (s' := s8) (d := .bl true) (s2 := s10) (by simp [cm']) ?_ ⟨s10, rfl⟩
    refine st_set (P := fun r => r = RS.rt (D.bl true) s10) (d := .loc s8.length) (s' := s8 ++ [Cell.lst (H.map stD)]) ?_ ?_
    · clear e10
      generalize bookD first last deeds ents = B at *
      generalize (("" : Str) :: deeds).map D.str = d2 at *
      generalize M.map stD = md at *
      generalize H.map stD = hd at *
      simp [gs8, e9]
    · simp only [List.set_cons_succ, List.set_cons_zero]
      simp only [lEnv] at e10
      have gh := get_new s8 (.lst (H.map stD))
      generalize bookD first last deeds ents = B at *
      generalize (("" : Str) :: deeds).map D.str = d2 at *
      generalize M.map stD = md at *
      generalize H.map stD = hd at *
      generalize s8 ++ [Cell.lst hd] = s9 at *
      simp [gh, e10]
  · have cm' : ¬ (1 : Int) < many := by omega
    refine st_no (s' := s8) (by simp [cm']) ?_
    by_cases c1 : many = 1
    · obtain ⟨s9, e9, _, _⟩ := lplain_spec p8 first last he (by omega : 0 < deeds.length) hd1 (.tup [])
      refine st_out (s' := s8) (d := .bl true) (s2 := s9) (by simp [c1]) ?_ ⟨s9, rfl⟩
      generalize bookD first last deeds ents = B at *
      generalize (("" : Str) :: deeds).map D.str = d2 at *
      simp [e9]
    · have c1' : ¬ (many : Int) = 1 := by omega
      refine st_no (s' := s8) (by simp [c1']) ?_
      obtain ⟨s9, e9, x9⟩ := iswalk_spec first last b "" "" 0 (ws_wfs s8 [])
      obtain ⟨s10, e10, x10⟩ := iswalk_spec first last b "" "" 1 (ws_wfs s9 [])
      have v1 : walkB (Tof first last deeds ents) "" "" 0 (.tup (([] : List St).map stD)) = true := rfl
      have v2 : walkB (Tof first last deeds ents) "" "" 1 (.tup (([] : List St).map stD)) = false := rfl
      rw [v1] at e9
      rw [v2] at e10
      refine st_ret (d := .bl true) (s' := s10) ?_ ⟨s10, rfl⟩
      simp only [List.map_nil] at e9 e10
      generalize bookD first last deeds ents = B at *
      generalize (("" : Str) :: deeds).map D.str = d2 at *
      simp [e9, e10]
theorem law_true (ns : List Int) (hn : ns.length ≤ 63) : ∃ s, m_law [.fl (ns.map D.int)] [] = .ok (.bl true) s := by
  refine Yes.fn (N := 16) (n := 1) (b := b_law) ?_
  show Yes (b_law [some (.fl (ns.map D.int)), none, none, none, none, none, none, none, none, none, none, none, none, none, none, none] [])
  obtain ⟨c, p, s0, e0, p0⟩ := pool_spec ns hn
  rw [b_law_eq]
  generalize D.fl (ns.map D.int) = v0 at *
  refine st_set (d := .loc p) (s' := s0) (by simp [e0]) ?_
  simp only [List.set_cons_succ, List.set_cons_zero]
  obtain ⟨a, s1, e1, a0, a1, p1, k1⟩ := draw_spec p0 (many := 5) (by omega) (by omega)
  refine st_set (d := .int a) (s' := s1) (by simp [e1]) ?_
  simp only [List.set_cons_succ, List.set_cons_zero]
  obtain ⟨b, s2, e2, b0, b1, p2, k2⟩ := draw_spec p1 (many := 7) (by omega) (by omega)
  refine st_set (d := .int b) (s' := s2) (by simp [e2]) ?_
  simp only [List.set_cons_succ, List.set_cons_zero]
  obtain ⟨m, s3, e3, m0, m1, p3, k3⟩ := draw_spec p2 (many := 9) (by omega) (by omega)
  refine st_set (d := .int m) (s' := s3) (by simp [e3]) ?_
  simp only [List.set_cons_succ, List.set_cons_zero]
  obtain ⟨q, s4, e4, q0, q1, p4, k4⟩ := draw_spec p3 (many := 7) (by omega) (by omega)
  have fin : ∀ (a b m : Int) (s : Store), Pool c p s → 0 ≤ a → a ≤ 41 → 0 ≤ b → b ≤ 200 → 0 ≤ m → m ≤ 100 → Yes (b_rest [some v0, some (.loc p), some (.int a), some (.int b), some (.int m), none, none, none, none, none, none, none, none, none, none, none] s) := fun a b m s hp a0 a1 b0 b1 m0 m1 => by
    obtain ⟨an, rfl⟩ := Int.eq_ofNat_of_zero_le a0
    obtain ⟨bn, rfl⟩ := Int.eq_ofNat_of_zero_le b0
    obtain ⟨mn, rfl⟩ := Int.eq_ofNat_of_zero_le m0
    exact rest_true v0 hp (by omega) (by omega) (by omega)
  by_cases cq : q = 5
  · obtain ⟨a', s5, e5, a0', a1', p5, k5⟩ := draw_spec p4 (many := 30) (by omega) (by omega)
    obtain ⟨b', s6, e6, b0', b1', p6, k6⟩ := draw_spec p5 (many := 18) (by omega) (by omega)
    obtain ⟨m', s7, e7, m0', m1', p7, k7⟩ := draw_spec p6 (many := 36) (by omega) (by omega)
    refine st_yes (s' := s4) (env2 := [some v0, some (.loc p), some (.int (11 + a')), some (.int (100 + b')), some (.int (25 + m')), none, none, none, none, none, none, none, none, none, none, none]) (s2 := s7) (by simp [e4, cq]) (by simp [e5, e6, e7]) ?_
    exact fin _ _ _ s7 p7 (by omega) (by omega) (by omega) (by omega) (by omega) (by omega)
  · refine st_no (s' := s4) (by simp [e4, cq]) ?_
    exact fin _ _ _ s4 p4 (by omega) (by omega) (by omega) (by omega) (by omega) (by omega)
end Law
namespace Law
open PySem PySem.Spec PyProof.Rows L2 Mi
theorem all_mk {P : Program} {w : World} {K : PySem.W.Frag} {h : Heap} {mg : Str → Option Value} {fa : Addr} (X : K.In h) (G : h.Ns mainGlobals mg) (hfa : mg "law" = some (.ref fa))
  {f_plain_record : Addr} {od_plain_record an_plain_record : Option Addr} {sl_plain_record : Array (Option Value)} {oc_plain_record kV_plain_record dc_plain_record pm_plain_record cd_plain_record ct_plain_record : Value} (a_plain_record : PySem.W.nsIn K mainGlobals "plain_record" = some (some (.ref f_plain_record))) (l_plain_record : K.lookup f_plain_record = some ⟨oc_plain_record, od_plain_record, .func (PySem.W.fnOf "plain_record" "plain_record" (defArgs s_plain_record) (defBody s_plain_record) (defScope s_plain_record) .none kV_plain_record dc_plain_record pm_plain_record an_plain_record cd_plain_record ct_plain_record), sl_plain_record⟩) (c_plain_record : PySem.W.codeIn K cd_plain_record "plain_record" = true) (k_plain_record : PySem.W.keepIn K (.ref f_plain_record) = true)
  {f_is_plain : Addr} {od_is_plain an_is_plain : Option Addr} {sl_is_plain : Array (Option Value)} {oc_is_plain kV_is_plain dc_is_plain pm_is_plain cd_is_plain ct_is_plain : Value} (a_is_plain : PySem.W.nsIn K mainGlobals "is_plain" = some (some (.ref f_is_plain))) (l_is_plain : K.lookup f_is_plain = some ⟨oc_is_plain, od_is_plain, .func (PySem.W.fnOf "is_plain" "is_plain" (defArgs s_is_plain) (defBody s_is_plain) (defScope s_is_plain) .none kV_is_plain dc_is_plain pm_is_plain an_is_plain cd_is_plain ct_is_plain), sl_is_plain⟩) (c_is_plain : PySem.W.codeIn K cd_is_plain "is_plain" = true) (k_is_plain : PySem.W.keepIn K (.ref f_is_plain) = true)
  {f_need_plain : Addr} {od_need_plain an_need_plain : Option Addr} {sl_need_plain : Array (Option Value)} {oc_need_plain kV_need_plain dc_need_plain pm_need_plain cd_need_plain ct_need_plain : Value} (a_need_plain : PySem.W.nsIn K mainGlobals "need_plain" = some (some (.ref f_need_plain))) (l_need_plain : K.lookup f_need_plain = some ⟨oc_need_plain, od_need_plain, .func (PySem.W.fnOf "need_plain" "need_plain" (defArgs s_need_plain) (defBody s_need_plain) (defScope s_need_plain) .none kV_need_plain dc_need_plain pm_need_plain an_need_plain cd_need_plain ct_need_plain), sl_need_plain⟩) (c_need_plain : PySem.W.codeIn K cd_need_plain "need_plain" = true) (k_need_plain : PySem.W.keepIn K (.ref f_need_plain) = true)
  {f_node_list : Addr} {od_node_list an_node_list : Option Addr} {sl_node_list : Array (Option Value)} {oc_node_list kV_node_list dc_node_list pm_node_list cd_node_list ct_node_list : Value} (a_node_list : PySem.W.nsIn K mainGlobals "node_list" = some (some (.ref f_node_list))) (l_node_list : K.lookup f_node_list = some ⟨oc_node_list, od_node_list, .func (PySem.W.fnOf "node_list" "node_list" (defArgs s_node_list) (defBody s_node_list) (defScope s_node_list) .none kV_node_list dc_node_list pm_node_list an_node_list cd_node_list ct_node_list), sl_node_list⟩) (c_node_list : PySem.W.codeIn K cd_node_list "node_list" = true) (k_node_list : PySem.W.keepIn K (.ref f_node_list) = true)
  {f_step_list : Addr} {od_step_list an_step_list : Option Addr} {sl_step_list : Array (Option Value)} {oc_step_list kV_step_list dc_step_list pm_step_list cd_step_list ct_step_list : Value} (a_step_list : PySem.W.nsIn K mainGlobals "step_list" = some (some (.ref f_step_list))) (l_step_list : K.lookup f_step_list = some ⟨oc_step_list, od_step_list, .func (PySem.W.fnOf "step_list" "step_list" (defArgs s_step_list) (defBody s_step_list) (defScope s_step_list) .none kV_step_list dc_step_list pm_step_list an_step_list cd_step_list ct_step_list), sl_step_list⟩) (c_step_list : PySem.W.codeIn K cd_step_list "step_list" = true) (k_step_list : PySem.W.keepIn K (.ref f_step_list) = true)
  {f_weight_table : Addr} {od_weight_table an_weight_table : Option Addr} {sl_weight_table : Array (Option Value)} {oc_weight_table kV_weight_table dc_weight_table pm_weight_table cd_weight_table ct_weight_table : Value} (a_weight_table : PySem.W.nsIn K mainGlobals "weight_table" = some (some (.ref f_weight_table))) (l_weight_table : K.lookup f_weight_table = some ⟨oc_weight_table, od_weight_table, .func (PySem.W.fnOf "weight_table" "weight_table" (defArgs s_weight_table) (defBody s_weight_table) (defScope s_weight_table) .none kV_weight_table dc_weight_table pm_weight_table an_weight_table cd_weight_table ct_weight_table), sl_weight_table⟩) (c_weight_table : PySem.W.codeIn K cd_weight_table "weight_table" = true) (k_weight_table : PySem.W.keepIn K (.ref f_weight_table) = true)
  {f_is_integer : Addr} {od_is_integer an_is_integer : Option Addr} {sl_is_integer : Array (Option Value)} {oc_is_integer kV_is_integer dc_is_integer pm_is_integer cd_is_integer ct_is_integer : Value} (a_is_integer : PySem.W.nsIn K mainGlobals "is_integer" = some (some (.ref f_is_integer))) (l_is_integer : K.lookup f_is_integer = some ⟨oc_is_integer, od_is_integer, .func (PySem.W.fnOf "is_integer" "is_integer" (defArgs s_is_integer) (defBody s_is_integer) (defScope s_is_integer) .none kV_is_integer dc_is_integer pm_is_integer an_is_integer cd_is_integer ct_is_integer), sl_is_integer⟩) (c_is_integer : PySem.W.codeIn K cd_is_integer "is_integer" = true) (k_is_integer : PySem.W.keepIn K (.ref f_is_integer) = true)
  {f_sum_of : Addr} {od_sum_of an_sum_of : Option Addr} {sl_sum_of : Array (Option Value)} {oc_sum_of kV_sum_of dc_sum_of pm_sum_of cd_sum_of ct_sum_of : Value} (a_sum_of : PySem.W.nsIn K mainGlobals "sum_of" = some (some (.ref f_sum_of))) (l_sum_of : K.lookup f_sum_of = some ⟨oc_sum_of, od_sum_of, .func (PySem.W.fnOf "sum_of" "sum_of" (defArgs s_sum_of) (defBody s_sum_of) (defScope s_sum_of) .none kV_sum_of dc_sum_of pm_sum_of an_sum_of cd_sum_of ct_sum_of), sl_sum_of⟩) (c_sum_of : PySem.W.codeIn K cd_sum_of "sum_of" = true) (k_sum_of : PySem.W.keepIn K (.ref f_sum_of) = true)
  {f_is_step : Addr} {od_is_step an_is_step : Option Addr} {sl_is_step : Array (Option Value)} {oc_is_step kV_is_step dc_is_step pm_is_step cd_is_step ct_is_step : Value} (a_is_step : PySem.W.nsIn K mainGlobals "is_step" = some (some (.ref f_is_step))) (l_is_step : K.lookup f_is_step = some ⟨oc_is_step, od_is_step, .func (PySem.W.fnOf "is_step" "is_step" (defArgs s_is_step) (defBody s_is_step) (defScope s_is_step) .none kV_is_step dc_is_step pm_is_step an_is_step cd_is_step ct_is_step), sl_is_step⟩) (c_is_step : PySem.W.codeIn K cd_is_step "is_step" = true) (k_is_step : PySem.W.keepIn K (.ref f_is_step) = true)
  {f_is_walk : Addr} {od_is_walk an_is_walk : Option Addr} {sl_is_walk : Array (Option Value)} {oc_is_walk kV_is_walk dc_is_walk pm_is_walk cd_is_walk ct_is_walk : Value} (a_is_walk : PySem.W.nsIn K mainGlobals "is_walk" = some (some (.ref f_is_walk))) (l_is_walk : K.lookup f_is_walk = some ⟨oc_is_walk, od_is_walk, .func (PySem.W.fnOf "is_walk" "is_walk" (defArgs s_is_walk) (defBody s_is_walk) (defScope s_is_walk) .none kV_is_walk dc_is_walk pm_is_walk an_is_walk cd_is_walk ct_is_walk), sl_is_walk⟩) (c_is_walk : PySem.W.codeIn K cd_is_walk "is_walk" = true) (k_is_walk : PySem.W.keepIn K (.ref f_is_walk) = true)
  {f_d_law_pool : Addr} {od_d_law_pool an_d_law_pool : Option Addr} {sl_d_law_pool : Array (Option Value)} {oc_d_law_pool kV_d_law_pool dc_d_law_pool pm_d_law_pool cd_d_law_pool ct_d_law_pool : Value} (a_d_law_pool : PySem.W.nsIn K mainGlobals "_law_pool" = some (some (.ref f_d_law_pool))) (l_d_law_pool : K.lookup f_d_law_pool = some ⟨oc_d_law_pool, od_d_law_pool, .func (PySem.W.fnOf "_law_pool" "_law_pool" (defArgs s_d_law_pool) (defBody s_d_law_pool) (defScope s_d_law_pool) .none kV_d_law_pool dc_d_law_pool pm_d_law_pool an_d_law_pool cd_d_law_pool ct_d_law_pool), sl_d_law_pool⟩) (c_d_law_pool : PySem.W.codeIn K cd_d_law_pool "_law_pool" = true) (k_d_law_pool : PySem.W.keepIn K (.ref f_d_law_pool) = true)
  {f_d_law_draw : Addr} {od_d_law_draw an_d_law_draw : Option Addr} {sl_d_law_draw : Array (Option Value)} {oc_d_law_draw kV_d_law_draw dc_d_law_draw pm_d_law_draw cd_d_law_draw ct_d_law_draw : Value} (a_d_law_draw : PySem.W.nsIn K mainGlobals "_law_draw" = some (some (.ref f_d_law_draw))) (l_d_law_draw : K.lookup f_d_law_draw = some ⟨oc_d_law_draw, od_d_law_draw, .func (PySem.W.fnOf "_law_draw" "_law_draw" (defArgs s_d_law_draw) (defBody s_d_law_draw) (defScope s_d_law_draw) .none kV_d_law_draw dc_d_law_draw pm_d_law_draw an_d_law_draw cd_d_law_draw ct_d_law_draw), sl_d_law_draw⟩) (c_d_law_draw : PySem.W.codeIn K cd_d_law_draw "_law_draw" = true) (k_d_law_draw : PySem.W.keepIn K (.ref f_d_law_draw) = true)
  {f_d_law_deeds : Addr} {od_d_law_deeds an_d_law_deeds : Option Addr} {sl_d_law_deeds : Array (Option Value)} {oc_d_law_deeds kV_d_law_deeds dc_d_law_deeds pm_d_law_deeds cd_d_law_deeds ct_d_law_deeds : Value} (a_d_law_deeds : PySem.W.nsIn K mainGlobals "_law_deeds" = some (some (.ref f_d_law_deeds))) (l_d_law_deeds : K.lookup f_d_law_deeds = some ⟨oc_d_law_deeds, od_d_law_deeds, .func (PySem.W.fnOf "_law_deeds" "_law_deeds" (defArgs s_d_law_deeds) (defBody s_d_law_deeds) (defScope s_d_law_deeds) .none kV_d_law_deeds dc_d_law_deeds pm_d_law_deeds an_d_law_deeds cd_d_law_deeds ct_d_law_deeds), sl_d_law_deeds⟩) (c_d_law_deeds : PySem.W.codeIn K cd_d_law_deeds "_law_deeds" = true) (k_d_law_deeds : PySem.W.keepIn K (.ref f_d_law_deeds) = true)
  {f_d_law_book : Addr} {od_d_law_book an_d_law_book : Option Addr} {sl_d_law_book : Array (Option Value)} {oc_d_law_book kV_d_law_book dc_d_law_book pm_d_law_book cd_d_law_book ct_d_law_book : Value} (a_d_law_book : PySem.W.nsIn K mainGlobals "_law_book" = some (some (.ref f_d_law_book))) (l_d_law_book : K.lookup f_d_law_book = some ⟨oc_d_law_book, od_d_law_book, .func (PySem.W.fnOf "_law_book" "_law_book" (defArgs s_d_law_book) (defBody s_d_law_book) (defScope s_d_law_book) .none kV_d_law_book dc_d_law_book pm_d_law_book an_d_law_book cd_d_law_book ct_d_law_book), sl_d_law_book⟩) (c_d_law_book : PySem.W.codeIn K cd_d_law_book "_law_book" = true) (k_d_law_book : PySem.W.keepIn K (.ref f_d_law_book) = true)
  {f_d_law_table : Addr} {od_d_law_table an_d_law_table : Option Addr} {sl_d_law_table : Array (Option Value)} {oc_d_law_table kV_d_law_table dc_d_law_table pm_d_law_table cd_d_law_table ct_d_law_table : Value} (a_d_law_table : PySem.W.nsIn K mainGlobals "_law_table" = some (some (.ref f_d_law_table))) (l_d_law_table : K.lookup f_d_law_table = some ⟨oc_d_law_table, od_d_law_table, .func (PySem.W.fnOf "_law_table" "_law_table" (defArgs s_d_law_table) (defBody s_d_law_table) (defScope s_d_law_table) .none kV_d_law_table dc_d_law_table pm_d_law_table an_d_law_table cd_d_law_table ct_d_law_table), sl_d_law_table⟩) (c_d_law_table : PySem.W.codeIn K cd_d_law_table "_law_table" = true) (k_d_law_table : PySem.W.keepIn K (.ref f_d_law_table) = true)
  {f_d_law_is : Addr} {od_d_law_is an_d_law_is : Option Addr} {sl_d_law_is : Array (Option Value)} {oc_d_law_is kV_d_law_is dc_d_law_is pm_d_law_is cd_d_law_is ct_d_law_is : Value} (a_d_law_is : PySem.W.nsIn K mainGlobals "_law_is" = some (some (.ref f_d_law_is))) (l_d_law_is : K.lookup f_d_law_is = some ⟨oc_d_law_is, od_d_law_is, .func (PySem.W.fnOf "_law_is" "_law_is" (defArgs s_d_law_is) (defBody s_d_law_is) (defScope s_d_law_is) .none kV_d_law_is dc_d_law_is pm_d_law_is an_d_law_is cd_d_law_is ct_d_law_is), sl_d_law_is⟩) (c_d_law_is : PySem.W.codeIn K cd_d_law_is "_law_is" = true) (k_d_law_is : PySem.W.keepIn K (.ref f_d_law_is) = true)
  {f_d_law_walk : Addr} {od_d_law_walk an_d_law_walk : Option Addr} {sl_d_law_walk : Array (Option Value)} {oc_d_law_walk kV_d_law_walk dc_d_law_walk pm_d_law_walk cd_d_law_walk ct_d_law_walk : Value} (a_d_law_walk : PySem.W.nsIn K mainGlobals "_law_walk" = some (some (.ref f_d_law_walk))) (l_d_law_walk : K.lookup f_d_law_walk = some ⟨oc_d_law_walk, od_d_law_walk, .func (PySem.W.fnOf "_law_walk" "_law_walk" (defArgs s_d_law_walk) (defBody s_d_law_walk) (defScope s_d_law_walk) .none kV_d_law_walk dc_d_law_walk pm_d_law_walk an_d_law_walk cd_d_law_walk ct_d_law_walk), sl_d_law_walk⟩) (c_d_law_walk : PySem.W.codeIn K cd_d_law_walk "_law_walk" = true) (k_d_law_walk : PySem.W.keepIn K (.ref f_d_law_walk) = true)
  {f_d_law_total : Addr} {od_d_law_total an_d_law_total : Option Addr} {sl_d_law_total : Array (Option Value)} {oc_d_law_total kV_d_law_total dc_d_law_total pm_d_law_total cd_d_law_total ct_d_law_total : Value} (a_d_law_total : PySem.W.nsIn K mainGlobals "_law_total" = some (some (.ref f_d_law_total))) (l_d_law_total : K.lookup f_d_law_total = some ⟨oc_d_law_total, od_d_law_total, .func (PySem.W.fnOf "_law_total" "_law_total" (defArgs s_d_law_total) (defBody s_d_law_total) (defScope s_d_law_total) .none kV_d_law_total dc_d_law_total pm_d_law_total an_d_law_total cd_d_law_total ct_d_law_total), sl_d_law_total⟩) (c_d_law_total : PySem.W.codeIn K cd_d_law_total "_law_total" = true) (k_d_law_total : PySem.W.keepIn K (.ref f_d_law_total) = true)
  {f_d_law_told : Addr} {od_d_law_told an_d_law_told : Option Addr} {sl_d_law_told : Array (Option Value)} {oc_d_law_told kV_d_law_told dc_d_law_told pm_d_law_told cd_d_law_told ct_d_law_told : Value} (a_d_law_told : PySem.W.nsIn K mainGlobals "_law_told" = some (some (.ref f_d_law_told))) (l_d_law_told : K.lookup f_d_law_told = some ⟨oc_d_law_told, od_d_law_told, .func (PySem.W.fnOf "_law_told" "_law_told" (defArgs s_d_law_told) (defBody s_d_law_told) (defScope s_d_law_told) .none kV_d_law_told dc_d_law_told pm_d_law_told an_d_law_told cd_d_law_told ct_d_law_told), sl_d_law_told⟩) (c_d_law_told : PySem.W.codeIn K cd_d_law_told "_law_told" = true) (k_d_law_told : PySem.W.keepIn K (.ref f_d_law_told) = true)
  {f_d_law_put : Addr} {od_d_law_put an_d_law_put : Option Addr} {sl_d_law_put : Array (Option Value)} {oc_d_law_put kV_d_law_put dc_d_law_put pm_d_law_put cd_d_law_put ct_d_law_put : Value} (a_d_law_put : PySem.W.nsIn K mainGlobals "_law_put" = some (some (.ref f_d_law_put))) (l_d_law_put : K.lookup f_d_law_put = some ⟨oc_d_law_put, od_d_law_put, .func (PySem.W.fnOf "_law_put" "_law_put" (defArgs s_d_law_put) (defBody s_d_law_put) (defScope s_d_law_put) .none kV_d_law_put dc_d_law_put pm_d_law_put an_d_law_put cd_d_law_put ct_d_law_put), sl_d_law_put⟩) (c_d_law_put : PySem.W.codeIn K cd_d_law_put "_law_put" = true) (k_d_law_put : PySem.W.keepIn K (.ref f_d_law_put) = true)
  {f_d_law_bent : Addr} {od_d_law_bent an_d_law_bent : Option Addr} {sl_d_law_bent : Array (Option Value)} {oc_d_law_bent kV_d_law_bent dc_d_law_bent pm_d_law_bent cd_d_law_bent ct_d_law_bent : Value} (a_d_law_bent : PySem.W.nsIn K mainGlobals "_law_bent" = some (some (.ref f_d_law_bent))) (l_d_law_bent : K.lookup f_d_law_bent = some ⟨oc_d_law_bent, od_d_law_bent, .func (PySem.W.fnOf "_law_bent" "_law_bent" (defArgs s_d_law_bent) (defBody s_d_law_bent) (defScope s_d_law_bent) .none kV_d_law_bent dc_d_law_bent pm_d_law_bent an_d_law_bent cd_d_law_bent ct_d_law_bent), sl_d_law_bent⟩) (c_d_law_bent : PySem.W.codeIn K cd_d_law_bent "_law_bent" = true) (k_d_law_bent : PySem.W.keepIn K (.ref f_d_law_bent) = true)
  {f_d_law_asked : Addr} {od_d_law_asked an_d_law_asked : Option Addr} {sl_d_law_asked : Array (Option Value)} {oc_d_law_asked kV_d_law_asked dc_d_law_asked pm_d_law_asked cd_d_law_asked ct_d_law_asked : Value} (a_d_law_asked : PySem.W.nsIn K mainGlobals "_law_asked" = some (some (.ref f_d_law_asked))) (l_d_law_asked : K.lookup f_d_law_asked = some ⟨oc_d_law_asked, od_d_law_asked, .func (PySem.W.fnOf "_law_asked" "_law_asked" (defArgs s_d_law_asked) (defBody s_d_law_asked) (defScope s_d_law_asked) .none kV_d_law_asked dc_d_law_asked pm_d_law_asked an_d_law_asked cd_d_law_asked ct_d_law_asked), sl_d_law_asked⟩) (c_d_law_asked : PySem.W.codeIn K cd_d_law_asked "_law_asked" = true) (k_d_law_asked : PySem.W.keepIn K (.ref f_d_law_asked) = true)
  {f_d_law_word : Addr} {od_d_law_word an_d_law_word : Option Addr} {sl_d_law_word : Array (Option Value)} {oc_d_law_word kV_d_law_word dc_d_law_word pm_d_law_word cd_d_law_word ct_d_law_word : Value} (a_d_law_word : PySem.W.nsIn K mainGlobals "_law_word" = some (some (.ref f_d_law_word))) (l_d_law_word : K.lookup f_d_law_word = some ⟨oc_d_law_word, od_d_law_word, .func (PySem.W.fnOf "_law_word" "_law_word" (defArgs s_d_law_word) (defBody s_d_law_word) (defScope s_d_law_word) .none kV_d_law_word dc_d_law_word pm_d_law_word an_d_law_word cd_d_law_word ct_d_law_word), sl_d_law_word⟩) (c_d_law_word : PySem.W.codeIn K cd_d_law_word "_law_word" = true) (k_d_law_word : PySem.W.keepIn K (.ref f_d_law_word) = true)
  {f_d_law_plain : Addr} {od_d_law_plain an_d_law_plain : Option Addr} {sl_d_law_plain : Array (Option Value)} {oc_d_law_plain kV_d_law_plain dc_d_law_plain pm_d_law_plain cd_d_law_plain ct_d_law_plain : Value} (a_d_law_plain : PySem.W.nsIn K mainGlobals "_law_plain" = some (some (.ref f_d_law_plain))) (l_d_law_plain : K.lookup f_d_law_plain = some ⟨oc_d_law_plain, od_d_law_plain, .func (PySem.W.fnOf "_law_plain" "_law_plain" (defArgs s_d_law_plain) (defBody s_d_law_plain) (defScope s_d_law_plain) .none kV_d_law_plain dc_d_law_plain pm_d_law_plain an_d_law_plain cd_d_law_plain ct_d_law_plain), sl_d_law_plain⟩) (c_d_law_plain : PySem.W.codeIn K cd_d_law_plain "_law_plain" = true) (k_d_law_plain : PySem.W.keepIn K (.ref f_d_law_plain) = true)
  {f_law : Addr} {od_law an_law : Option Addr} {sl_law : Array (Option Value)} {oc_law kV_law dc_law pm_law cd_law ct_law : Value} (a_law : PySem.W.nsIn K mainGlobals "law" = some (some (.ref f_law))) (l_law : K.lookup f_law = some ⟨oc_law, od_law, .func (PySem.W.fnOf "law" "law" (defArgs s_law) (defBody s_law) (defScope s_law) .none kV_law dc_law pm_law an_law cd_law ct_law), sl_law⟩) (c_law : PySem.W.codeIn K cd_law "law" = true) (k_law : PySem.W.keepIn K (.ref f_law) = true)
  {c_BadStep f_BadStep : Addr} {nm_BadStep q_BadStep : Str} {N_BadStep : Addr} {bs_BadStep bm_BadStep : List Value} {sn_BadStep : List Str} {sub_BadStep : List Value} {ab_BadStep : Bool} {col_BadStep : Option Bool} {dd_BadStep : Option Addr} {m0_BadStep m1_BadStep m2_BadStep m3_BadStep m5_BadStep : Option Value} {od_BadStep an_BadStep : Option Addr} {sl_BadStep : Array (Option Value)} {oc_BadStep kV_BadStep dc_BadStep pm_BadStep cd_BadStep ct_BadStep : Value} (aC_BadStep : PySem.W.nsIn K mainGlobals "BadStep" = some (some (.ref c_BadStep))) (xL_BadStep : K.lookup c_BadStep = some (excClassObj nm_BadStep q_BadStep c_BadStep N_BadStep bs_BadStep bm_BadStep true sn_BadStep sub_BadStep ab_BadStep col_BadStep dd_BadStep m0_BadStep m1_BadStep m2_BadStep m3_BadStep m5_BadStep "ValueError.__new__")) (bm_ok_BadStep : PySem.HandSPX.refsVE bm_BadStep = true) (sa_BadStep : PySem.W.findIn K (.ref c_BadStep) "__setattr__" = some (some (.builtin "object.__setattr__"))) (ga_BadStep : PySem.W.findIn K (.ref c_BadStep) "__getattribute__" = some (some (.builtin "BaseException.__getattribute__"))) (gg_BadStep : PySem.W.findIn K (.ref c_BadStep) "__getattr__" = some none) (no_BadStep_word : PySem.W.findIn K (.ref c_BadStep) "word" = some none) (iI_BadStep : PySem.W.findIn K (.ref c_BadStep) "__init__" = some (some (.ref f_BadStep))) (tF_BadStep : PySem.W.typeIn K (.ref f_BadStep) = some (.type "function")) (l_BadStep : K.lookup f_BadStep = some ⟨oc_BadStep, od_BadStep, .func (PySem.W.fnOf "__init__" "BadStep.__init__" (defArgs s_BadStep) (defBody s_BadStep) (defScope s_BadStep) .none kV_BadStep dc_BadStep pm_BadStep an_BadStep cd_BadStep ct_BadStep), sl_BadStep⟩) (cd_ok_BadStep : PySem.W.codeIn K cd_BadStep "BadStep.__init__" = true) (kI_BadStep : PySem.W.keepIn K (.ref f_BadStep) = true) (kC_BadStep : PySem.W.keepIn K (.ref c_BadStep) = true) (eC_BadStep : PySem.W.subIn K (.ref c_BadStep) (.type "BaseException") = some true) (tC_BadStep : PySem.W.typeIn K (.ref c_BadStep) = some (.type "type")) (hC_BadStep : PySem.W.hasDictIn K c_BadStep = true) (iC_BadStep : PySem.W.isClsIn K c_BadStep = true) (sC_BadStep : PySem.W.subIn K (.ref c_BadStep) (.ref c_BadStep) = some true)
  (z_all : PySem.W.nsIn K mainGlobals "all" = some none)
  (z_bool : PySem.W.nsIn K mainGlobals "bool" = some none)
  (z_enumerate : PySem.W.nsIn K mainGlobals "enumerate" = some none)
  (z_int : PySem.W.nsIn K mainGlobals "int" = some none)
  (z_isinstance : PySem.W.nsIn K mainGlobals "isinstance" = some none)
  (z_len : PySem.W.nsIn K mainGlobals "len" = some none)
  (z_list : PySem.W.nsIn K mainGlobals "list" = some none)
  (z_range : PySem.W.nsIn K mainGlobals "range" = some none)
  (z_sorted : PySem.W.nsIn K mainGlobals "sorted" = some none)
  (z_str : PySem.W.nsIn K mainGlobals "str" = some none)
  (z_sum : PySem.W.nsIn K mainGlobals "sum" = some none)
  (z_tuple : PySem.W.nsIn K mainGlobals "tuple" = some none) :
  ∃ fd : FuncData, (∀ (s : Shared) (v : Value), BindsTo s fd ⟨[v], []⟩ [("script", v)]) ∧ ∀ base : Heap, K.In base → base.Ns mainGlobals mg → FnOk P w K mg base (L2.CX P w) 7 fa fd ["script"] (spLaw K) := by
  cases hfa.symm.trans (PySem.W.mg_of X G a_law)
  have Z : ∃ Z : Fx K mg, Z.a_law = fa ∧ Z.d_law = PySem.W.fnOf "law" "law" (defArgs s_law) (defBody s_law) (defScope s_law) .none kV_law dc_law pm_law an_law cd_law ct_law := ⟨{
    a_plain_record := f_plain_record, d_plain_record := _, F_plain_record := fun_mk (st := s_plain_record) l_plain_record c_plain_record k_plain_record, g_plain_record := PySem.W.mg_of X G a_plain_record,
    a_is_plain := f_is_plain, d_is_plain := _, F_is_plain := fun_mk (st := s_is_plain) l_is_plain c_is_plain k_is_plain, g_is_plain := PySem.W.mg_of X G a_is_plain,
    a_need_plain := f_need_plain, d_need_plain := _, F_need_plain := fun_mk (st := s_need_plain) l_need_plain c_need_plain k_need_plain, g_need_plain := PySem.W.mg_of X G a_need_plain,
    a_node_list := f_node_list, d_node_list := _, F_node_list := fun_mk (st := s_node_list) l_node_list c_node_list k_node_list, g_node_list := PySem.W.mg_of X G a_node_list,
    a_step_list := f_step_list, d_step_list := _, F_step_list := fun_mk (st := s_step_list) l_step_list c_step_list k_step_list, g_step_list := PySem.W.mg_of X G a_step_list,
    a_weight_table := f_weight_table, d_weight_table := _, F_weight_table := fun_mk (st := s_weight_table) l_weight_table c_weight_table k_weight_table, g_weight_table := PySem.W.mg_of X G a_weight_table,
    a_is_integer := f_is_integer, d_is_integer := _, F_is_integer := fun_mk (st := s_is_integer) l_is_integer c_is_integer k_is_integer, g_is_integer := PySem.W.mg_of X G a_is_integer,
    a_sum_of := f_sum_of, d_sum_of := _, F_sum_of := fun_mk (st := s_sum_of) l_sum_of c_sum_of k_sum_of, g_sum_of := PySem.W.mg_of X G a_sum_of,
    a_is_step := f_is_step, d_is_step := _, F_is_step := fun_mk (st := s_is_step) l_is_step c_is_step k_is_step, g_is_step := PySem.W.mg_of X G a_is_step,
    a_is_walk := f_is_walk, d_is_walk := _, F_is_walk := fun_mk (st := s_is_walk) l_is_walk c_is_walk k_is_walk, g_is_walk := PySem.W.mg_of X G a_is_walk,
    a_d_law_pool := f_d_law_pool, d_d_law_pool := _, F_d_law_pool := fun_mk (st := s_d_law_pool) l_d_law_pool c_d_law_pool k_d_law_pool, g_d_law_pool := PySem.W.mg_of X G a_d_law_pool,
    a_d_law_draw := f_d_law_draw, d_d_law_draw := _, F_d_law_draw := fun_mk (st := s_d_law_draw) l_d_law_draw c_d_law_draw k_d_law_draw, g_d_law_draw := PySem.W.mg_of X G a_d_law_draw,
    a_d_law_deeds := f_d_law_deeds, d_d_law_deeds := _, F_d_law_deeds := fun_mk (st := s_d_law_deeds) l_d_law_deeds c_d_law_deeds k_d_law_deeds, g_d_law_deeds := PySem.W.mg_of X G a_d_law_deeds,
    a_d_law_book := f_d_law_book, d_d_law_book := _, F_d_law_book := fun_mk (st := s_d_law_book) l_d_law_book c_d_law_book k_d_law_book, g_d_law_book := PySem.W.mg_of X G a_d_law_book,
    a_d_law_table := f_d_law_table, d_d_law_table := _, F_d_law_table := fun_mk (st := s_d_law_table) l_d_law_table c_d_law_table k_d_law_table, g_d_law_table := PySem.W.mg_of X G a_d_law_table,
    a_d_law_is := f_d_law_is, d_d_law_is := _, F_d_law_is := fun_mk (st := s_d_law_is) l_d_law_is c_d_law_is k_d_law_is, g_d_law_is := PySem.W.mg_of X G a_d_law_is,
    a_d_law_walk := f_d_law_walk, d_d_law_walk := _, F_d_law_walk := fun_mk (st := s_d_law_walk) l_d_law_walk c_d_law_walk k_d_law_walk, g_d_law_walk := PySem.W.mg_of X G a_d_law_walk,
    a_d_law_total := f_d_law_total, d_d_law_total := _, F_d_law_total := fun_mk (st := s_d_law_total) l_d_law_total c_d_law_total k_d_law_total, g_d_law_total := PySem.W.mg_of X G a_d_law_total,
    a_d_law_told := f_d_law_told, d_d_law_told := _, F_d_law_told := fun_mk (st := s_d_law_told) l_d_law_told c_d_law_told k_d_law_told, g_d_law_told := PySem.W.mg_of X G a_d_law_told,
    a_d_law_put := f_d_law_put, d_d_law_put := _, F_d_law_put := fun_mk (st := s_d_law_put) l_d_law_put c_d_law_put k_d_law_put, g_d_law_put := PySem.W.mg_of X G a_d_law_put,
    a_d_law_bent := f_d_law_bent, d_d_law_bent := _, F_d_law_bent := fun_mk (st := s_d_law_bent) l_d_law_bent c_d_law_bent k_d_law_bent, g_d_law_bent := PySem.W.mg_of X G a_d_law_bent,
    a_d_law_asked := f_d_law_asked, d_d_law_asked := _, F_d_law_asked := fun_mk (st := s_d_law_asked) l_d_law_asked c_d_law_asked k_d_law_asked, g_d_law_asked := PySem.W.mg_of X G a_d_law_asked,
    a_d_law_word := f_d_law_word, d_d_law_word := _, F_d_law_word := fun_mk (st := s_d_law_word) l_d_law_word c_d_law_word k_d_law_word, g_d_law_word := PySem.W.mg_of X G a_d_law_word,
    a_d_law_plain := f_d_law_plain, d_d_law_plain := _, F_d_law_plain := fun_mk (st := s_d_law_plain) l_d_law_plain c_d_law_plain k_d_law_plain, g_d_law_plain := PySem.W.mg_of X G a_d_law_plain,
    a_law := fa, d_law := _, F_law := fun_mk (st := s_law) l_law c_law k_law, g_law := PySem.W.mg_of X G a_law,
    c_BadStep := c_BadStep, i_BadStep := f_BadStep, d_BadStep := _, gc_BadStep := PySem.W.mg_of X G aC_BadStep, T_BadStep := ⟨⟨_, _, _, _, _, _, _, _, _, _, _, _, _, _, _, xL_BadStep, bm_ok_BadStep⟩, sa_BadStep, eC_BadStep, tC_BadStep, kC_BadStep⟩, iC_BadStep := iI_BadStep, tI_BadStep := tF_BadStep, F_BadStep := fun_mk (st := s_BadStep) l_BadStep cd_ok_BadStep kI_BadStep, xf_BadStep := ⟨ga_BadStep, gg_BadStep, eC_BadStep, hC_BadStep⟩, te_BadStep := exm_own eC_BadStep iC_BadStep tC_BadStep sC_BadStep, no_BadStep_word := no_BadStep_word,
    b_all := PySem.W.mg_none_of X G z_all,
    b_bool := PySem.W.mg_none_of X G z_bool,
    b_enumerate := PySem.W.mg_none_of X G z_enumerate,
    b_int := PySem.W.mg_none_of X G z_int,
    b_isinstance := PySem.W.mg_none_of X G z_isinstance,
    b_len := PySem.W.mg_none_of X G z_len,
    b_list := PySem.W.mg_none_of X G z_list,
    b_range := PySem.W.mg_none_of X G z_range,
    b_sorted := PySem.W.mg_none_of X G z_sorted,
    b_str := PySem.W.mg_none_of X G z_str,
    b_sum := PySem.W.mg_none_of X G z_sum,
    b_tuple := PySem.W.mg_none_of X G z_tuple
  }, rfl, rfl⟩
  obtain ⟨Z, e1, e2⟩ := Z
  rw [← e1]
  exact ⟨Z.d_law, fun s v => e2 ▸ .of_eq rfl, fun base _ _ => FnOk.imp (ok_law Z) (law_imp law_true)⟩
end Law
open PySem PySem.W PyProof.Rows
set_option maxHeartbeats 0 in
theorem PySem.Challenge.cw_beforeinall_k26_walks_judged_holds : PySem.Challenge.rw_beforeinall_k26_walks_judged.Holds := by
  w_on; o_law; k_head; (case hw => w_witness2)
  k_fill
  refine L2.walk_of (l := PySem.Challenge.rw_beforeinall_k26_walks_judged) (n := 63) (k := 7) (x := "script") (CX := fun w => L2.CX PySem.Challenge.rw_beforeinall_k26_walks_judged.prog w) (sp := fun w => Mi.spLaw _) rfl (by decide) rfl ⟨rfl, by decide, by decide⟩ (fun w h Y => PySem.W.kIn_of Y) ?F (fun _ _ a ns hl hO hS => ⟨a, ns, rfl, hS, hl, hO, fun _ => rfl⟩) (fun _ _ _ _ _ h => Mi.cx_none h)
  case F =>
    intro w mg fa h KX G hmg
    refine' Law.all_mk KX G hmg ?a_plain_record ?l_plain_record ?c_plain_record ?k_plain_record ?a_is_plain ?l_is_plain ?c_is_plain ?k_is_plain ?a_need_plain ?l_need_plain ?c_need_plain ?k_need_plain ?a_node_list ?l_node_list ?c_node_list ?k_node_list ?a_step_list ?l_step_list ?c_step_list ?k_step_list ?a_weight_table ?l_weight_table ?c_weight_table ?k_weight_table ?a_is_integer ?l_is_integer ?c_is_integer ?k_is_integer ?a_sum_of ?l_sum_of ?c_sum_of ?k_sum_of ?a_is_step ?l_is_step ?c_is_step ?k_is_step ?a_is_walk ?l_is_walk ?c_is_walk ?k_is_walk ?a_d_law_pool ?l_d_law_pool ?c_d_law_pool ?k_d_law_pool ?a_d_law_draw ?l_d_law_draw ?c_d_law_draw ?k_d_law_draw ?a_d_law_deeds ?l_d_law_deeds ?c_d_law_deeds ?k_d_law_deeds ?a_d_law_book ?l_d_law_book ?c_d_law_book ?k_d_law_book ?a_d_law_table ?l_d_law_table ?c_d_law_table ?k_d_law_table ?a_d_law_is ?l_d_law_is ?c_d_law_is ?k_d_law_is ?a_d_law_walk ?l_d_law_walk ?c_d_law_walk ?k_d_law_walk ?a_d_law_total ?l_d_law_total ?c_d_law_total ?k_d_law_total ?a_d_law_told ?l_d_law_told ?c_d_law_told ?k_d_law_told ?a_d_law_put ?l_d_law_put ?c_d_law_put ?k_d_law_put ?a_d_law_bent ?l_d_law_bent ?c_d_law_bent ?k_d_law_bent ?a_d_law_asked ?l_d_law_asked ?c_d_law_asked ?k_d_law_asked ?a_d_law_word ?l_d_law_word ?c_d_law_word ?k_d_law_word ?a_d_law_plain ?l_d_law_plain ?c_d_law_plain ?k_d_law_plain ?a_law ?l_law ?c_law ?k_law ?aC_BadStep ?xL_BadStep ?bm_ok_BadStep ?sa_BadStep ?ga_BadStep ?gg_BadStep ?no_BadStep_word ?iI_BadStep ?tF_BadStep ?l_BadStep ?cd_ok_BadStep ?kI_BadStep ?kC_BadStep ?eC_BadStep ?tC_BadStep ?hC_BadStep ?iC_BadStep ?sC_BadStep ?z_all ?z_bool ?z_enumerate ?z_int ?z_isinstance ?z_len ?z_list ?z_range ?z_sorted ?z_str ?z_sum ?z_tuple
    (case a_plain_record => k_is); (case l_plain_record => k_is); (case c_plain_record => k_is); (case k_plain_record => k_is); (case a_is_plain => k_is); (case l_is_plain => k_is); (case c_is_plain => k_is); (case k_is_plain => k_is); (case a_need_plain => k_is); (case l_need_plain => k_is); (case c_need_plain => k_is); (case k_need_plain => k_is); (case a_node_list => k_is); (case l_node_list => k_is); (case c_node_list => k_is); (case k_node_list => k_is); (case a_step_list => k_is); (case l_step_list => k_is); (case c_step_list => k_is); (case k_step_list => k_is); (case a_weight_table => k_is); (case l_weight_table => k_is); (case c_weight_table => k_is); (case k_weight_table => k_is); (case a_is_integer => k_is); (case l_is_integer => k_is); (case c_is_integer => k_is); (case k_is_integer => k_is); (case a_sum_of => k_is); (case l_sum_of => k_is); (case c_sum_of => k_is); (case k_sum_of => k_is); (case a_is_step => k_is); (case l_is_step => k_is); (case c_is_step => k_is); (case k_is_step => k_is); (case a_is_walk => k_is); (case l_is_walk => k_is); (case c_is_walk => k_is); (case k_is_walk => k_is); (case a_d_law_pool => k_is); (case l_d_law_pool => k_is); (case c_d_law_pool => k_is); (case k_d_law_pool => k_is); (case a_d_law_draw => k_is); (case l_d_law_draw => k_is); (case c_d_law_draw => k_is); (case k_d_law_draw => k_is); (case a_d_law_deeds => k_is); (case l_d_law_deeds => k_is); (case c_d_law_deeds => k_is); (case k_d_law_deeds => k_is); (case a_d_law_book => k_is); (case l_d_law_book => k_is); (case c_d_law_book => k_is); (case k_d_law_book => k_is); (case a_d_law_table => k_is); (case l_d_law_table => k_is); (case c_d_law_table => k_is); (case k_d_law_table => k_is); (case a_d_law_is => k_is); (case l_d_law_is => k_is); (case c_d_law_is => k_is); (case k_d_law_is => k_is); (case a_d_law_walk => k_is); (case l_d_law_walk => k_is); (case c_d_law_walk => k_is); (case k_d_law_walk => k_is); (case a_d_law_total => k_is); (case l_d_law_total => k_is); (case c_d_law_total => k_is); (case k_d_law_total => k_is); (case a_d_law_told => k_is); (case l_d_law_told => k_is); (case c_d_law_told => k_is); (case k_d_law_told => k_is); (case a_d_law_put => k_is); (case l_d_law_put => k_is); (case c_d_law_put => k_is); (case k_d_law_put => k_is); (case a_d_law_bent => k_is); (case l_d_law_bent => k_is); (case c_d_law_bent => k_is); (case k_d_law_bent => k_is); (case a_d_law_asked => k_is); (case l_d_law_asked => k_is); (case c_d_law_asked => k_is); (case k_d_law_asked => k_is); (case a_d_law_word => k_is); (case l_d_law_word => k_is); (case c_d_law_word => k_is); (case k_d_law_word => k_is); (case a_d_law_plain => k_is); (case l_d_law_plain => k_is); (case c_d_law_plain => k_is); (case k_d_law_plain => k_is); (case a_law => k_is); (case l_law => k_is); (case c_law => k_is); (case k_law => k_is); (case aC_BadStep => k_is); (case xL_BadStep => k_is); (case bm_ok_BadStep => first | rfl | decide +kernel); (case sa_BadStep => k_is); (case ga_BadStep => k_is); (case gg_BadStep => k_is); (case no_BadStep_word => k_is); (case iI_BadStep => k_is); (case tF_BadStep => k_is); (case l_BadStep => k_is); (case cd_ok_BadStep => k_is); (case kI_BadStep => k_is); (case kC_BadStep => k_is); (case eC_BadStep => k_is); (case tC_BadStep => k_is); (case hC_BadStep => k_is); (case iC_BadStep => k_is); (case sC_BadStep => first | rfl | k_is); (case z_all => k_is); (case z_bool => k_is); (case z_enumerate => k_is); (case z_int => k_is); (case z_isinstance => k_is); (case z_len => k_is); (case z_list => k_is); (case z_range => k_is); (case z_sorted => k_is); (case z_str => k_is); (case z_sum => k_is); (case z_tuple => k_is)
