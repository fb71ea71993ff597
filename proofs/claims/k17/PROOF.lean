import PyProof.Rows.All
import HandS.ForMost
import HandS.ForExc
import HandS.IsInst
import HandS.TupAny
import HandS.Wide
import HandS.Walk
import KE.SortData
import HandS.Style
import HandS.Flt
import HandS.ExcInit
import HandS.ExcField
import KE.GoesEnum
import HandS.Deep
import HandS.More
import HandS.RaiseMore
import PyProof.AutoSeq1
import HandS.DictComp
import HandS.TryOnly
import HandS.Strs
import HandS.Conv
import HandS.Zip
import KE.KDictZip
import PySem.Challenge.RW_beforeinall_k17_bounds_of_records
set_option Elab.async false
set_option linter.all false
set_option maxRecDepth 100000
set_option maxHeartbeats 4000000
/-! Mi: mirrors of defs over pure values and a store; each combinator is held by the hand layer's judgements. -/
namespace Mi
open PySem PySem.Spec PyProof.Rows L2
/-! ### values, store, results -/
/-- a value: tuples are data; fl: a list that is never written; loc: a place of the store -/
inductive D where
  | non | bl (b : Bool) | int (i : Int) | str (x : Str)
  | tup (xs : List D) | fl (xs : List D) | loc (l : Nat) | exv (a dd : Addr) (c : Str) (fs : List (Str × D))
inductive Cell where
  | lst (xs : List D) | dic (kvs : List (Key × D)) | dct (kvs : List (List Key × D))
abbrev Store := List Cell
structure Ex where
  cls : Str
  fs : List (Str × D)
inductive R (α : Type) where
  | ok (a : α) (s : Store) | ex (e : Ex) (s : Store) | no
namespace R
def bind {α β : Type} (r : R α) (k : α → Store → R β) : R β := match r with
  | .ok a s => k a s
  | .ex e s => .ex e s
  | .no => .no
def of {α : Type} : Option (α × Store) → R α
  | some (a, s) => .ok a s
  | none => .no
@[simp] theorem bind_ok {α β : Type} (a : α) (s : Store) (k : α → Store → R β) : (R.ok a s).bind k = k a s := rfl
@[simp] theorem bind_ex {α β : Type} (e : Ex) (s : Store) (k : α → Store → R β) : (R.ex e s : R α).bind k = .ex e s := rfl
@[simp] theorem bind_no {α β : Type} (k : α → Store → R β) : (R.no : R α).bind k = .no := rfl
@[simp] theorem of_some {α : Type} (a : α) (s : Store) : R.of (some (a, s)) = .ok a s := rfl
@[simp] theorem of_none {α : Type} : (R.of none : R α) = .no := rfl
end R
/-- the slots of a def's names -/
abbrev Sl := List (Option D)
inductive RS where
  | nx (env : Sl) (s : Store) | rt (d : D) (s : Store) | bk (env : Sl) (s : Store) | ct (env : Sl) (s : Store) | ex (e : Ex) (env : Sl) (s : Store) | no
/-! ### the relation to the hand layer's heap -/
section
variable (K : PySem.W.Frag)
/-- a list that is never written: known to the object, or of the module -/
def FrL (H : Hp) (a : Addr) (vs : List V) : Prop :=
  (∃ o, H a = some (.frz o (.lst vs))) ∨
    ∃ (o : Obj) (its : Array Value) (n : Nat), K.lookup a = some o ∧ o.cls = .type "list" ∧ o.dict = none ∧ o.data = .seq its n ∧ its.size ≤ sizeLine ∧ Vals vs its.toList
theorem FrL.sq {K : PySem.W.Frag} {H : Hp} {a : Addr} {vs : List V} (h : FrL K H a vs) : SqL K H a vs := by
  rcases h with ⟨o, h⟩ | h
  · exact .inl (.inr ⟨o, h⟩)
  · exact .inr h
mutual
inductive Rep (m : List Addr) (H : Hp) : D → V → Prop where
  | non : Rep m H .non .non
  | bl (b : Bool) : Rep m H (.bl b) (.bl b)
  | int (i : Int) : Rep m H (.int i) (.int i)
  | str (x : Str) : Rep m H (.str x) (.str x)
  | tup {xs : List D} {a : Addr} {vs : List V} (h : H a = some (.tup vs)) (r : Reps m H xs vs) : Rep m H (.tup xs) (.ref a)
  | fl {xs : List D} {a : Addr} {vs : List V} (h : FrL K H a vs) (r : Reps m H xs vs) : Rep m H (.fl xs) (.ref a)
  | loc {l : Nat} {a : Addr} (h : m[l]? = some a) : Rep m H (.loc l) (.ref a)
  | exv {c : Str} {fs : List (Str × D)} {a dd : Addr} {vfs : List (Str × V)} (h : H dd = some (.xd vfs)) (n : dd ∉ m) (r : FldR m H fs vfs) : Rep m H (.exv a dd c fs) (.ref a)
inductive Reps (m : List Addr) (H : Hp) : List D → List V → Prop where
  | nil : Reps m H [] []
  | cons {x : D} {v : V} {xs : List D} {vs : List V} (h : Rep m H x v) (r : Reps m H xs vs) : Reps m H (x :: xs) (v :: vs)
inductive FldR (m : List Addr) (H : Hp) : List (Str × D) → List (Str × V) → Prop where
  | nil : FldR m H [] []
  | cons {f : Str} {x : D} {v : V} {xs : List (Str × D)} {vs : List (Str × V)} (h : Rep m H x v) (r : FldR m H xs vs) : FldR m H ((f, x) :: xs) ((f, v) :: vs)
end
inductive RepK {κ : Type} (m : List Addr) (H : Hp) : List (κ × D) → List (κ × V) → Prop where
  | nil : RepK m H [] []
  | cons {k : κ} {x : D} {v : V} {xs : List (κ × D)} {vs : List (κ × V)} (h : Rep K m H x v) (r : RepK m H xs vs) : RepK m H ((k, x) :: xs) ((k, v) :: vs)
def CellR (m : List Addr) (H : Hp) (a : Addr) : Cell → Prop
  | .lst xs => ∃ vs, H a = some (.lst vs) ∧ Reps K m H xs vs
  | .dic kvs => ∃ ws, H a = some (.dK ws) ∧ RepK K m H kvs ws
  | .dct kvs => ∃ ws, H a = some (.dT ws) ∧ RepK K m H kvs ws
structure Rel (m : List Addr) (H : Hp) (s : Store) : Prop where
  len : m.length = s.length
  nd : m.Nodup
  at_ : ∀ (l : Nat) (a : Addr) (c : Cell), m[l]? = some a → s[l]? = some c → CellR K m H a c
/-- later: what was there is there; tuples and the lists that are never written stand; what is no cell of ours stands -/
structure Le (m : List Addr) (H : Hp) (m' : List Addr) (H' : Hp) : Prop where
  pre : ∃ r, m' = m ++ r
  tup : ∀ a xs, SqT K H a xs → SqT K H' a xs
  frl : ∀ a xs, FrL K H a xs → FrL K H' a xs
  fr : ∀ b o, H b = some o → b ∉ m → H' b = some o
  nw : ∀ b, b ∈ m' → b ∈ m ∨ H b = none
  trk : ∀ a xs, H a = some (.tup xs) → H' a = some (.tup xs)
def RelE (m : List Addr) (H : Hp) (env : Sl) (σ : L2.St) : Prop :=
  env.length = σ.length ∧ ∀ (i : Nat) (d : D), env[i]? = some (some d) → ∃ v, σ[i]? = some (some v) ∧ Rep K m H d v
end
section
variable {K : PySem.W.Frag} {m m1 m2 : List Addr} {H H1 H2 : Hp} {s : Store} {a b p : Addr} {c : Cell}
theorem Le.refl : Le K m H m H := ⟨⟨[], by simp⟩, fun _ _ h => h, fun _ _ h => h, fun _ _ h _ => h, fun _ h => .inl h, fun _ _ h => h⟩
theorem Le.get (e : Le K m H m1 H1) {l : Nat} (h : m[l]? = some a) : m1[l]? = some a := by
  obtain ⟨r, rfl⟩ := e.pre
  rw [List.getElem?_append_left (by
    rcases Nat.lt_or_ge l m.length with q | q
    · exact q
    · rw [List.getElem?_eq_none q] at h; cases h)]
  exact h
theorem Le.trans (e : Le K m H m1 H1) (f : Le K m1 H1 m2 H2) : Le K m H m2 H2 := by
  refine ⟨?_, fun a xs h => f.tup a xs (e.tup a xs h), fun a xs h => f.frl a xs (e.frl a xs h), fun b o h n => ?_, fun b h => ?_, fun a xs h => f.trk a xs (e.trk a xs h)⟩
  · obtain ⟨r, rfl⟩ := e.pre
    obtain ⟨r2, rfl⟩ := f.pre
    exact ⟨r ++ r2, by simp⟩
  · refine f.fr b o (e.fr b o h n) fun z => ?_
    rcases e.nw b z with q | q
    · exact n q
    · rw [h] at q; cases q
  · by_cases z : b ∈ m
    · exact .inl z
    · rcases f.nw b h with q | q
      · exact e.nw b q
      · refine .inr ?_
        cases w : H b with
        | none => rfl
        | some o =>
          rw [e.fr b o w z] at q; cases q
mutual
theorem Rep.mono (e : Le K m H m1 H1) : ∀ {d : D} {v : V}, Rep K m H d v → Rep K m1 H1 d v
  | _, _, .non => .non
  | _, _, .bl b => .bl b
  | _, _, .int i => .int i
  | _, _, .str x => .str x
  | _, _, .tup h r => .tup (e.trk _ _ h) (Reps.mono e r)
  | _, _, .fl h r => .fl (e.frl _ _ h) (Reps.mono e r)
  | _, _, .loc h => .loc (e.get h)
  | _, _, .exv h n r => .exv (e.fr _ _ h n) (fun z => (e.nw _ z).elim n fun q => by rw [h] at q; cases q) (FldR.mono e r)
theorem Reps.mono (e : Le K m H m1 H1) : ∀ {ds : List D} {vs : List V}, Reps K m H ds vs → Reps K m1 H1 ds vs
  | _, _, .nil => .nil
  | _, _, .cons h r => .cons (Rep.mono e h) (Reps.mono e r)
theorem FldR.mono (e : Le K m H m1 H1) : ∀ {ds : List (Str × D)} {vs : List (Str × V)}, FldR K m H ds vs → FldR K m1 H1 ds vs
  | _, _, .nil => .nil
  | _, _, .cons h r => .cons (Rep.mono e h) (FldR.mono e r)
end
theorem RepK.mono {κ : Type} (e : Le K m H m1 H1) : ∀ {ds : List (κ × D)} {vs : List (κ × V)}, RepK K m H ds vs → RepK K m1 H1 ds vs
  | _, _, .nil => .nil
  | _, _, .cons h r => .cons (h.mono e) (RepK.mono e r)
theorem RelE.mono (e : Le K m H m1 H1) {env : Sl} {σ : L2.St} (h : RelE K m H env σ) : RelE K m1 H1 env σ :=
  ⟨h.1, fun i d q => let ⟨v, h1, h2⟩ := h.2 i d q; ⟨v, h1, h2.mono e⟩⟩
theorem Reps.length : ∀ {xs : List D} {vs : List V}, Reps K m H xs vs → xs.length = vs.length
  | _, _, .nil => rfl
  | _, _, .cons _ r => by simp [Reps.length r]
theorem Reps.get : ∀ {xs : List D} {vs : List V} {i : Nat} {x : D}, Reps K m H xs vs → xs[i]? = some x → ∃ v, vs[i]? = some v ∧ Rep K m H x v
  | _, _, _, _, .nil, e => by simp at e
  | _, _, 0, _, .cons h _, e => by simp at e; subst e; exact ⟨_, rfl, h⟩
  | _, _, i + 1, x, .cons _ r, e => by
    obtain ⟨v, h1, h2⟩ := Reps.get (i := i) (x := x) r (by simpa using e)
    exact ⟨v, by simpa using h1, h2⟩
theorem Reps.append : ∀ {xs ys : List D} {vs ws : List V}, Reps K m H xs vs → Reps K m H ys ws → Reps K m H (xs ++ ys) (vs ++ ws)
  | _, _, _, _, .nil, q => q
  | _, _, _, _, .cons h r, q => .cons h (Reps.append r q)
theorem Reps.take : ∀ {xs : List D} {vs : List V} (n : Nat), Reps K m H xs vs → Reps K m H (xs.take n) (vs.take n)
  | _, _, 0, _ => .nil
  | _, _, _ + 1, .nil => .nil
  | _, _, n + 1, .cons h r => .cons h (Reps.take n r)
theorem Reps.drop : ∀ {xs : List D} {vs : List V} (n : Nat), Reps K m H xs vs → Reps K m H (xs.drop n) (vs.drop n)
  | _, _, 0, r => r
  | _, _, _ + 1, .nil => .nil
  | _, _, n + 1, .cons _ r => Reps.drop n r
theorem Reps.set {x : D} {v : V} (h : Rep K m H x v) : ∀ {xs : List D} {vs : List V} (i : Nat), Reps K m H xs vs → Reps K m H (xs.set i x) (vs.set i v)
  | _, _, _, .nil => .nil
  | _, _, 0, .cons _ r => .cons h r
  | _, _, i + 1, .cons q r => .cons q (Reps.set h i r)
theorem Reps.dropLast : ∀ {xs : List D} {vs : List V}, Reps K m H xs vs → Reps K m H xs.dropLast vs.dropLast
  | _, _, .nil => .nil
  | _, _, .cons _ .nil => .nil
  | _, _, .cons h (.cons h2 r) => by
    rw [List.dropLast_cons₂, List.dropLast_cons₂]
    exact .cons h (Reps.dropLast (.cons h2 r))
theorem Reps.erase : ∀ {xs : List D} {vs : List V} (i : Nat), Reps K m H xs vs → Reps K m H (xs.eraseIdx i) (vs.eraseIdx i)
  | _, _, _, .nil => .nil
  | _, _, 0, .cons _ r => r
  | _, _, i + 1, .cons q r => .cons q (Reps.erase i r)
theorem Reps.reverse {xs : List D} {vs : List V} (h : Reps K m H xs vs) : Reps K m H xs.reverse vs.reverse := by
  induction xs generalizing vs with
  | nil => cases h; exact .nil
  | cons x xs ih =>
    cases h with
    | cons h r =>
      rw [List.reverse_cons, List.reverse_cons]
      exact (ih r).append (.cons h .nil)
theorem Reps.ints : ∀ {ns : List Int} {vs : List V}, Reps K m H (ns.map D.int) vs → vs = ns.map V.int
  | [], _, .nil => rfl
  | n :: ns, _, .cons h r => by
    cases h
    rw [List.map_cons, Reps.ints r]
theorem reps_ints (ns : List Int) : Reps K m H (ns.map D.int) (ns.map V.int) := by
  induction ns with
  | nil => exact .nil
  | cons n ns ih => exact .cons (.int n) ih
/-! ### changes of the heap -/
theorem Rel.lt (r : Rel K m H s) {l : Nat} (h : m[l]? = some a) : l < s.length := by
  rw [← r.len]
  rcases Nat.lt_or_ge l m.length with q | q
  · exact q
  · rw [List.getElem?_eq_none q] at h; cases h
theorem Rel.there (r : Rel K m H s) (h : b ∈ m) : (∃ vs, H b = some (.lst vs)) ∨ (∃ ws, H b = some (.dK ws)) ∨ ∃ ws, H b = some (.dT ws) := by
  obtain ⟨l, hl⟩ := List.getElem?_of_mem h
  have q := r.lt hl
  obtain ⟨c, hc⟩ : ∃ c, s[l]? = some c := ⟨s[l], by simp [q]⟩
  have x := r.at_ l b c hl hc
  cases c with
  | lst xs => obtain ⟨vs, e, _⟩ := x; exact .inl ⟨vs, e⟩
  | dic kvs => obtain ⟨ws, e, _⟩ := x; exact .inr (.inl ⟨ws, e⟩)
  | dct kvs => obtain ⟨ws, e, _⟩ := x; exact .inr (.inr ⟨ws, e⟩)
theorem Rel.has (r : Rel K m H s) (h : b ∈ m) : ∃ o, H b = some o ∧ (∀ xs, o ≠ .tup xs) ∧ ∀ u x, o ≠ .frz u x := by
  rcases r.there h with ⟨vs, e⟩ | ⟨ws, e⟩ | ⟨ws, e⟩
  · exact ⟨_, e, fun _ z => (by cases z), fun _ _ z => (by cases z)⟩
  · exact ⟨_, e, fun _ z => (by cases z), fun _ _ z => (by cases z)⟩
  · exact ⟨_, e, fun _ z => (by cases z), fun _ _ z => (by cases z)⟩
theorem Rel.new_notin (r : Rel K m H s) (h : H p = none) : p ∉ m := fun z => by
  obtain ⟨o, e, _⟩ := r.has z
  rw [h] at e; cases e
/-- any object laid at a free place, or written at a place that is neither tuple nor frozen -/
theorem le_upd {o : HO} (hp : ∀ u, H p = Option.some u → p ∈ m) (hm : ∀ u, H p = Option.some u → (∀ xs, u ≠ .tup xs) ∧ ∀ ob x, u ≠ .frz ob x) : Le K m H m (upd H p o) := by
  refine ⟨⟨[], by simp⟩, fun b xs h => ?_, fun b xs h => ?_, fun b u h n => ?_, fun b h => .inl h, fun b xs h => by rw [upd_ne (fun z => by subst z; exact (hm _ h).1 xs rfl)]; exact h⟩
  · rcases h with (h | ⟨ob, h⟩) | h
    · exact .inl (.inl (by rw [upd_ne (fun z => by subst z; exact (hm _ h).1 xs rfl)]; exact h))
    · exact .inl (.inr ⟨ob, by rw [upd_ne (fun z => by subst z; exact (hm _ h).2 _ _ rfl)]; exact h⟩)
    · exact .inr h
  · rcases h with ⟨ob, h⟩ | h
    · exact .inl ⟨ob, by rw [upd_ne (fun z => by subst z; exact (hm _ h).2 _ _ rfl)]; exact h⟩
    · exact .inr h
  · rw [upd_ne (fun z => by subst z; exact n (hp _ h))]; exact h
theorem le_new {o : HO} (hp : H p = none) : Le K m H m (upd H p o) :=
  le_upd (fun u h => by rw [hp] at h; cases h) (fun u h => by rw [hp] at h; cases h)
theorem le_put (r : Rel K m H s) (h : p ∈ m) {o : HO} : Le K m H m (upd H p o) :=
  le_upd (fun _ _ => h) (fun u e => by
    obtain ⟨o', e', q⟩ := r.has h
    rw [e] at e'; cases e'
    exact q)
theorem le_more (r : Rel K m H s) (hp : H p = none) {o : HO} : Le K m H (m ++ [p]) (upd H p o) := by
  have e : Le K m H m (upd H p o) := le_new hp
  refine ⟨⟨[p], rfl⟩, e.tup, e.frl, e.fr, fun b h => ?_, e.trk⟩
  rcases List.mem_append.mp h with q | q
  · exact .inl q
  · rw [List.mem_singleton.mp q]; exact .inr hp
theorem CellR.mono {m' : List Addr} {H' : Hp} (e : Le K m H m' H') (hs : H' a = H a) (h : CellR K m H a c) : CellR K m' H' a c := by
  cases c with
  | lst xs => obtain ⟨vs, h1, h2⟩ := h; exact ⟨vs, hs.trans h1, h2.mono e⟩
  | dic kvs => obtain ⟨ws, h1, h2⟩ := h; exact ⟨ws, hs.trans h1, h2.mono e⟩
  | dct kvs => obtain ⟨ws, h1, h2⟩ := h; exact ⟨ws, hs.trans h1, h2.mono e⟩
/-- an object that is no cell is laid -/
theorem Rel.tmp (r : Rel K m H s) (hp : H p = none) {o : HO} : Rel K m (upd H p o) s :=
  ⟨r.len, r.nd, fun l a c h1 h2 => (r.at_ l a c h1 h2).mono (le_new hp) (upd_ne fun z => by subst z; exact r.new_notin hp (List.mem_of_getElem? h1))⟩
theorem Rel.put (r : Rel K m H s) {l : Nat} (h : m[l]? = Option.some p) {o : HO} {c : Cell} (hc : CellR K m (upd H p o) p c) : Rel K m (upd H p o) (s.set l c) := by
  refine ⟨by rw [List.length_set]; exact r.len, r.nd, fun j b d h1 h2 => ?_⟩
  by_cases hj : j = l
  · subst hj
    rw [h] at h1; cases h1
    rw [List.getElem?_set_self (r.lt h)] at h2; cases h2
    exact hc
  · rw [List.getElem?_set_ne (Ne.symm hj)] at h2
    refine (r.at_ j b d h1 h2).mono (le_put r (List.mem_of_getElem? h)) (upd_ne fun z => hj ?_)
    subst z
    exact nd_ix r.nd h1 h
theorem Rel.new (r : Rel K m H s) (hp : H p = none) {o : HO} {c : Cell} (hc : CellR K (m ++ [p]) (upd H p o) p c) : Rel K (m ++ [p]) (upd H p o) (s ++ [c]) := by
  have hn := r.new_notin hp
  refine ⟨by simp [r.len], ?_, fun j b d h1 h2 => ?_⟩
  · rw [List.nodup_append]
    exact ⟨r.nd, by simp, fun x hx y hy => by rw [List.mem_singleton.mp hy]; exact fun z => hn (z ▸ hx)⟩
  · rcases Nat.lt_or_ge j m.length with q | q
    · rw [List.getElem?_append_left q] at h1
      rw [List.getElem?_append_left (by rw [← r.len]; exact q)] at h2
      exact (r.at_ j b d h1 h2).mono (le_more r hp) (upd_ne fun z => by subst z; exact hn (List.mem_of_getElem? h1))
    · rw [List.getElem?_append_right q] at h1
      rw [List.getElem?_append_right (by rw [← r.len]; exact q), ← r.len] at h2
      cases hk : j - m.length with
      | zero =>
        rw [hk] at h1 h2
        simp at h1 h2
        subst h1; subst h2
        exact hc
      | succ n => rw [hk] at h1; simp at h1
theorem len_get (r : Rel K m H s) : (m ++ [p])[s.length]? = some p := by
  rw [← r.len, List.getElem?_append_right (Nat.le_refl _)]; simp
/-- a new tuple -/
theorem rep_newtup {xs : List D} {vs : List V} (hp : H p = none) (h : Reps K m H xs vs) : Rep K m (upd H p (.tup vs)) (.tup xs) (.ref p) :=
  .tup upd_same (h.mono (le_new hp))
/-- a new list -/
theorem rel_newlist {xs : List D} {vs : List V} (r : Rel K m H s) (hp : H p = none) (h : Reps K m H xs vs) : Rel K (m ++ [p]) (upd H p (.lst vs)) (s ++ [.lst xs]) :=
  r.new hp ⟨vs, upd_same, h.mono (le_more r hp)⟩
theorem Rel.list (r : Rel K m H s) {l : Nat} {xs : List D} (h : m[l]? = Option.some a) (hs : s[l]? = Option.some (.lst xs)) : ∃ vs, H a = Option.some (.lst vs) ∧ Reps K m H xs vs := r.at_ l a _ h hs
end
end Mi
namespace Mi
open PySem PySem.Spec PyProof.Rows L2
/-! ### readings of mirrors -/
section
variable (K : PySem.W.Frag) (mg : Str → Option Value)
/-- an exception: its class, its own dict -/
def ExR (m : List Addr) (H : Hp) (e : Ex) (c : Value) (dd : Option Addr) : Prop :=
  mg e.cls = some c ∧ ((e.fs = [] ∧ dd = none) ∨ ∃ d vfs, dd = some d ∧ H d = some (.xd vfs) ∧ d ∉ m ∧ FldR K m H e.fs vfs)
/-- what a result is to bring about -/
def G {α β : Type} (ρ : List Addr → Hp → α → β → Prop) (W : WX) (σ : L2.St) (m : List Addr) (H : Hp) (Q : β → Hp → Prop) : R α → Prop
  | .ok a s => ∀ m' H' b, Le K m H m' H' → Rel K m' H' s → ρ m' H' a b → Q b H'
  | .ex e s => ∀ m' H' c dd, Le K m H m' H' → Rel K m' H' s → ExR K mg m' H' e c dd → W c dd σ H'
  | .no => False
def Tm {α β : Type} (ρ : List Addr → Hp → α → β → Prop) (W : WX) (f : Sl → Store → R α) : L2.St → Hp → (β → Hp → Prop) → Prop := fun σ H Q =>
  ∃ m env s, Rel K m H s ∧ RelE K m H env σ ∧ G K mg ρ W σ m H Q (f env s)
abbrev ME (α : Type) := Sl → Store → R α
/-- a test's -/
def ρB : List Addr → Hp → Bool → Bool → Prop := fun _ _ a b => a = b
abbrev Te (W : WX) (f : ME D) : TE := Tm K mg (Rep K) W f
abbrev Tt (W : WX) (f : ME Bool) : TT := Tm K mg ρB W f
abbrev Ta (W : WX) (f : ME (List D)) : TA := Tm K mg (Reps K) W f
end
section
variable {K : PySem.W.Frag} {mg : Str → Option Value} {m m1 : List Addr} {H H1 : Hp} {s : Store} {W : WX} {σ : L2.St}
section
variable {α α' β β' : Type} {ρ : List Addr → Hp → α → β → Prop} {ρ' : List Addr → Hp → α' → β' → Prop} {Q : β → Hp → Prop} {Q' : β' → Hp → Prop}
theorem G.mono (e : Le K m H m1 H1) {r : R α} (h : G K mg ρ W σ m H Q r) : G K mg ρ W σ m1 H1 Q r := by
  cases r with
  | ok a s => exact fun m' H' b l r q => h m' H' b (e.trans l) r q
  | ex x s => exact fun m' H' c d l r q => h m' H' c d (e.trans l) r q
  | no => exact h
theorem G.bind {r : R α} {k : α → Store → R α'} (h : G K mg ρ' W σ m H Q' (r.bind k))
    (q : ∀ m1 H1 a b s1, Le K m H m1 H1 → Rel K m1 H1 s1 → ρ m1 H1 a b → G K mg ρ' W σ m1 H1 Q' (k a s1) → Q b H1) : G K mg ρ W σ m H Q r := by
  cases r with
  | ok a s => exact fun m' H' b l r p => q m' H' a b s l r p (G.mono l h)
  | ex x s => exact h
  | no => exact h
theorem G.imp {r : R α} (h : G K mg ρ W σ m H Q r) {Q1 : β → Hp → Prop} (q : ∀ m' H' a b s, r = .ok a s → Le K m H m' H' → Rel K m' H' s → ρ m' H' a b → Q b H' → Q1 b H') : G K mg ρ W σ m H Q1 r := by
  cases r with
  | ok a s => exact fun m' H' b l r p => q m' H' a b s rfl l r p (h m' H' b l r p)
  | ex x s => exact h
  | no => exact h
/-- run the first part -/
theorem Tm.bind {f : Sl → Store → R α} {k : Sl → α → Store → R α'} (h : Tm K mg ρ' W (fun env s => (f env s).bind (k env)) σ H Q')
    (q : ∀ m1 H1 env a b s1, Rel K m1 H1 s1 → RelE K m1 H1 env σ → ρ m1 H1 a b → G K mg ρ' W σ m1 H1 Q' (k env a s1) → Q b H1) : Tm K mg ρ W f σ H Q := by
  obtain ⟨m, env, s, r, e, g⟩ := h
  exact ⟨m, env, s, r, e, G.bind g fun m1 H1 a b s1 l r1 p g1 => q m1 H1 env a b s1 r1 (e.mono l) p g1⟩
/-- a further part runs -/
theorem Tm.of {f : Sl → Store → R α} {env : Sl} (r : Rel K m H s) (e : RelE K m H env σ) (g : G K mg ρ W σ m H Q (f env s)) : Tm K mg ρ W f σ H Q := ⟨m, env, s, r, e, g⟩
end
/-- the end: a value that is there -/
theorem G.now {d : D} {v : V} {Q : VK} (h : G K mg (Rep K) W σ m H Q (.ok d s)) (r : Rel K m H s) (p : Rep K m H d v) : Q v H := h m H v .refl r p
theorem G.nowB {d : Bool} {Q : Bool → Hp → Prop} (h : G K mg ρB W σ m H Q (.ok d s)) (r : Rel K m H s) : Q d H := h m H d .refl r rfl
end
theorem PE.imp {X : Cx} {e : Expr} {t t' : TE} (h : PE X e t) (i : ∀ σ H Q, t' σ H Q → t σ H Q) : PE X e t' := ⟨fun pins s σ H Q I q => h.run pins s σ H Q I (i σ H Q q)⟩
theorem PT.imp {X : Cx} {e : Expr} {t t' : TT} (h : PT X e t) (i : ∀ σ H Q, t' σ H Q → t σ H Q) : PT X e t' := ⟨fun pins s σ H Q I q => h.run pins s σ H Q I (i σ H Q q)⟩
theorem PW.imp {X : Cx} {e : Expr} {t t' : TT} (h : PW X e t) (i : ∀ σ H Q, t' σ H Q → t σ H Q) : PW X e t' := ⟨fun wh pins s σ H Q I q => h.run wh pins s σ H Q I (i σ H Q q)⟩
theorem PA.imp {X : Cx} {e : List Expr} {t t' : TA} (h : PA X e t) (i : ∀ σ H Q, t' σ H Q → t σ H Q) : PA X e t' := ⟨fun pos pins s σ H Q I q => h.run pos pins s σ H Q I (i σ H Q q)⟩
theorem PS.imp {X : Cx} {e : Stmt} {t t' : TS} (h : PS X e t) (i : ∀ D σ H, t' D σ H → t D σ H) : PS X e t' := ⟨fun pins s σ H D I q => h.run pins s σ H D I (i D σ H q)⟩
theorem PSs.imp {X : Cx} {e : List Stmt} {t t' : TS} (h : PSs X e t) (i : ∀ D σ H, t' D σ H → t D σ H) : PSs X e t' := ⟨fun pins s σ H D I q => h.run pins s σ H D I (i D σ H q)⟩
/-! ### combinators: expressions -/
def eC (d : D) : ME D := fun _ s => .ok d s
def eV (i : Nat) : ME D := fun env s => match env[i]? with
  | some (some d) => .ok d s
  | _ => .no
/-- two values -/
def e2 (g : D → D → Store → Option (D × Store)) (a b : ME D) : ME D := fun env s => (a env s).bind fun x s => (b env s).bind fun y s => R.of (g x y s)
def e1 (g : D → Store → Option (D × Store)) (a : ME D) : ME D := fun env s => (a env s).bind fun x s => R.of (g x s)
def aNil : ME (List D) := fun _ s => .ok [] s
def aCons (a : ME D) (r : ME (List D)) : ME (List D) := fun env s => (a env s).bind fun x s => (r env s).bind fun xs s => .ok (x :: xs) s
def eFn (g : List D → Store → Option (D × Store)) (a : ME (List D)) : ME D := fun env s => (a env s).bind fun xs s => R.of (g xs s)
def eTup (a : ME (List D)) : ME D := fun env s => (a env s).bind fun xs s => if xs.length ≤ sizeLine then .ok (.tup xs) s else .no
def eLst (a : ME (List D)) : ME D := fun env s => (a env s).bind fun xs s => if xs.length ≤ sizeLine then .ok (.loc s.length) (s ++ [.lst xs]) else .no
def eCall (g : List D → Store → R D) (a : ME (List D)) : ME D := fun env s => (a env s).bind g
/-- a value as a test: a bool -/
def tV (a : ME D) : ME Bool := fun env s => (a env s).bind fun x s => match x with
  | .bl b => .ok b s
  | _ => .no
def tAnd (a b : ME Bool) : ME Bool := fun env s => (a env s).bind fun x s => if x then b env s else .ok false s
def tOr (a b : ME Bool) : ME Bool := fun env s => (a env s).bind fun x s => if x then .ok true s else b env s
def tNot (a : ME Bool) : ME Bool := fun env s => (a env s).bind fun x s => .ok (!x) s
def eIf (c : ME Bool) (a b : ME D) : ME D := fun env s => (c env s).bind fun x s => if x then a env s else b env s
/-- and, or, not as values (bools) -/
def eAnd (a b : ME D) : ME D := fun env s => (a env s).bind fun x s => match x with
  | .bl true => b env s
  | .bl false => .ok (.bl false) s
  | _ => .no
def eOr (a b : ME D) : ME D := fun env s => (a env s).bind fun x s => match x with
  | .bl true => .ok (.bl true) s
  | .bl false => b env s
  | _ => .no
def eNot (a : ME D) : ME D := fun env s => (a env s).bind fun x s => match x with
  | .bl c => .ok (.bl !c) s
  | _ => .no
def eChain (g g' : D → D → Store → Option (D × Store)) (a b c : ME D) : ME D := fun env s => (a env s).bind fun x s => (b env s).bind fun y s => (R.of (g x y s)).bind fun z s => match z with
  | .bl true => (c env s).bind fun w s => R.of (g' y w s)
  | .bl false => .ok (.bl false) s
  | _ => .no
section
variable {X : Cx} {W : WX} {pos : Pos} {a b c e : Expr} {es : List Expr} {fa fb fc : ME D} {ga gb : ME Bool} {fs : ME (List D)}
theorem ce_v (i : Nat) {x : Str} (hN : X.N[i]? = some x := by rfl) (hv : Vis X.env.scope x := by first | exact Or.inl rfl | exact Or.inr (Or.inl rfl) | exact Or.inr (Or.inr rfl)) (hd : (x == ("__debug__" : Str)) = false := by decide)
    (hcd : (x == ("__classdict__" : Str)) = false := by decide) : PE X (.Name x pos) (Te X.K X.mg W (eV i)) := by
  refine PE.imp (pe_var (i := i) hN hv hd hcd) fun σ H Q h => ?_
  obtain ⟨m, env, s, r, E, g⟩ := h
  unfold eV at g
  cases q : env[i]? with
  | none => rw [q] at g; exact g.elim
  | some o =>
    cases o with
    | none => rw [q] at g; exact g.elim
    | some d =>
      rw [q] at g
      obtain ⟨v, h1, h2⟩ := E.2 i d q
      exact ⟨v, h1, g.now r h2⟩
theorem ce_c {d : D} {v : V} (h : PE X e (tC v)) (r : ∀ m H, Rep X.K m H d v) : PE X e (Te X.K X.mg W (eC d)) :=
  PE.imp h fun σ H Q ⟨m, env, s, rl, E, g⟩ => g.now rl (r m H)
theorem ce_int {i j} : PE X (.Constant (.int i) j pos) (Te X.K X.mg W (eC (.int i))) := ce_c pe_int fun _ _ => .int _
theorem ce_bl {i j} : PE X (.Constant (.bool i) j pos) (Te X.K X.mg W (eC (.bl i))) := ce_c pe_bl fun _ _ => .bl _
theorem ce_non {j} : PE X (.Constant .none j pos) (Te X.K X.mg W (eC .non)) := ce_c pe_non fun _ _ => .non
theorem ce_str {x j} : PE X (.Constant (.str x) j pos) (Te X.K X.mg W (eC (.str x))) := ce_c pe_str fun _ _ => .str _
theorem ce_glob {x : Str} {d : D} {v : V} {u : Value} (hg : Gl X x) (hm : X.mg x = some u) (r : RelV v u) (q : ∀ m H, Rep X.K m H d v) (hd : (x == ("__debug__" : Str)) = false := by decide) : PE X (.Name x pos) (Te X.K X.mg W (eC d)) := ce_c (pe_glob hg hm r hd) q
/-- an operation on values, with its mirror -/
def OpS (K : PySem.W.Frag) (r : R2) (g : D → D → Store → Option (D × Store)) : Prop :=
  ∀ {mg : Str → Option Value} {W : WX} {σ : L2.St} {m : List Addr} {H : Hp} {s : Store} {x y : V} {dx dy : D} {Q : VK}, Rel K m H s → Rep K m H dx x → Rep K m H dy y → G K mg (Rep K) W σ m H Q (R.of (g dx dy s)) → r x y H Q
theorem e2_run {r : R2} {g : D → D → Store → Option (D × Store)} (hs : OpS X.K r g) : ∀ σ H Q, Te X.K X.mg W (e2 g fa fb) σ H Q → tOp r (Te X.K X.mg W fa) (Te X.K X.mg W fb) σ H Q := fun σ H Q h =>
  Tm.bind (k := fun env x s => (fb env s).bind fun y s => R.of (g x y s)) h fun m1 H1 env x v s1 r1 E1 p1 g1 =>
    ⟨m1, env, s1, r1, E1, G.bind g1 fun m2 H2 y u s2 l2 r2 p2 g2 => hs r2 (p1.mono l2) p2 g2⟩
theorem ce_op {op : Operator} {r : R2} {g : D → D → Store → Option (D × Store)} (ho : OpR X (binaryOp op) r) (hs : OpS X.K r g) (ha : PE X a (Te X.K X.mg W fa)) (hb : PE X b (Te X.K X.mg W fb)) :
    PE X (.BinOp a op b pos) (Te X.K X.mg W (e2 g fa fb)) := PE.imp (pe_op ho ha hb) (e2_run hs)
theorem ce_cmp {op : CmpOp} {r : R2} {g : D → D → Store → Option (D × Store)} (ho : OpR X (compareOp op) r) (hs : OpS X.K r g) (ha : PE X a (Te X.K X.mg W fa)) (hb : PE X b (Te X.K X.mg W fb)) (hm : behindInMarks op b = false) :
    PE X (.Compare a [op] [b] pos) (Te X.K X.mg W (e2 g fa fb)) := PE.imp (pe_cmpR ho ha hb hm) (e2_run hs)
theorem ce_ix {r : R2} {g : D → D → Store → Option (D × Store)} (ho : IxR X r) (hs : OpS X.K r g) (ha : PE X a (Te X.K X.mg W fa)) (hb : PE X b (Te X.K X.mg W fb)) (hp : PlainIx b) :
    PE X (.Subscript a b pos) (Te X.K X.mg W (e2 g fa fb)) := PE.imp (pe_ix ho ha hb hp) (e2_run hs)
/-- a test of a value that is a bool -/
theorem tv_run {t : TE} (hp : ∀ σ H Q, Te X.K X.mg W fa σ H Q → t σ H Q) : ∀ σ H Q, Tt X.K X.mg W (tV fa) σ H Q → t σ H fun x H' => ∃ k, x = .bl k ∧ Q k H' := fun σ H Q h =>
  hp σ H _ (Tm.bind (k := fun _ x s => match x with | .bl b => R.ok b s | _ => R.no) h fun m1 H1 env x v s1 r1 E1 p1 g1 => by
    cases x with
    | bl k => cases p1; exact ⟨k, rfl, g1.nowB r1⟩
    | _ => exact g1.elim)
theorem ct_v (ha : PE X a (Te X.K X.mg W fa)) (he : ∀ whole, isTrue a X.env whole = (do let v ← whole; standAt a.pos; holding [v] (truthy v)) := by intro _; rfl) : PT X a (Tt X.K X.mg W (tV fa)) :=
  PT.imp (pt_val ha he) (tv_run fun _ _ _ h => h)
theorem ct_cmp {op : CmpOp} {r : R2} {g : D → D → Store → Option (D × Store)} (ho : OpR X (compareOp op) r) (hs : OpS X.K r g) (ha : PE X a (Te X.K X.mg W fa)) (hb : PE X b (Te X.K X.mg W fb)) (hm : behindInMarks op b = false) :
    PT X (.Compare a [op] [b] pos) (Tt X.K X.mg W (tV (e2 g fa fb))) := PT.imp (pt_cmpR ho ha hb hm) (tv_run (e2_run hs))
theorem chain_run {r r' : R2} {g g' : D → D → Store → Option (D × Store)} (hs : OpS X.K r g) (hs' : OpS X.K r' g') : ∀ σ H Q, Te X.K X.mg W (eChain g g' fa fb fc) σ H Q → tChain r r' (Te X.K X.mg W fa) (Te X.K X.mg W fb) (Te X.K X.mg W fc) σ H Q := fun σ H Q h =>
  Tm.bind (k := fun env x s => (fb env s).bind fun y s => (R.of (g x y s)).bind fun z s => match z with | .bl true => (fc env s).bind fun w s => R.of (g' y w s) | .bl false => R.ok (D.bl false) s | _ => R.no) h fun m1 H1 env x v s1 r1 E1 p1 g1 =>
    ⟨m1, env, s1, r1, E1, G.bind g1 fun m2 H2 y u s2 l2 r2 p2 g2 => hs r2 (p1.mono l2) p2 (G.bind g2 fun m3 H3 z w s3 l3 r3 p3 g3 => by
      cases z with
      | bl k =>
        cases p3
        refine ⟨k, rfl, ?_⟩
        cases k with
        | true => exact iteT ⟨m3, env, s3, r3, (E1.mono l2).mono l3, G.bind g3 fun m4 H4 z w s4 l4 r4 p4 g4 => hs' r4 ((p2.mono l3).mono l4) p4 g4⟩
        | false => exact iteF (g3.now r3 (.bl false))
      | _ => exact g3.elim)⟩
theorem ce_chain {op op' : CmpOp} {r r' : R2} {g g' : D → D → Store → Option (D × Store)} (ho : OpR X (compareOp op) r) (hs : OpS X.K r g) (ho' : OpR X (compareOp op') r') (hs' : OpS X.K r' g') (ha : PE X a (Te X.K X.mg W fa)) (hb : PE X b (Te X.K X.mg W fb)) (hc : PE X c (Te X.K X.mg W fc))
    (hm : lastMarks [op, op'] [b, c] = false := by with_unfolding_all rfl) : PE X (.Compare a [op, op'] [b, c] pos) (Te X.K X.mg W (eChain g g' fa fb fc)) := PE.imp (pe_chain ho ho' ha hb hc hm) (chain_run hs hs')
theorem ct_chain {op op' : CmpOp} {r r' : R2} {g g' : D → D → Store → Option (D × Store)} (ho : OpR X (compareOp op) r) (hs : OpS X.K r g) (ho' : OpR X (compareOp op') r') (hs' : OpS X.K r' g') (ha : PE X a (Te X.K X.mg W fa)) (hb : PE X b (Te X.K X.mg W fb)) (hc : PE X c (Te X.K X.mg W fc))
    (hm : lastMarks [op, op'] [b, c] = false := by with_unfolding_all rfl) : PT X (.Compare a [op, op'] [b, c] pos) (Tt X.K X.mg W (tV (eChain g g' fa fb fc))) := PT.imp (pt_chain ho ho' ha hb hc hm) (tv_run (chain_run hs hs'))
/-! #### tests -/
theorem cw_and1 (ha : PT X a (Tt X.K X.mg W ga)) : PW X (.BoolOp .And [a] pos) (Tt X.K X.mg W ga) := pw_and1 ha
theorem cw_or1 (ha : PT X a (Tt X.K X.mg W ga)) : PW X (.BoolOp .Or [a] pos) (Tt X.K X.mg W ga) := pw_or1 ha
theorem cw_and {rest : List Expr} (ha : PT X a (Tt X.K X.mg W ga)) (hb : PW X (.BoolOp .And (b :: rest) pos) (Tt X.K X.mg W gb)) : PW X (.BoolOp .And (a :: b :: rest) pos) (Tt X.K X.mg W (tAnd ga gb)) :=
  PW.imp (pw_and ha hb) fun σ H Q h => Tm.bind (k := fun env x s => if x then gb env s else R.ok false s) h fun m1 H1 env x v s1 r1 E1 p1 g1 => by
    cases (show x = v from p1)
    cases x with
    | true => exact iteT ⟨m1, env, s1, r1, E1, g1⟩
    | false => exact iteF (G.nowB g1 r1)
theorem cw_or {rest : List Expr} (ha : PT X a (Tt X.K X.mg W ga)) (hb : PW X (.BoolOp .Or (b :: rest) pos) (Tt X.K X.mg W gb)) : PW X (.BoolOp .Or (a :: b :: rest) pos) (Tt X.K X.mg W (tOr ga gb)) :=
  PW.imp (pw_or ha hb) fun σ H Q h => Tm.bind (k := fun env x s => if x then R.ok true s else gb env s) h fun m1 H1 env x v s1 r1 E1 p1 g1 => by
    cases (show x = v from p1)
    cases x with
    | true => exact iteT (G.nowB g1 r1)
    | false => exact iteF ⟨m1, env, s1, r1, E1, g1⟩
theorem ct_not (ha : PT X a (Tt X.K X.mg W ga)) : PT X (.UnaryOp .Not a pos) (Tt X.K X.mg W (tNot ga)) :=
  PT.imp (pt_not ha) fun σ H Q h => Tm.bind (k := fun env x s => R.ok (!x) s) h fun m1 H1 env x v s1 r1 E1 p1 g1 => by
    cases (show x = v from p1)
    exact G.nowB g1 r1
theorem ce_ifExp (hc : PT X c (Tt X.K X.mg W ga)) (ha : PE X a (Te X.K X.mg W fa)) (hb : PE X b (Te X.K X.mg W fb)) : PE X (.IfExp c a b pos) (Te X.K X.mg W (eIf ga fa fb)) :=
  PE.imp (pe_ifExp hc ha hb) fun σ H Q h => Tm.bind (k := fun env x s => if x then fa env s else fb env s) h fun m1 H1 env x v s1 r1 E1 p1 g1 => by
    cases (show x = v from p1)
    cases x with
    | true => exact iteT ⟨m1, env, s1, r1, E1, g1⟩
    | false => exact iteF ⟨m1, env, s1, r1, E1, g1⟩
theorem ce_one {op} {t : TE} (h : PE X a t) : PE X (.BoolOp op [a] pos) t := pe_one h
theorem ce_and {rest : List Expr} (ha : PE X a (Te X.K X.mg W fa)) (hb : PE X (.BoolOp .And (b :: rest) pos) (Te X.K X.mg W fb)) : PE X (.BoolOp .And (a :: b :: rest) pos) (Te X.K X.mg W (eAnd fa fb)) :=
  PE.imp (pe_and ha hb) fun σ H Q h => Tm.bind (k := fun env x s => match x with | .bl true => fb env s | .bl false => R.ok (D.bl false) s | _ => R.no) h fun m1 H1 env x v s1 r1 E1 p1 g1 => by
    cases x with
    | bl k =>
      cases p1
      refine ⟨k, rfl, ?_⟩
      cases k with
      | true => exact iteT ⟨m1, env, s1, r1, E1, g1⟩
      | false => exact iteF (g1.now r1 (.bl false))
    | _ => exact g1.elim
theorem ce_or {rest : List Expr} (ha : PE X a (Te X.K X.mg W fa)) (hb : PE X (.BoolOp .Or (b :: rest) pos) (Te X.K X.mg W fb)) : PE X (.BoolOp .Or (a :: b :: rest) pos) (Te X.K X.mg W (eOr fa fb)) :=
  PE.imp (pe_or ha hb) fun σ H Q h => Tm.bind (k := fun env x s => match x with | .bl true => R.ok (D.bl true) s | .bl false => fb env s | _ => R.no) h fun m1 H1 env x v s1 r1 E1 p1 g1 => by
    cases x with
    | bl k =>
      cases p1
      refine ⟨k, rfl, ?_⟩
      cases k with
      | true => exact iteT (g1.now r1 (.bl true))
      | false => exact iteF ⟨m1, env, s1, r1, E1, g1⟩
    | _ => exact g1.elim
theorem ce_not (ha : PE X a (Te X.K X.mg W fa)) : PE X (.UnaryOp .Not a pos) (Te X.K X.mg W (eNot fa)) :=
  PE.imp (pe_not ha) fun σ H Q h => Tm.bind (k := fun env x s => match x with | .bl c => R.ok (D.bl !c) s | _ => R.no) h fun m1 H1 env x v s1 r1 E1 p1 g1 => by
    cases x with
    | bl k => cases p1; exact ⟨k, rfl, g1.now r1 (.bl _)⟩
    | _ => exact g1.elim
/-! #### argument lists, displays -/
theorem ca_nil : PA X [] (Ta X.K X.mg W aNil) := PA.imp pa_nil fun σ H Q ⟨m, env, s, r, E, g⟩ => g m H [] .refl r .nil
theorem ca_cons (ha : PE X e (Te X.K X.mg W fa)) (hr : PA X es (Ta X.K X.mg W fs)) (hs : starEach (e :: es) X.env = (false, eval e X.env) :: starEach es X.env := by rfl) : PA X (e :: es) (Ta X.K X.mg W (aCons fa fs)) :=
  PA.imp (pa_cons ha hr hs) fun σ H Q h => Tm.bind (k := fun env x s => (fs env s).bind fun xs s => R.ok (x :: xs) s) h fun m1 H1 env x v s1 r1 E1 p1 g1 =>
    ⟨m1, env, s1, r1, E1, G.bind g1 fun m2 H2 xs vs s2 l2 r2 p2 g2 => g2 m2 H2 _ .refl r2 (.cons (p1.mono l2) p2)⟩
theorem ce_tup {k : Nat} (h : PA X es (Ta X.K X.mg W fs)) : PE X (.Tuple es k pos) (Te X.K X.mg W (eTup fs)) :=
  PE.imp (pe_tup h) fun σ H Q h => Tm.bind (k := fun env xs s => if xs.length ≤ sizeLine then R.ok (D.tup xs) s else R.no) h fun m1 H1 env xs vs s1 r1 E1 p1 g1 => by
    by_cases hz : xs.length ≤ sizeLine
    · simp only [hz, if_true] at g1
      exact ⟨by rw [← p1.length]; exact hz, fun p hp => g1 m1 _ _ (le_new hp) (r1.tmp hp) (rep_newtup hp p1)⟩
    · simp only [hz, if_false] at g1
      exact g1.elim
theorem newlist {xs : List D} {vs : List V} {m : List Addr} {H : Hp} {s : Store} {σ : L2.St} {Q : VK} {mg : Str → Option Value} (r : Rel X.K m H s) (p : Reps X.K m H xs vs) (g : G X.K mg (Rep X.K) W σ m H Q (.ok (.loc s.length) (s ++ [.lst xs]))) :
    ∀ q, H q = none → Q (.ref q) (upd H q (.lst vs)) := fun q hq => g (m ++ [q]) _ _ (le_more r hq) (rel_newlist r hq p) (.loc (len_get r))
theorem ce_lst (h : PA X es (Ta X.K X.mg W fs)) : PE X (.List es pos) (Te X.K X.mg W (eLst fs)) :=
  PE.imp (pe_lst h) fun σ H Q h => Tm.bind (k := fun env xs s => if xs.length ≤ sizeLine then R.ok (D.loc s.length) (s ++ [.lst xs]) else R.no) h fun m1 H1 env xs vs s1 r1 E1 p1 g1 => by
    by_cases hz : xs.length ≤ sizeLine
    · simp only [hz, if_true] at g1
      exact ⟨by rw [← p1.length]; exact hz, newlist r1 p1 g1⟩
    · simp only [hz, if_false] at g1
      exact g1.elim
/-! #### calls of builtins, by values -/
def FnS (K : PySem.W.Frag) (r : List V → Hp → VK → Prop) (g : List D → Store → Option (D × Store)) : Prop :=
  ∀ {mg : Str → Option Value} {W : WX} {σ : L2.St} {m : List Addr} {H : Hp} {s : Store} {xs : List V} {ds : List D} {Q : VK}, Rel K m H s → Reps K m H ds xs → G K mg (Rep K) W σ m H Q (R.of (g ds s)) → r xs H Q
theorem eFn_run {r : List V → Hp → VK → Prop} {g : List D → Store → Option (D × Store)} (hs : FnS X.K r g) : ∀ σ H Q, Te X.K X.mg W (eFn g fs) σ H Q → tCB r (Ta X.K X.mg W fs) σ H Q := fun σ H Q h =>
  Tm.bind (k := fun env xs s => R.of (g xs s)) h fun m1 H1 env x v s1 r1 E1 p1 g1 => hs r1 p1 g1
theorem ce_callB {x id : String} {p : Pos} {r : List V → Hp → VK → Prop} {g : List D → Store → Option (D × Store)} (hc : CallR X (.builtin id) r) (hs : FnS X.K r g) (hg : Gl X x) (hm : X.mg x = none) (hv : bootBuiltins x = some (.builtin id)) (ha : PA X (e :: es) (Ta X.K X.mg W fs))
    (hn : (x : Str) ≠ "__name__" := by decide) (hdb : ((x : Str) == ("__debug__" : Str)) = false := by decide)
    (he : starEach (e :: es) X.env = (false, eval e X.env) :: starEach es X.env := by rfl) (hpl : (backTo pos (starEach es X.env)).any (·.1) = false := by rfl) : PE X (.Call (.Name x p) (e :: es) [] pos) (Te X.K X.mg W (eFn g fs)) :=
  PE.imp (pe_callB hc hg hm hv ha hn hdb he hpl) (eFn_run hs)
theorem ce_callTy {x id : String} {p : Pos} {r : List V → Hp → VK → Prop} {g : List D → Store → Option (D × Store)} (hc : CallR X (.type id) r) (hs : FnS X.K r g) (hg : Gl X x) (hm : X.mg x = none) (hv : bootBuiltins x = some (.type id)) (ha : PA X (e :: es) (Ta X.K X.mg W fs))
    (hn : (x : Str) ≠ "__name__" := by decide) (hdb : ((x : Str) == ("__debug__" : Str)) = false := by decide)
    (he : starEach (e :: es) X.env = (false, eval e X.env) :: starEach es X.env := by rfl) (hpl : (backTo pos (starEach es X.env)).any (·.1) = false := by rfl) : PE X (.Call (.Name x p) (e :: es) [] pos) (Te X.K X.mg W (eFn g fs)) :=
  PE.imp (pe_callTy hc hg hm hv ha hn hdb he hpl) (eFn_run hs)
/-! #### one-place -/
def UnS (K : PySem.W.Frag) (r : V → Hp → VK → Prop) (g : D → Store → Option (D × Store)) : Prop :=
  ∀ {mg : Str → Option Value} {W : WX} {σ : L2.St} {m : List Addr} {H : Hp} {s : Store} {x : V} {d : D} {Q : VK}, Rel K m H s → Rep K m H d x → G K mg (Rep K) W σ m H Q (R.of (g d s)) → r x H Q
theorem ce_un {op : UnaryOp} {r : V → Hp → VK → Prop} {g : D → Store → Option (D × Store)} (ho : UnR X (unaryOp op) r) (hs : UnS X.K r g) (ha : PE X a (Te X.K X.mg W fa)) : PE X (.UnaryOp op a pos) (Te X.K X.mg W (e1 g fa)) :=
  PE.imp (pe_un ho ha) fun σ H Q h => Tm.bind (k := fun env x s => R.of (g x s)) h fun m1 H1 env x v s1 r1 E1 p1 g1 => hs r1 p1 g1
/-! #### a def's promise: its mirror's value -/
def spM (K : PySem.W.Frag) (mg : Str → Option Value) (n : Nat) (g : List D → Store → R D) : Sp := fun vs H Q E => vs.length = n ∧
  ∃ m s ds, Rel K m H s ∧ Reps K m H ds vs ∧ G K mg (Rep K) (fun c d _ H => E c d H) [] m H Q (g ds s)
theorem ce_call {k n : Nat} {f : Addr} {fd : FuncData} {ps : List Str} {x : Str} {p : Pos} {g : List D → Store → R D} (F : FnOk X.prog X.w X.K X.mg X.base (L2.CX X.prog X.w) k f fd ps (spM X.K X.mg n g)) (hr : Room k X.A) (tk : Takes X W) (hg : Gl X x) (hm : X.mg x = some (.ref f)) (hk : PySem.W.keepIn X.K (.ref f) = true) (hb : Binds X.K fd ps [])
    (hn : ∀ xs s env, ∀ s', fs env s = .ok xs s' → xs.length = n) (ha : PA X (e :: es) (Ta X.K X.mg W fs)) (hdb : (x == ("__debug__" : Str)) = false := by decide) (he : starEach (e :: es) X.env = (false, eval e X.env) :: starEach es X.env := by rfl) (hpl : (backTo pos (starEach es X.env)).any (·.1) = false := by rfl) :
    PE X (.Call (.Name x p) (e :: es) [] pos) (Te X.K X.mg W (eCall g fs)) :=
  PE.imp (pe_callS (E := WE W) F hr hg hm hk hb (fun σ => passAt tk σ) ha hdb he hpl) fun σ H Q h => by
    obtain ⟨m, env, s, r, E, g0⟩ := h
    refine ⟨m, env, s, r, E, ?_⟩
    unfold eCall at g0
    cases hf : fs env s with
    | ok xs s1 =>
      rw [hf] at g0
      intro m1 H1 vs l1 r1 p1
      refine ⟨by rw [← p1.length]; exact hn xs s env s1 hf, m1, s1, xs, r1, p1, ?_⟩
      have g1 : G X.K X.mg (Rep X.K) W σ m H Q (g xs s1) := g0
      have g2 := g1.mono l1
      cases hgx : g xs s1 with
      | ok a s2 => rw [hgx] at g2; exact g2
      | ex x2 s2 => rw [hgx] at g2; exact g2
      | no => rw [hgx] at g2; exact g2
    | ex x s1 => rw [hf] at g0; exact g0
    | no => rw [hf] at g0; exact g0.elim
end
end Mi
namespace Mi
open PySem PySem.Spec PyProof.Rows L2
/-! ### operations on values: mirrors and their rules -/
section
variable {K : PySem.W.Frag}
theorem OpS.or {r r' : R2} {g : D → D → Store → Option (D × Store)} (h : ∀ {mg : Str → Option Value} {W : WX} {σ : L2.St} {m : List Addr} {H : Hp} {s : Store} {x y : V} {dx dy : D} {Q : VK}, Rel K m H s → Rep K m H dx x → Rep K m H dy y → G K mg (Rep K) W σ m H Q (R.of (g dx dy s)) → r x y H Q ∨ r' x y H Q) : OpS K (fun x y H Q => r x y H Q ∨ r' x y H Q) g := h
/-- two ints -/
def dI (f : Int → Int → Option D) : D → D → Store → Option (D × Store)
  | .int i, .int j, s => (f i j).map fun d => (d, s)
  | _, _, _ => none
theorem ops_dI {C : Int → Int → Prop} {gv : Int → Int → V} {f : Int → Int → Option D} (h : ∀ i j d, f i j = some d → C i j ∧ ∀ m H, Rep K m H d (gv i j)) : OpS K (rI C gv) (dI f) := by
  intro mg W σ m H s x y dx dy Q r px py g
  cases dx with
  | int i =>
    cases dy with
    | int j =>
      cases px; cases py
      cases e : f i j with
      | none => rw [show R.of (dI f (.int i) (.int j) s) = R.no by simp [dI, e]] at g; exact g.elim
      | some d =>
        rw [show R.of (dI f (.int i) (.int j) s) = .ok d s by simp [dI, e]] at g
        obtain ⟨h1, h2⟩ := h i j d e
        exact ⟨i, j, rfl, rfl, h1, g.now r (h2 m H)⟩
    | _ => exact g.elim
  | _ => exact g.elim
theorem ops_dI0 {gv : Int → Int → V} {f : Int → Int → D} (h : ∀ i j m H, Rep K m H (f i j) (gv i j)) : OpS K (rI0 gv) (dI fun i j => some (f i j)) := by
  intro mg W σ m H s x y dx dy Q r px py g
  obtain ⟨i, j, e1, e2, _, q⟩ := ops_dI (K := K) (C := fun _ _ => True) (gv := gv) (fun i j d e => ⟨trivial, by cases e; exact h i j⟩) r px py g
  exact ⟨i, j, e1, e2, q⟩
def dAdd : D → D → Store → Option (D × Store)
  | .int i, .int j, s => some (.int (i + j), s)
  | .str x, .str y, s => if x.length + y.length ≤ sizeLine then some (.str (x ++ y), s) else none
  | .tup xs, .tup ys, s => if xs.length + ys.length ≤ sizeLine then some (.tup (xs ++ ys), s) else none
  | .loc l, .loc k, s => match s[l]?, s[k]? with
    | some (.lst xs), some (.lst ys) => if xs.length + ys.length ≤ sizeLine then some (.loc s.length, s ++ [.lst (xs ++ ys)]) else none
    | _, _ => none
  | _, _, _ => none
def rAddA (K : PySem.W.Frag) : R2 := fun x y H Q => rI0 (fun i j => .int (i + j)) x y H Q ∨ (∃ i j, x = .str i ∧ y = .str j ∧ i.length + j.length ≤ sizeLine ∧ Q (.str (i ++ j)) H) ∨ rCatA K x y H Q ∨ rCat x y H Q
theorem op_addA {X : Cx} : OpR X (binaryOp .Add) (rAddA X.K) := op_add.or (op_add_str.or (op_catA.or op_cat))
theorem ops_add : OpS K (rAddA K) dAdd := by
  intro mg W σ m H s x y dx dy Q r px py g
  cases dx with
  | int i =>
    cases dy with
    | int j => cases px; cases py; exact .inl ⟨i, j, rfl, rfl, g.now r (.int _)⟩
    | _ => exact g.elim
  | str i =>
    cases dy with
    | str j =>
      cases px; cases py
      by_cases hz : i.length + j.length ≤ sizeLine
      · rw [show dAdd (.str i) (.str j) s = some (.str (i ++ j), s) by simp [dAdd, hz]] at g
        exact .inr (.inl ⟨i, j, rfl, rfl, hz, g.now r (.str _)⟩)
      · rw [show dAdd (.str i) (.str j) s = none by simp [dAdd, hz]] at g; exact g.elim
    | _ => exact g.elim
  | tup xs =>
    cases dy with
    | tup ys =>
      cases px with
      | tup h1 r1 =>
        cases py with
        | tup h2 r2 =>
          by_cases hz : xs.length + ys.length ≤ sizeLine
          · rw [show dAdd (.tup xs) (.tup ys) s = some (.tup (xs ++ ys), s) by simp [dAdd, hz]] at g
            refine .inr (.inr (.inl ⟨_, _, _, _, rfl, rfl, .inl (.inl h1), .inl (.inl h2), by rw [← r1.length, ← r2.length]; exact hz, fun e => ?_, fun _ e => ?_, fun _ _ p hp => ?_⟩))
            · subst e; cases r1; exact g.now r (.tup h2 r2)
            · subst e; cases r2; rw [List.append_nil] at g; exact g.now r (.tup h1 r1)
            · exact g m _ _ (le_new hp) (r.tmp hp) (rep_newtup hp (r1.append r2))
          · rw [show dAdd (.tup xs) (.tup ys) s = none by simp [dAdd, hz]] at g; exact g.elim
    | _ => exact g.elim
  | loc l =>
    cases dy with
    | loc k =>
      cases px with
      | loc h1 =>
        cases py with
        | loc h2 =>
          cases e1 : s[l]? with
          | none => rw [show dAdd (.loc l) (.loc k) s = none by simp [dAdd, e1]] at g; exact g.elim
          | some c1 =>
            cases c1 with
            | dic _ => rw [show dAdd (.loc l) (.loc k) s = none by simp [dAdd, e1]] at g; exact g.elim
            | dct _ => rw [show dAdd (.loc l) (.loc k) s = none by simp [dAdd, e1]] at g; exact g.elim
            | lst xs =>
              cases e2 : s[k]? with
              | none => rw [show dAdd (.loc l) (.loc k) s = none by simp [dAdd, e1, e2]] at g; exact g.elim
              | some c2 =>
                cases c2 with
                | dic _ => rw [show dAdd (.loc l) (.loc k) s = none by simp [dAdd, e1, e2]] at g; exact g.elim
                | dct _ => rw [show dAdd (.loc l) (.loc k) s = none by simp [dAdd, e1, e2]] at g; exact g.elim
                | lst ys =>
                  by_cases hz : xs.length + ys.length ≤ sizeLine
                  · rw [show dAdd (.loc l) (.loc k) s = some (.loc s.length, s ++ [.lst (xs ++ ys)]) by simp [dAdd, e1, e2, hz]] at g
                    obtain ⟨vs, q1, p1⟩ := r.list h1 e1
                    obtain ⟨ws, q2, p2⟩ := r.list h2 e2
                    refine .inr (.inr (.inr ⟨_, _, vs, ws, rfl, rfl, q1, q2, by rw [← p1.length, ← p2.length]; exact hz, fun p hp => ?_⟩))
                    exact g (m ++ [p]) _ _ (le_more r hp) (rel_newlist r hp (p1.append p2)) (.loc (len_get r))
                  · rw [show dAdd (.loc l) (.loc k) s = none by simp [dAdd, e1, e2, hz]] at g; exact g.elim
    | _ => exact g.elim
  | _ => exact g.elim
def dSub := dI fun i j => some (.int (i - j))
theorem ops_sub : OpS K (rI0 fun i j => .int (i - j)) dSub := ops_dI0 fun _ _ _ _ => .int _
noncomputable instance (i j : Int) : Decidable (CMul i j) := Classical.propDecidable _
noncomputable instance (i j : Int) : Decidable (CDiv i j) := Classical.propDecidable _
noncomputable instance (i j : Int) : Decidable (CDivN i j) := Classical.propDecidable _
noncomputable instance (i j : Int) : Decidable (CPow i j) := Classical.propDecidable _
noncomputable def dMul := dI fun i j => if CMul i j then some (.int (i * j)) else none
theorem ops_mul : OpS K (rI CMul fun i j => .int (i * j)) dMul := ops_dI fun i j d h => by
  split at h
  · cases h; exact ⟨by assumption, fun _ _ => .int _⟩
  · cases h
noncomputable def dDiv := dI fun i j => if CDiv i j then some (.int (i / j)) else none
theorem ops_div : OpS K (rI CDiv fun i j => .int (i / j)) dDiv := ops_dI fun i j d h => by
  split at h
  · cases h; exact ⟨by assumption, fun _ _ => .int _⟩
  · cases h
noncomputable def dMod := dI fun i j => if 0 < j then some (.int (i % j)) else none
theorem ops_mod : OpS K (rI (fun _ j => 0 < j) fun i j => .int (i % j)) dMod := ops_dI fun i j d h => by
  split at h
  · cases h; exact ⟨by assumption, fun _ _ => .int _⟩
  · cases h
noncomputable def dPow := dI fun i j => if CPow i j then some (.int (i ^ j.toNat)) else none
theorem ops_pow : OpS K (rI CPow fun i j => .int (i ^ j.toNat)) dPow := ops_dI fun i j d h => by
  split at h
  · cases h; exact ⟨by assumption, fun _ _ => .int _⟩
  · cases h
def dNeg : D → Store → Option (D × Store)
  | .int i, s => some (.int (-i), s)
  | _, _ => none
theorem uns_neg : UnS K (rU fun i => .int (-i)) dNeg := by
  intro mg W σ m H s x d Q r p g
  cases d with
  | int i => cases p; exact ⟨i, rfl, g.now r (.int _)⟩
  | _ => exact g.elim
/-! #### comparisons -/
def dLt : D → D → Store → Option (D × Store)
  | .int i, .int j, s => some (.bl (decide (i < j)), s)
  | .str x, .str y, s => some (.bl (decide (x.cps.toList < y.cps.toList)), s)
  | _, _, _ => none
def dLe : D → D → Store → Option (D × Store)
  | .int i, .int j, s => some (.bl (decide (i ≤ j)), s)
  | .str x, .str y, s => some (.bl (!decide (y.cps.toList < x.cps.toList)), s)
  | _, _, _ => none
def dGt : D → D → Store → Option (D × Store)
  | .int i, .int j, s => some (.bl (decide (j < i)), s)
  | .str x, .str y, s => some (.bl (decide (y.cps.toList < x.cps.toList)), s)
  | _, _, _ => none
def dGe : D → D → Store → Option (D × Store)
  | .int i, .int j, s => some (.bl (decide (j ≤ i)), s)
  | .str x, .str y, s => some (.bl (!decide (x.cps.toList < y.cps.toList)), s)
  | _, _, _ => none
def rCmpA (f : Int → Int → Bool) (k : Str → Str → Bool) : R2 := fun x y H Q => rI0 (fun i j => .bl (f i j)) x y H Q ∨ ∃ i j, x = .str i ∧ y = .str j ∧ Q (.bl (k i j)) H
theorem ops_cmp {f : Int → Int → Bool} {k : Str → Str → Bool} {g : D → D → Store → Option (D × Store)} (h1 : ∀ i j s, g (.int i) (.int j) s = some (.bl (f i j), s)) (h2 : ∀ i j s, g (.str i) (.str j) s = some (.bl (k i j), s))
    (h3 : ∀ x y s, (∀ i j, x = .int i → y = .int j → False) → (∀ i j, x = .str i → y = .str j → False) → g x y s = none) : OpS K (rCmpA f k) g := by
  intro mg W σ m H s x y dx dy Q r px py q
  by_cases ha : ∃ i j, dx = .int i ∧ dy = .int j
  · obtain ⟨i, j, rfl, rfl⟩ := ha
    cases px; cases py
    rw [h1] at q
    exact .inl ⟨i, j, rfl, rfl, q.now r (.bl _)⟩
  · by_cases hb : ∃ i j, dx = .str i ∧ dy = .str j
    · obtain ⟨i, j, rfl, rfl⟩ := hb
      cases px; cases py
      rw [h2] at q
      exact .inr ⟨i, j, rfl, rfl, q.now r (.bl _)⟩
    · rw [h3 dx dy s (fun i j e1 e2 => ha ⟨i, j, e1, e2⟩) (fun i j e1 e2 => hb ⟨i, j, e1, e2⟩)] at q
      exact q.elim
theorem ops_lt : OpS K (rCmpA (fun i j => decide (i < j)) fun x y => decide (x.cps.toList < y.cps.toList)) dLt :=
  ops_cmp (fun _ _ _ => rfl) (fun _ _ _ => rfl) fun x y s h1 h2 => by cases x <;> cases y <;> first | rfl | exact (h1 _ _ rfl rfl).elim | exact (h2 _ _ rfl rfl).elim
theorem ops_le : OpS K (rCmpA (fun i j => decide (i ≤ j)) fun x y => !decide (y.cps.toList < x.cps.toList)) dLe :=
  ops_cmp (fun _ _ _ => rfl) (fun _ _ _ => rfl) fun x y s h1 h2 => by cases x <;> cases y <;> first | rfl | exact (h1 _ _ rfl rfl).elim | exact (h2 _ _ rfl rfl).elim
theorem ops_gt : OpS K (rCmpA (fun i j => decide (j < i)) fun x y => decide (y.cps.toList < x.cps.toList)) dGt :=
  ops_cmp (fun _ _ _ => rfl) (fun _ _ _ => rfl) fun x y s h1 h2 => by cases x <;> cases y <;> first | rfl | exact (h1 _ _ rfl rfl).elim | exact (h2 _ _ rfl rfl).elim
theorem ops_ge : OpS K (rCmpA (fun i j => decide (j ≤ i)) fun x y => !decide (x.cps.toList < y.cps.toList)) dGe :=
  ops_cmp (fun _ _ _ => rfl) (fun _ _ _ => rfl) fun x y s h1 h2 => by cases x <;> cases y <;> first | rfl | exact (h1 _ _ rfl rfl).elim | exact (h2 _ _ rfl rfl).elim
theorem opA_lt {X : Cx} : OpR X (compareOp .Lt) (rCmpA (fun i j => decide (i < j)) fun x y => decide (x.cps.toList < y.cps.toList)) := op_lt.or op_lt_str
theorem opA_le {X : Cx} : OpR X (compareOp .LtE) (rCmpA (fun i j => decide (i ≤ j)) fun x y => !decide (y.cps.toList < x.cps.toList)) := op_le.or op_le_str
theorem opA_gt {X : Cx} : OpR X (compareOp .Gt) (rCmpA (fun i j => decide (j < i)) fun x y => decide (y.cps.toList < x.cps.toList)) := op_gt.or op_gt_str
theorem opA_ge {X : Cx} : OpR X (compareOp .GtE) (rCmpA (fun i j => decide (j ≤ i)) fun x y => !decide (x.cps.toList < y.cps.toList)) := op_ge.or op_ge_str
/-! #### == and != -/
mutual
/-- data without places -/
def py0 : D → Option PyData
  | .non => some .none
  | .bl b => some (.bool b)
  | .int i => some (.int i)
  | .str x => some (.str x)
  | .tup xs => (pys0 xs).map .tuple
  | .fl xs => (pys0 xs).map .list
  | .loc _ => none
  | .exv _ _ _ _ => none
def pys0 : List D → Option (List PyData)
  | [] => some []
  | x :: xs => (py0 x).bind fun a => (pys0 xs).map fun r => a :: r
end
/-- data, a list of the store at its head -/
def py1 (s : Store) : D → Option PyData
  | .loc l => match s[l]? with
    | some (.lst xs) => (pys0 xs).map .list
    | _ => none
  | d => py0 d
mutual
theorem py0_dp {m : List Addr} {H : Hp} : ∀ {d : D} {v : V} {p : PyData}, Rep K m H d v → py0 d = some p → Dp K H v p
  | .non, _, _, .non, e => by cases e; exact .non
  | .bl b, _, _, .bl _, e => by cases e; exact .bl b
  | .int b, _, _, .int _, e => by cases e; exact .int b
  | .str b, _, _, .str _, e => by cases e; exact .str b
  | .tup xs, _, _, .tup h r, e => by
    unfold py0 at e
    cases q : pys0 xs with
    | none => rw [q] at e; cases e
    | some ps => rw [q] at e; cases e; exact .tup (.inl (.inl h)) (pys0_dp r q)
  | .fl xs, _, _, .fl h r, e => by
    unfold py0 at e
    cases q : pys0 xs with
    | none => rw [q] at e; cases e
    | some ps => rw [q] at e; cases e; exact .lst h.sq (pys0_dp r q)
  | .loc _, _, _, _, e => by cases e
  | .exv _ _ _ _, _, _, _, e => by cases e
theorem pys0_dp {m : List Addr} {H : Hp} : ∀ {ds : List D} {vs : List V} {ps : List PyData}, Reps K m H ds vs → pys0 ds = some ps → DpAll K H vs ps
  | [], _, _, .nil, e => by cases e; exact .nil
  | x :: xs, _, _, .cons h r, e => by
    unfold pys0 at e
    cases q : py0 x with
    | none => rw [q] at e; cases e
    | some a =>
      cases q2 : pys0 xs with
      | none => rw [q, q2] at e; cases e
      | some b => rw [q, q2] at e; cases e; exact .cons (py0_dp h q) (pys0_dp r q2)
end
theorem py1_dp {m : List Addr} {H : Hp} {s : Store} (r : Rel K m H s) {d : D} {v : V} {p : PyData} (h : Rep K m H d v) (e : py1 s d = some p) : Dp K H v p := by
  cases d with
  | loc l =>
    cases h with
    | loc h =>
      unfold py1 at e
      cases q : s[l]? with
      | none => simp [q] at e
      | some c =>
        cases c with
        | dic _ => simp [q] at e
        | dct _ => simp [q] at e
        | lst xs =>
          simp only [q] at e
          obtain ⟨vs, q1, p1⟩ := r.list h q
          cases q2 : pys0 xs with
          | none => rw [q2] at e; cases e
          | some ps => rw [q2] at e; cases e; exact .lst (.inl (.inl q1)) (pys0_dp p1 q2)
  | _ => exact py0_dp h e
/-- scalars that == tells apart without more -/
def dScal : D → D → Option Bool
  | .non, .non => some true
  | .non, .int _ => some false | .int _, .non => some false | .non, .bl _ => some false | .bl _, .non => some false | .non, .str _ => some false | .str _, .non => some false
  | .int i, .int j => some (decide (i = j)) | .bl i, .bl j => some (decide (i = j)) | .str i, .str j => some (decide (i = j))
  | .int _, .str _ => some false | .str _, .int _ => some false | .bl _, .str _ => some false | .str _, .bl _ => some false
  | _, _ => none
def dEqB (x y : D) (s : Store) : Option Bool := match dScal x y with
  | some b => some b
  | none => (py1 s x).bind fun a => (py1 s y).bind fun b => if SeqAt.shaped a && SeqAt.shaped b then some (PyData.eqv a b) else none
def dEq (x y : D) (s : Store) : Option (D × Store) := (dEqB x y s).map fun b => (.bl b, s)
def dNe (x y : D) (s : Store) : Option (D × Store) := (dEqB x y s).map fun b => (.bl !b, s)
def rEqA (K : PySem.W.Frag) : R2 := fun x y H Q => rEq x y H Q ∨ rEqD K x y H Q
def rNeA (K : PySem.W.Frag) : R2 := fun x y H Q => rNe x y H Q ∨ rNeD K x y H Q
theorem opA_eq {X : Cx} (hu : X.A.units + 64 < cLine) : OpR X (compareOp .Eq) (rEqA X.K) := op_eq.or (op_eqD hu)
theorem opA_ne {X : Cx} (hu : X.A.units + 64 < cLine) : OpR X (compareOp .NotEq) (rNeA X.K) := op_ne.or (op_neD hu)
theorem scal_of {m : List Addr} {H : Hp} {dx dy : D} {x y : V} {b : Bool} (px : Rep K m H dx x) (py : Rep K m H dy y) (e : dScal dx dy = some b) : scal x y = true ∧ decide (x = y) = b := by
  cases px <;> cases py <;> first | (cases e; done) | (cases e; exact ⟨rfl, by simp⟩)
theorem eqB_cases {m : List Addr} {H : Hp} {s : Store} (r : Rel K m H s) {dx dy : D} {x y : V} {b : Bool} (px : Rep K m H dx x) (py : Rep K m H dy y) (e : dEqB dx dy s = some b) :
    (scal x y = true ∧ decide (x = y) = b) ∨ ∃ d e', Dp K H x d ∧ Dp K H y e' ∧ SeqAt.shaped d = true ∧ SeqAt.shaped e' = true ∧ PyData.eqv d e' = b := by
  unfold dEqB at e
  cases q : dScal dx dy with
  | some c => rw [q] at e; cases e; exact .inl (scal_of px py q)
  | none =>
    rw [q] at e
    cases q1 : py1 s dx with
    | none => rw [q1] at e; cases e
    | some a =>
      cases q2 : py1 s dy with
      | none => rw [q1, q2] at e; cases e
      | some c =>
        rw [q1, q2] at e
        simp only [Option.bind_some] at e
        split at e
        · rename_i hs
          rw [Bool.and_eq_true] at hs
          cases e
          exact .inr ⟨a, c, py1_dp r px q1, py1_dp r py q2, hs.1, hs.2, rfl⟩
        · cases e
theorem ops_eq : OpS K (rEqA K) dEq := by
  intro mg W σ m H s x y dx dy Q r px py g
  unfold dEq at g
  cases e : dEqB dx dy s with
  | none => rw [e] at g; exact g.elim
  | some b =>
    rw [e] at g
    have q := g.now r (.bl b)
    rcases eqB_cases r px py e with ⟨h1, h2⟩ | ⟨d, e', h1, h2, h3, h4, h5⟩
    · exact .inl ⟨h1, by rw [h2]; exact q⟩
    · exact .inr ⟨d, e', h1, h2, h3, h4, by rw [h5]; exact q⟩
theorem ops_ne : OpS K (rNeA K) dNe := by
  intro mg W σ m H s x y dx dy Q r px py g
  unfold dNe at g
  cases e : dEqB dx dy s with
  | none => rw [e] at g; exact g.elim
  | some b =>
    rw [e] at g
    have q := g.now r (.bl (!b))
    rcases eqB_cases r px py e with ⟨h1, h2⟩ | ⟨d, e', h1, h2, h3, h4, h5⟩
    · exact .inl ⟨h1, by rw [h2]; exact q⟩
    · exact .inr ⟨d, e', h1, h2, h3, h4, by rw [h5]; exact q⟩
/-! #### is, is not: None, True, False -/
theorem is_bool_gen {M : Model} {A : Around} {E : Value → Shared → Prop} {s : Shared} {Q : Value → Shared → Prop} {v : Value} {b : Bool} (hn : ∀ i, v ≠ .builtin i) (h : Q (.bool (v == .bool b)) s) : wpAny M A (compareOp .Is v (.bool b)) Q E s := by
  cases v <;> first | exact wpAny_pure h | exact (hn _ rfl).elim
theorem isnot_bool_gen {M : Model} {A : Around} {E : Value → Shared → Prop} {s : Shared} {Q : Value → Shared → Prop} {v : Value} {b : Bool} (hn : ∀ i, v ≠ .builtin i) (h : Q (.bool (!(v == .bool b))) s) : wpAny M A (compareOp .IsNot v (.bool b)) Q E s := by
  cases v <;> first | exact wpAny_pure h | exact (hn _ rfl).elim
theorem relv_nb {x : V} {v : Value} (r : RelV x v) : ∀ i, v ≠ .builtin i := fun i e => by
  subst e
  cases x with
  | non => cases r
  | bl c => cases r
  | int i => obtain ⟨t, e⟩ := r; cases e
  | str i => obtain ⟨t, e⟩ := r; cases e
  | byt i => obtain ⟨t, e⟩ := r; cases e
  | flt i => obtain ⟨t, e⟩ := r; cases e
  | ref i => cases r
  | ty i => cases r
theorem relv_bool {x : V} {v : Value} {b : Bool} (r : RelV x v) : (v == .bool b) = decide (x = .bl b) := by
  cases x with
  | non => cases r; simp
  | bl c => cases r; cases c <;> cases b <;> rfl
  | int i => obtain ⟨t, rfl⟩ := r; simp
  | str i => obtain ⟨t, rfl⟩ := r; simp
  | byt i => obtain ⟨t, rfl⟩ := r; simp
  | flt i => obtain ⟨t, rfl⟩ := r; simp
  | ref i => cases r; simp
  | ty i => cases r; simp
theorem op_isB {X : Cx} : OpR X (compareOp .Is) (fun x y H Q => ∃ b, y = .bl b ∧ Q (.bl (decide (x = .bl b))) H) := by
  intro pins s σ H x y v u Q I rx ry h
  obtain ⟨b, rfl, q⟩ := h
  cases ry
  exact is_bool_gen (relv_nb rx) (fin_bl I q (relv_bool rx).symm)
theorem op_notB {X : Cx} : OpR X (compareOp .IsNot) (fun x y H Q => ∃ b, y = .bl b ∧ Q (.bl (!decide (x = .bl b))) H) := by
  intro pins s σ H x y v u Q I rx ry h
  obtain ⟨b, rfl, q⟩ := h
  cases ry
  exact isnot_bool_gen (relv_nb rx) (fin_bl I q (by rw [relv_bool rx]))
def dIsB : D → D → Option Bool
  | .non, .non => some true
  | _, .non => some false
  | .bl c, .bl b => some (decide (c = b))
  | _, .bl _ => some false
  | _, _ => none
def dIs (x y : D) (s : Store) : Option (D × Store) := (dIsB x y).map fun b => (.bl b, s)
def dIsNot (x y : D) (s : Store) : Option (D × Store) := (dIsB x y).map fun b => (.bl !b, s)
def rIsA : R2 := fun x y H Q => (y = .non ∧ Q (.bl (decide (x = .non))) H) ∨ ∃ b, y = .bl b ∧ Q (.bl (decide (x = .bl b))) H
def rNotA : R2 := fun x y H Q => (y = .non ∧ Q (.bl (!decide (x = .non))) H) ∨ ∃ b, y = .bl b ∧ Q (.bl (!decide (x = .bl b))) H
theorem opA_is {X : Cx} : OpR X (compareOp .Is) rIsA := op_isN.or op_isB
theorem opA_isnot {X : Cx} : OpR X (compareOp .IsNot) rNotA := op_notN.or op_notB
theorem isB_cases {m : List Addr} {H : Hp} {dx dy : D} {x y : V} {b : Bool} (px : Rep K m H dx x) (py : Rep K m H dy y) (e : dIsB dx dy = some b) : (y = .non ∧ decide (x = .non) = b) ∨ ∃ c, y = .bl c ∧ decide (x = .bl c) = b := by
  cases py with
  | non => refine .inl ⟨rfl, ?_⟩; cases px <;> (cases e; simp)
  | bl c => refine .inr ⟨c, rfl, ?_⟩; cases px <;> (cases e; simp)
  | _ => cases px <;> cases e
theorem ops_is : OpS K rIsA dIs := by
  intro mg W σ m H s x y dx dy Q r px py g
  unfold dIs at g
  cases e : dIsB dx dy with
  | none => rw [e] at g; exact g.elim
  | some b =>
    rw [e] at g
    have q := g.now r (.bl b)
    rcases isB_cases px py e with ⟨rfl, h⟩ | ⟨c, rfl, h⟩
    · exact .inl ⟨rfl, by rw [h]; exact q⟩
    · exact .inr ⟨c, rfl, by rw [h]; exact q⟩
theorem ops_isnot : OpS K rNotA dIsNot := by
  intro mg W σ m H s x y dx dy Q r px py g
  unfold dIsNot at g
  cases e : dIsB dx dy with
  | none => rw [e] at g; exact g.elim
  | some b =>
    rw [e] at g
    have q := g.now r (.bl (!b))
    rcases isB_cases px py e with ⟨rfl, h⟩ | ⟨c, rfl, h⟩
    · exact .inl ⟨rfl, by rw [h]; exact q⟩
    · exact .inr ⟨c, rfl, by rw [h]; exact q⟩
end
end Mi
namespace Mi
open PySem PySem.Spec PyProof.Rows L2
section
variable {K : PySem.W.Frag} {m : List Addr} {H : Hp} {s : Store}
theorem Rep.sqT {xs : List D} {v : V} (h : Rep K m H (.tup xs) v) : ∃ a vs, v = .ref a ∧ SqT K H a vs ∧ Reps K m H xs vs := by
  cases h with
  | tup h r => exact ⟨_, _, rfl, .inl (.inl h), r⟩
theorem Rep.trk {xs : List D} {v : V} (h : Rep K m H (.tup xs) v) : ∃ a vs, v = .ref a ∧ H a = some (.tup vs) ∧ Reps K m H xs vs := by
  cases h with
  | tup h r => exact ⟨_, _, rfl, h, r⟩
/-- the items of a list: of the store, or never written -/
def lstOf (s : Store) : D → Option (List D)
  | .loc l => match s[l]? with
    | some (.lst xs) => some xs
    | _ => none
  | .fl xs => some xs
  | _ => none
theorem lstOf_sq (r : Rel K m H s) {d : D} {v : V} {xs : List D} (p : Rep K m H d v) (e : lstOf s d = some xs) : ∃ a vs, v = .ref a ∧ SqL K H a vs ∧ Reps K m H xs vs := by
  cases d with
  | loc l =>
    cases p with
    | loc h =>
      unfold lstOf at e
      cases q : s[l]? with
      | none => simp [q] at e
      | some c =>
        cases c with
        | dic _ => simp [q] at e
        | dct _ => simp [q] at e
        | lst ys =>
          simp only [q] at e
          cases e
          obtain ⟨vs, h1, h2⟩ := r.list h q
          exact ⟨_, vs, rfl, .inl (.inl h1), h2⟩
  | fl ys =>
    cases e
    cases p with
    | fl h q => exact ⟨_, _, rfl, h.sq, q⟩
  | _ => cases e
/-- list or tuple -/
def seqOf (s : Store) : D → Option (List D)
  | .tup xs => some xs
  | d => lstOf s d
theorem seqOf_sq (r : Rel K m H s) {d : D} {v : V} {xs : List D} (p : Rep K m H d v) (e : seqOf s d = some xs) : ∃ a vs, v = .ref a ∧ (SqL K H a vs ∨ SqT K H a vs) ∧ Reps K m H xs vs := by
  cases d with
  | tup ys =>
    cases e
    obtain ⟨a, vs, h1, h2, h3⟩ := p.sqT
    exact ⟨a, vs, h1, .inr h2, h3⟩
  | loc l => obtain ⟨a, vs, h1, h2, h3⟩ := lstOf_sq (d := .loc l) r p e; exact ⟨a, vs, h1, .inl h2, h3⟩
  | fl l => obtain ⟨a, vs, h1, h2, h3⟩ := lstOf_sq (d := .fl l) r p e; exact ⟨a, vs, h1, .inl h2, h3⟩
  | _ => cases e
/-! #### a[i] -/
def dIx (x i : D) (s : Store) : Option (D × Store) := match i with
  | .int i => match x with
    | .str z => if z.length ≤ sizeLine then (atI z.cps.toList i).map fun c => (.str ⟨#[c]⟩, s) else none
    | x => (seqOf s x).bind fun xs => (atI xs i).map fun d => (d, s)
  | _ => none
theorem Reps.atI {xs : List D} {vs : List V} {i : Int} {d : D} (r : Reps K m H xs vs) (e : L2.atI xs i = some d) : ∃ v, L2.atI vs i = some v ∧ Rep K m H d v := by
  unfold L2.atI at e ⊢
  rw [← r.length]
  cases q : ixN xs.length i with
  | none => rw [q] at e; cases e
  | some j =>
    rw [q] at e
    exact r.get e
theorem ops_ix : OpS K (rIx K) dIx := by
  intro mg W σ m H s x y dx dy Q r px py g
  cases dy with
  | int i =>
    cases py
    have seq : ∀ xs, seqOf s dx = some xs → (∀ d, L2.atI xs i = some d → G K mg (Rep K) W σ m H Q (.ok d s)) → (L2.atI xs i).isSome → rIx K x (.int i) H Q := by
      intro xs e q hs
      obtain ⟨d, hd⟩ := Option.isSome_iff_exists.mp hs
      obtain ⟨a, vs, rfl, hq, rr⟩ := seqOf_sq r px e
      obtain ⟨v, hv, rv⟩ := rr.atI hd
      have q2 := (q d hd).now r rv
      rcases hq with hq | hq
      · exact .inl ⟨a, vs, i, v, rfl, rfl, hq, hv, q2⟩
      · exact .inr (.inl ⟨a, vs, i, v, rfl, rfl, hq, hv, q2⟩)
    have gen : (∀ z, dx ≠ .str z) → rIx K x (.int i) H Q := by
      intro hn
      have e : dIx dx (.int i) s = (seqOf s dx).bind fun xs => (L2.atI xs i).map fun d => (d, s) := by
        cases dx <;> first | rfl | exact (hn _ rfl).elim
      rw [e] at g
      cases q : seqOf s dx with
      | none => rw [q] at g; exact g.elim
      | some xs =>
        rw [q] at g
        cases q2 : L2.atI xs i with
        | none => simp [q2] at g; exact g.elim
        | some d =>
          simp [q2] at g
          exact seq xs q (fun d' h => by rw [q2] at h; cases h; exact g) (by simp [q2])
    cases dx with
    | str z =>
      cases px
      by_cases hz : z.length ≤ sizeLine
      · cases q2 : L2.atI z.cps.toList i with
        | none => simp [dIx, hz, q2] at g; exact g.elim
        | some c =>
          simp [dIx, hz, q2] at g
          exact .inr (.inr ⟨z, i, c, rfl, rfl, hz, q2, g.now r (.str _)⟩)
      · simp [dIx, hz] at g; exact g.elim
    | _ => exact gen (fun z e => by cases e)
  | _ => exact g.elim
/-! #### slices -/
def cutD (xs : List D) (lo hi : Option Int) : List D := (xs.drop (HT.sIx xs.length 0 lo)).take (HT.sIx xs.length xs.length hi - HT.sIx xs.length 0 lo)
theorem Reps.cut {xs : List D} {vs : List V} (r : Reps K m H xs vs) (lo hi : Option Int) : Reps K m H (cutD xs lo hi) (cutV vs lo hi) := by
  unfold cutD cutV
  rw [← r.length]
  exact (r.drop _).take _
def dSl (x : D) (lo hi : Option Int) (s : Store) : Option (D × Store) := match x with
  | .tup xs => some (.tup (cutD xs lo hi), s)
  | x => (lstOf s x).map fun xs => (.loc s.length, s ++ [.lst (cutD xs lo hi)])
def SlS (K : PySem.W.Frag) (r : V → Option Int → Option Int → Hp → VK → Prop) (g : D → Option Int → Option Int → Store → Option (D × Store)) : Prop :=
  ∀ {mg : Str → Option Value} {W : WX} {σ : L2.St} {m : List Addr} {H : Hp} {s : Store} {x : V} {d : D} {lo hi : Option Int} {Q : VK}, Rel K m H s → Rep K m H d x → G K mg (Rep K) W σ m H Q (R.of (g d lo hi s)) → r x lo hi H Q
def rSlS : V → Option Int → Option Int → Hp → VK → Prop := fun x lo hi H Q => ∃ z : Str, x = .str z ∧ z.length ≤ sizeLine ∧ Q (.str (cutS z lo hi)) H
def rSlLT (K : PySem.W.Frag) : V → Option Int → Option Int → Hp → VK → Prop := fun x lo hi H Q => rSlL K x lo hi H Q ∨ rSlA K x lo hi H Q
theorem sl_LT {X : Cx} : SlR X (rSlLT X.K) := sl_list.or sl_tupA
theorem sls_LT : SlS K (rSlLT K) dSl := by
  intro mg W σ m H s x d lo hi Q r p g
  have lst : ∀ xs, lstOf s d = some xs → G K mg (Rep K) W σ m H Q (.ok (.loc s.length) (s ++ [.lst (cutD xs lo hi)])) → rSlLT K x lo hi H Q := by
    intro xs e q
    obtain ⟨a, vs, rfl, hq, rr⟩ := lstOf_sq r p e
    exact .inl ⟨a, vs, rfl, hq, fun q' hq' => q (m ++ [q']) _ _ (le_more r hq') (rel_newlist r hq' (rr.cut lo hi)) (.loc (len_get r))⟩
  have gen : (∀ ys, d ≠ .tup ys) → rSlLT K x lo hi H Q := by
    intro hn
    have e : dSl d lo hi s = (lstOf s d).map fun xs => (.loc s.length, s ++ [.lst (cutD xs lo hi)]) := by
      cases d <;> first | rfl | exact (hn _ rfl).elim
    rw [e] at g
    cases q : lstOf s d with
    | none => rw [q] at g; exact g.elim
    | some xs => rw [q] at g; exact lst xs q g
  cases d with
  | tup xs =>
    obtain ⟨a, vs, rfl, hq, rr⟩ := p.sqT
    have g' : G K mg (Rep K) W σ m H Q (.ok (.tup (cutD xs lo hi)) s) := g
    refine .inr ⟨a, vs, rfl, hq, fun w => ?_, fun _ q hn => g' m _ _ (le_new hn) (r.tmp hn) (rep_newtup hn (rr.cut lo hi))⟩
    have e : cutD xs lo hi = xs := by
      unfold cutD
      rw [rr.length, w.1, w.2, ← rr.length]
      simp
    rw [e] at g'
    exact g'.now r p
  | _ => exact gen (fun z e => by cases e)
def oNone : ME (Option Int) := fun _ s => .ok none s
def oSome (a : ME D) : ME (Option Int) := fun env s => (a env s).bind fun x s => match x with
  | .int i => .ok (some i) s
  | _ => .no
def ρO : List Addr → Hp → Option Int → Option Int → Prop := fun _ _ a b => a = b
abbrev To (K : PySem.W.Frag) (mg : Str → Option Value) (W : WX) (f : ME (Option Int)) : TO := Tm K mg ρO W f
def eSl (g : D → Option Int → Option Int → Store → Option (D × Store)) (a : ME D) (lo hi : ME (Option Int)) : ME D := fun env s => (a env s).bind fun x s => (lo env s).bind fun l s => (hi env s).bind fun u s => R.of (g x l u s)
end
section
variable {X : Cx} {W : WX} {pos p2 : Pos} {a b c e : Expr} {es : List Expr} {fa fb fc : ME D} {ga gb : ME Bool} {fs : ME (List D)} {ol oh : ME (Option Int)} {lo hi : Option Expr}
theorem co_none : PO X none (To X.K X.mg W oNone) := ⟨fun pins s σ H Q I ⟨m, env, st, r, E, g⟩ => po_none.run pins s σ H Q I (g m H none .refl r rfl)⟩
theorem co_some (h : PE X e (Te X.K X.mg W fa)) : PO X (some e) (To X.K X.mg W (oSome fa)) := ⟨fun pins s σ H Q I q =>
  (po_some h).run pins s σ H Q I (Tm.bind (k := fun _ x s => match x with | .int i => R.ok (some i) s | _ => R.no) q fun m1 H1 env x v s1 r1 E1 p1 g1 => by
    cases x with
    | int i => cases p1; exact ⟨i, rfl, g1 m1 H1 (some i) .refl r1 rfl⟩
    | _ => exact g1.elim)⟩
theorem ce_sl {r : V → Option Int → Option Int → Hp → VK → Prop} {g : D → Option Int → Option Int → Store → Option (D × Store)} (hr : SlR X r) (hs : SlS X.K r g) (ha : PE X a (Te X.K X.mg W fa)) (hl : PO X lo (To X.K X.mg W ol)) (hu : PO X hi (To X.K X.mg W oh)) :
    PE X (.Subscript a (.Slice lo hi none p2) pos) (Te X.K X.mg W (eSl g fa ol oh)) :=
  PE.imp (pe_slice hr ha hl hu) fun σ H Q h => Tm.bind (k := fun env x s => (ol env s).bind fun l s => (oh env s).bind fun u s => R.of (g x l u s)) h fun m1 H1 env x v s1 r1 E1 p1 g1 =>
    ⟨m1, env, s1, r1, E1, G.bind g1 fun m2 H2 l l' s2 l2 r2 p2 g2 => ⟨m2, env, s2, r2, E1.mono l2, G.bind g2 fun m3 H3 u u' s3 l3 r3 p3 g3 => by
      cases (show l = l' from p2); cases (show u = u' from p3)
      exact hs r3 ((p1.mono l2).mono l3) g3⟩⟩
end
/-! #### calls of builtins -/
section
variable {K : PySem.W.Frag}
def dLen : List D → Store → Option (D × Store)
  | [.str z], s => if z.length ≤ sizeLine then some (.int z.length, s) else none
  | [x], s => (seqOf s x).map fun xs => (.int xs.length, s)
  | _, _ => none
theorem fns_len : FnS K (fun xs H Q => ∃ x n, xs = [x] ∧ LenV K x H n ∧ Q (.int n) H) dLen := by
  intro mg W σ m H s xs ds Q r p g
  cases p with
  | nil => exact g.elim
  | @cons d v ds2 vs2 h p =>
    cases p with
    | cons h2 p2 => cases d <;> exact g.elim
    | nil =>
      have seq : ∀ xs, seqOf s d = some xs → G K mg (Rep K) W σ m H Q (.ok (.int xs.length) s) → ∃ x n, [v] = [x] ∧ LenV K x H n ∧ Q (.int n) H := by
        intro xs e q
        obtain ⟨a, vs, rfl, hq, rr⟩ := seqOf_sq r h e
        refine ⟨.ref a, xs.length, rfl, ?_, q.now r (.int _)⟩
        rcases hq with hq | hq
        · exact .inl ⟨vs, hq, rr.length⟩
        · exact .inr ⟨vs, hq, rr.length⟩
      have gen : (∀ z, d ≠ .str z) → ∃ x n, [v] = [x] ∧ LenV K x H n ∧ Q (.int n) H := by
        intro hn
        have e : dLen [d] s = (seqOf s d).map fun xs => (.int xs.length, s) := by cases d <;> first | rfl | exact (hn _ rfl).elim
        rw [e] at g
        cases q : seqOf s d with
        | none => rw [q] at g; exact g.elim
        | some xs => rw [q] at g; exact seq xs q g
      cases d with
      | str z =>
        cases h
        by_cases hz : z.length ≤ sizeLine
        · simp [dLen, hz] at g
          exact ⟨.str z, z.length, rfl, ⟨hz, rfl⟩, g.now r (.int _)⟩
        · simp [dLen, hz] at g; exact g.elim
      | _ => exact gen (fun z e => by cases e)
def dInt : List D → Store → Option (D × Store)
  | [.int i], s => some (.int i, s)
  | [.bl k], s => some (.int (if k then 1 else 0), s)
  | _, _ => none
theorem reps1 {m : List Addr} {H : Hp} {d : D} {xs : List V} (p : Reps K m H [d] xs) : ∃ v, xs = [v] ∧ Rep K m H d v := by
  cases p with
  | cons h p => cases p; exact ⟨_, rfl, h⟩
theorem reps2 {m : List Addr} {H : Hp} {d e : D} {xs : List V} (p : Reps K m H [d, e] xs) : ∃ v w, xs = [v, w] ∧ Rep K m H d v ∧ Rep K m H e w := by
  cases p with
  | cons h p =>
    obtain ⟨w, rfl, q⟩ := reps1 p
    exact ⟨_, w, rfl, h, q⟩
theorem fns_int : FnS K (fun xs H Q => (∃ i, xs = [.int i] ∧ Q (.int i) H) ∨ ∃ k, xs = [.bl k] ∧ Q (.int (if k then 1 else 0)) H) dInt := by
  intro mg W σ m H s xs ds Q r p g
  unfold dInt at g
  split at g
  · obtain ⟨v, rfl, h⟩ := reps1 p
    cases h
    exact .inl ⟨_, rfl, g.now r (.int _)⟩
  · obtain ⟨v, rfl, h⟩ := reps1 p
    cases h
    exact .inr ⟨_, rfl, g.now r (.int _)⟩
  · exact g.elim
def dAbs : List D → Store → Option (D × Store)
  | [.int i], s => some (.int (if i < 0 then -i else i), s)
  | _, _ => none
theorem fns_abs : FnS K (fun xs H Q => ∃ i, xs = [.int i] ∧ Q (.int (if i < 0 then -i else i)) H) dAbs := by
  intro mg W σ m H s xs ds Q r p g
  unfold dAbs at g
  split at g
  · obtain ⟨v, rfl, h⟩ := reps1 p
    cases h
    exact ⟨_, rfl, g.now r (.int _)⟩
  · exact g.elim
def dMax2 : List D → Store → Option (D × Store)
  | [.int i, .int j], s => some (.int (if j > i then j else i), s)
  | _, _ => none
theorem fns_max2 : FnS K (fun xs H Q => ∃ i j, xs = [.int i, .int j] ∧ Q (.int (if j > i then j else i)) H) dMax2 := by
  intro mg W σ m H s xs ds Q r p g
  unfold dMax2 at g
  split at g
  · obtain ⟨v, w, rfl, h, h2⟩ := reps2 p
    cases h; cases h2
    exact ⟨_, _, rfl, g.now r (.int _)⟩
  · exact g.elim
def dMin2 : List D → Store → Option (D × Store)
  | [.int i, .int j], s => some (.int (if j < i then j else i), s)
  | _, _ => none
theorem fns_min2 : FnS K (fun xs H Q => ∃ i j, xs = [.int i, .int j] ∧ Q (.int (if j < i then j else i)) H) dMin2 := by
  intro mg W σ m H s xs ds Q r p g
  unfold dMin2 at g
  split at g
  · obtain ⟨v, w, rfl, h, h2⟩ := reps2 p
    cases h; cases h2
    exact ⟨_, _, rfl, g.now r (.int _)⟩
  · exact g.elim
/-- all ints -/
def intsOf : List D → Option (List Int)
  | [] => some []
  | .int i :: r => (intsOf r).map fun x => i :: x
  | _ :: _ => none
theorem intsOf_map (ns : List Int) : intsOf (ns.map D.int) = some ns := by
  induction ns with
  | nil => rfl
  | cons n ns ih => simp [intsOf, ih]
theorem of_intsOf : ∀ {ds : List D} {ns : List Int}, intsOf ds = some ns → ds = ns.map D.int
  | [], _, e => by cases e; rfl
  | d :: ds, ns, e => by
    cases d with
    | int i =>
      unfold intsOf at e
      cases q : intsOf ds with
      | none => rw [q] at e; cases e
      | some x => rw [q] at e; cases e; rw [List.map_cons, of_intsOf q]
    | _ => cases e
def dSum : List D → Store → Option (D × Store)
  | [x], s => (lstOf s x).bind fun xs => (intsOf xs).map fun ns => (.int ns.sum, s)
  | _, _ => none
theorem fns_sum : FnS K (rSum K) dSum := by
  intro mg W σ m H s xs ds Q r p g
  unfold dSum at g
  split at g
  · obtain ⟨v, rfl, h⟩ := reps1 p
    rename_i x
    cases q : lstOf s x with
    | none => rw [q] at g; exact g.elim
    | some ys =>
      rw [q] at g
      cases q2 : intsOf ys with
      | none => simp [q2] at g; exact g.elim
      | some ns =>
        simp [q2] at g
        obtain ⟨a, vs, rfl, hq, rr⟩ := lstOf_sq r h q
        rw [of_intsOf q2] at rr
        have e := rr.ints
        subst e
        exact ⟨a, ns, rfl, hq, g.now r (.int _)⟩
  · exact g.elim
def dTuple : List D → Store → Option (D × Store)
  | [x], s => (seqOf s x).map fun xs => (.tup xs, s)
  | _, _ => none
theorem fns_tuple : FnS K (fun xs H Q => ∃ p ys, xs = [.ref p] ∧ ((SqL K H p ys ∧ ∀ l, H l = none → Q (.ref l) (upd H l (.tup ys))) ∨ (SqT K H p ys ∧ Q (.ref p) H))) dTuple := by
  intro mg W σ m H s xs ds Q r p g
  unfold dTuple at g
  split at g
  · obtain ⟨v, rfl, h⟩ := reps1 p
    rename_i x
    cases q : seqOf s x with
    | none => rw [q] at g; exact g.elim
    | some ys =>
      rw [q] at g
      have g' : G K mg (Rep K) W σ m H Q (.ok (.tup ys) s) := g
      have gen : (∀ zs, x ≠ .tup zs) → ∃ p ys, [v] = [V.ref p] ∧ ((SqL K H p ys ∧ ∀ l, H l = none → Q (.ref l) (upd H l (.tup ys))) ∨ (SqT K H p ys ∧ Q (.ref p) H)) := fun hn => by
        have q' : lstOf s x = some ys := by cases x <;> first | exact q | exact (hn _ rfl).elim
        obtain ⟨a, vs, rfl, hq, rr⟩ := lstOf_sq r h q'
        exact ⟨a, vs, rfl, .inl ⟨hq, fun l hl => g' m _ _ (le_new hl) (r.tmp hl) (rep_newtup hl rr)⟩⟩
      cases x with
      | tup zs =>
        cases q
        obtain ⟨a, vs, rfl, hq, rr⟩ := h.sqT
        exact ⟨a, vs, rfl, .inr ⟨hq, g'.now r h⟩⟩
      | _ => exact gen fun _ e => by cases e
  · exact g.elim
def dList : List D → Store → Option (D × Store)
  | [x], s => (seqOf s x).map fun xs => (.loc s.length, s ++ [.lst xs])
  | _, _ => none
theorem fns_list : FnS K (fun xs H Q => ∃ p ys, xs = [.ref p] ∧ (SqL K H p ys ∨ SqT K H p ys) ∧ ∀ l, H l = none → Q (.ref l) (upd H l (.lst ys))) dList := by
  intro mg W σ m H s xs ds Q r p g
  unfold dList at g
  split at g
  · obtain ⟨v, rfl, h⟩ := reps1 p
    rename_i x
    cases q : seqOf s x with
    | none => rw [q] at g; exact g.elim
    | some ys =>
      rw [q] at g
      have g' : G K mg (Rep K) W σ m H Q (.ok (.loc s.length) (s ++ [.lst ys])) := g
      obtain ⟨a, vs, rfl, hq, rr⟩ := seqOf_sq r h q
      exact ⟨a, vs, rfl, hq, fun l hl => g' (m ++ [l]) _ _ (le_more r hl) (rel_newlist r hl rr) (.loc (len_get r))⟩
  · exact g.elim
/-! #### isinstance(x, T), T a built-in type -/
def tyN (s : Store) : D → Option String
  | .non => some "NoneType"
  | .bl _ => some "bool"
  | .int _ => some "int"
  | .str _ => some "str"
  | .tup _ => some "tuple"
  | .fl _ => some "list"
  | .loc l => match s[l]? with
    | some (.lst _) => some "list"
    | some (.dic _) => some "dict"
    | some (.dct _) => some "dict"
    | none => none
  | .exv _ _ _ _ => none
theorem tyN_tyx {m : List Addr} {H : Hp} {s : Store} (r : Rel K m H s) {d : D} {v : V} {t : String} (p : Rep K m H d v) (e : tyN s d = some t) : TyX K H v (.type t) := by
  cases p with
  | non => cases e; exact .base .non
  | bl b => cases e; exact .base (.bl b)
  | int b => cases e; exact .base (.int b)
  | str b => cases e; exact .base (.str b)
  | tup h q =>
    have e' : t = "tuple" := (Option.some.inj e).symm
    subst e'
    exact .base (.tup h)
  | fl h q =>
    cases e
    rcases h with ⟨o, h⟩ | ⟨o, _, _, h1, h2, _⟩
    · exact .base (.frz h)
    · exact .kList h1 h2
  | @loc l a h =>
    unfold tyN at e
    cases q : s[l]? with
    | none => simp [q] at e
    | some c =>
      cases c with
      | lst xs => simp [q] at e; subst e; obtain ⟨vs, h1, _⟩ := r.list h q; exact .base (.lst h1)
      | dic xs => simp [q] at e; subst e; obtain ⟨vs, h1, _⟩ := r.at_ l a _ h q; exact .base (.dK h1)
      | dct xs => simp [q] at e; subst e; obtain ⟨vs, h1, _⟩ := r.at_ l a _ h q; exact .base (.dT h1)
  | exv h n r => cases e
def dIsi (T : String) (x : D) (s : Store) : Option (D × Store) := (tyN s x).bind fun t => (kitB t T).map fun b => (.bl b, s)
end
section
variable {X : Cx} {W : WX} {pos p p2 : Pos} {a b c e : Expr} {es : List Expr} {fa fb fc : ME D} {ga gb : ME Bool} {fs : ME (List D)}
theorem ce_isi {T : String} (hg : Gl X "isinstance") (hm : X.mg "isinstance" = none) (hgT : Gl X (T : Str)) (hmT : X.mg (T : Str) = none) (hvT : bootBuiltins (T : Str) = some (.type T)) (ha : PE X a (Te X.K X.mg W fa))
    (hnT : (T : Str) ≠ "__name__" := by decide) (hdT : ((T : Str) == ("__debug__" : Str)) = false := by decide)
    (hv : bootBuiltins "isinstance" = some (.builtin "isinstance") := by decide +kernel) (he : starEach [a, .Name T p2] X.env = (false, eval a X.env) :: starEach [.Name T p2] X.env := by rfl)
    (he2 : starEach [.Name T p2] X.env = (false, eval (.Name T p2) X.env) :: starEach [] X.env := by rfl)
    (hpl : (backTo pos (starEach [.Name T p2] X.env)).any (·.1) = false := by rfl) : PE X (.Call (.Name "isinstance" p) [a, .Name T p2] [] pos) (Te X.K X.mg W (e1 (dIsi T) fa)) :=
  PE.imp (pe_callB call_isi hg hm hv (pa_cons ha (pa_cons (pe_bltn (v := .ty T) hgT hmT hvT rfl hnT hdT) pa_nil he2) he) (by decide) (by decide) he hpl) fun σ H Q h =>
    Tm.bind (k := fun _ x s => R.of (dIsi T x s)) h fun m1 H1 env x v s1 r1 E1 p1 g1 => by
      unfold dIsi at g1
      cases q : tyN s1 x with
      | none => rw [q] at g1; exact g1.elim
      | some t =>
        rw [q] at g1
        cases q2 : kitB t T with
        | none => simp [q2] at g1; exact g1.elim
        | some k =>
          simp [q2] at g1
          exact ⟨v, .ty T, .type t, .type T, k, rfl, .ty T, tyN_tyx r1 p1 q, kit_ty q2, g1.now r1 (.bl _)⟩
/-! #### methods of builtin types -/
def tyOk (T : String) (s : Store) : D → Bool
  | .str _ => T == "str"
  | .int _ => T == "int"
  | .loc l => match s[l]? with
    | some (.lst _) => T == "list"
    | some (.dic _) => T == "dict"
    | some (.dct _) => T == "dict"
    | none => false
  | .fl _ => T == "list"
  | _ => false
theorem tyOk_tyV {T : String} {m : List Addr} {H : Hp} {s : Store} {K : PySem.W.Frag} (r : Rel K m H s) {d : D} {v : V} (p : Rep K m H d v) (e : tyOk T s d = true) : tyV K T v H := by
  cases p with
  | str b => exact beq_iff_eq.mp e
  | int b => exact beq_iff_eq.mp e
  | fl h q => exact .inl ⟨beq_iff_eq.mp e, _, h.sq⟩
  | @loc l a h =>
    unfold tyOk at e
    cases q : s[l]? with
    | none => simp [q] at e
    | some c =>
      cases c with
      | lst xs => simp [q] at e; obtain ⟨vs, h1, _⟩ := r.list h q; exact .inl ⟨e, vs, .inl (.inl h1)⟩
      | dic xs => simp [q] at e; obtain ⟨vs, h1, _⟩ := r.at_ l a _ h q; exact .inr (.inr (.inl ⟨e, .inl ⟨vs, h1⟩⟩))
      | dct xs => simp [q] at e; obtain ⟨vs, h1, _⟩ := r.at_ l a _ h q; exact .inr (.inr (.inl ⟨e, .inr ⟨vs, h1⟩⟩))
  | _ => cases e
def eMt (T : String) (g : D → List D → Store → Option (D × Store)) (a : ME D) (fs : ME (List D)) : ME D := fun env s => (a env s).bind fun x s => if tyOk T s x = true then (fs env s).bind fun xs s => R.of (g x xs s) else .no
def eMt0 (T : String) (g : D → List D → Store → Option (D × Store)) (a : ME D) : ME D := fun env s => (a env s).bind fun x s => if tyOk T s x = true then R.of (g x [] s) else .no
def MtS (K : PySem.W.Frag) (r : V → List V → Hp → VK → Prop) (g : D → List D → Store → Option (D × Store)) : Prop :=
  ∀ {mg : Str → Option Value} {W : WX} {σ : L2.St} {m : List Addr} {H : Hp} {s : Store} {x : V} {d : D} {xs : List V} {ds : List D} {Q : VK}, Rel K m H s → Rep K m H d x → Reps K m H ds xs → G K mg (Rep K) W σ m H Q (R.of (g d ds s)) → r x xs H Q
variable {o : Expr} {T id : String} {name : Str} {apos cpos : Pos} {r : V → List V → Hp → VK → Prop} {g : D → List D → Store → Option (D × Store)} {fo : ME D}
theorem ce_bm0 (pa : PlainAttrs T) (slot : Slot T name id) (hty : typeOf (.builtin id) = pure (.type "method_descriptor")) (hm : MtR X id r) (hs : MtS X.K r g) (ho : PE X o (Te X.K X.mg W fo))
    (hbase : attributeBase o name X.env (eval o X.env) = eval o X.env := by rfl) (hline : (apos.endLine == cpos.line) = true := by rfl) : PE X (.Call (.Attribute o name apos) [] [] cpos) (Te X.K X.mg W (eMt0 T g fo)) :=
  PE.imp (pe_bm0 pa slot hty hm ho hbase hline) fun σ H Q h => Tm.bind (k := fun env x s => if tyOk T s x = true then R.of (g x [] s) else R.no) h fun m1 H1 env x v s1 r1 E1 p1 g1 => by
    by_cases q : tyOk T s1 x = true
    · simp only [q, if_true] at g1
      exact ⟨tyOk_tyV r1 p1 q, hs r1 p1 .nil g1⟩
    · simp only [q, if_false] at g1
      exact g1.elim
theorem ce_bm (pa : PlainAttrs T) (slot : Slot T name id) (hty : typeOf (.builtin id) = pure (.type "method_descriptor")) (hm : MtR X id r) (hs : MtS X.K r g) (ho : PE X o (Te X.K X.mg W fo)) (ha : PA X (e :: es) (Ta X.K X.mg W fs))
    (hbase : attributeBase o name X.env (eval o X.env) = eval o X.env := by rfl)
    (hfew : ((backTo cpos (starEach (e :: es) X.env)).all (fun x => !x.1) && (backToKw cpos (keywordEach [] X.env)).all (fun x => x.1.isSome)
      && decide ((e :: es).length + ([] : List Keyword).length + (if ([] : List Keyword).isEmpty then 0 else 1) < 30)) = true := by rfl)
    (hline : (apos.endLine == cpos.line) = true := by rfl) (hst : starEach (e :: es) X.env = (false, eval e X.env) :: starEach es X.env := by rfl) (hplain : (backTo cpos (starEach es X.env)).any (·.1) = false := by rfl) :
    PE X (.Call (.Attribute o name apos) (e :: es) [] cpos) (Te X.K X.mg W (eMt T g fo fs)) :=
  PE.imp (pe_bm pa slot hty hm ho ha hbase hfew hline hst hplain) fun σ H Q h => Tm.bind (k := fun env x s => if tyOk T s x = true then (fs env s).bind fun xs s => R.of (g x xs s) else R.no) h fun m1 H1 env x v s1 r1 E1 p1 g1 => by
    by_cases q : tyOk T s1 x = true
    · simp only [q, if_true] at g1
      exact ⟨tyOk_tyV r1 p1 q, ⟨m1, env, s1, r1, E1, G.bind g1 fun m2 H2 xs vs s2 l2 r2 p2 g2 => hs r2 (p1.mono l2) p2 g2⟩⟩
    · simp only [q, if_false] at g1
      exact g1.elim
end
section
variable {K : PySem.W.Frag}
theorem le_setlist {m : List Addr} {H : Hp} {s : Store} (r : Rel K m H s) {l : Nat} {a : Addr} (h : m[l]? = some a) {vs : List V} {xs : List D} (p : Reps K m H xs vs) : Le K m H m (upd H a (.lst vs)) ∧ Rel K m (upd H a (.lst vs)) (s.set l (.lst xs)) :=
  have le := le_put (o := .lst vs) r (List.mem_of_getElem? h)
  ⟨le, r.put h ⟨vs, upd_same, p.mono le⟩⟩
def dAppend (x : D) (ys : List D) (s : Store) : Option (D × Store) := match x, ys with
  | .loc l, [y] => match s[l]? with
    | some (.lst xs) => if xs.length < sizeLine then some (.non, s.set l (.lst (xs ++ [y]))) else none
    | _ => none
  | _, _ => none
theorem mts_append : MtS K rAppend dAppend := by
  intro mg W σ m H s x d xs ds Q r p ps g
  unfold dAppend at g
  split at g
  · rename_i l y
    obtain ⟨w, rfl, h⟩ := reps1 ps
    cases p with
    | loc hl =>
      split at g
      · rename_i ys q
        split at g
        · rename_i hz
          obtain ⟨vs, h1, h2⟩ := r.list hl q
          obtain ⟨le, r2⟩ := le_setlist r hl (h2.append (.cons h .nil))
          exact ⟨_, vs, w, rfl, rfl, h1, by rw [← h2.length]; exact hz, g m _ _ le r2 .non⟩
        · exact g.elim
      · exact g.elim
  · exact g.elim
def dPop (x : D) (ys : List D) (s : Store) : Option (D × Store) := match x, ys with
  | .loc l, [] => match s[l]? with
    | some (.lst xs) => (xs[xs.length - 1]?).map fun y => (y, s.set l (.lst xs.dropLast))
    | _ => none
  | _, _ => none
theorem mts_pop : MtS K rPop dPop := by
  intro mg W σ m H s x d xs ds Q r p ps g
  unfold dPop at g
  split at g
  · rename_i l
    cases ps
    cases p with
    | loc hl =>
      split at g
      · rename_i ys q
        cases q2 : ys[ys.length - 1]? with
        | none => rw [q2] at g; exact g.elim
        | some y =>
          rw [q2] at g
          obtain ⟨vs, h1, h2⟩ := r.list hl q
          obtain ⟨v, hv, rv⟩ := h2.get q2
          obtain ⟨le, r2⟩ := le_setlist r hl h2.dropLast
          exact ⟨_, vs, v, rfl, rfl, h1, by rw [← h2.length]; exact hv, g m _ _ le r2 (rv.mono le)⟩
      · exact g.elim
  · exact g.elim
end
end Mi
namespace Mi
open PySem PySem.Spec PyProof.Rows L2
/-! ### targets -/
def gN (i : Nat) : D → Sl → Option Sl := fun d env => some (env.set i (some d))
def gsN : List D → Sl → Option Sl := fun xs env => match xs with
  | [] => some env
  | _ => none
def gsC (g : D → Sl → Option Sl) (r : List D → Sl → Option Sl) : List D → Sl → Option Sl := fun xs env => match xs with
  | x :: xs => (g x env).bind (r xs)
  | [] => none
def gT (n : Nat) (r : List D → Sl → Option Sl) : D → Sl → Option Sl := fun d env => match d with
  | .tup xs => if xs.length = n then r xs env else none
  | _ => none
def GTm (K : PySem.W.Frag) (vs : List Nat) (g : D → Sl → Option Sl) : TG := fun v σ H Q =>
  ∃ m env s d env', Rel K m H s ∧ RelE K m H env σ ∧ Rep K m H d v ∧ g d env = some env' ∧ ∀ σ', RelE K m H env' σ' → (∀ i, i ∉ vs → σ'[i]? = σ[i]?) → σ'.length = σ.length → Q σ' H
def GTs (K : PySem.W.Frag) (vs : List Nat) (g : List D → Sl → Option Sl) : TGs := fun xs σ H Q =>
  ∃ m env s ds env', Rel K m H s ∧ RelE K m H env σ ∧ Reps K m H ds xs ∧ g ds env = some env' ∧ ∀ σ', RelE K m H env' σ' → (∀ i, i ∉ vs → σ'[i]? = σ[i]?) → σ'.length = σ.length → Q σ' H
theorem relE_set {K : PySem.W.Frag} {m : List Addr} {H : Hp} {env : Sl} {σ : L2.St} (E : RelE K m H env σ) {d : D} {v : V} (p : Rep K m H d v) (i : Nat) : RelE K m H (env.set i (some d)) (σ.set i (some v)) := by
  refine ⟨by simp [E.1], fun j d' h => ?_⟩
  by_cases hj : i = j
  · subst hj
    by_cases hi : i < env.length
    · rw [List.getElem?_set_self hi] at h
      cases h
      exact ⟨v, by rw [List.getElem?_set_self (by rw [← E.1]; exact hi)], p⟩
    · rw [List.getElem?_eq_none (by simpa using hi)] at h; cases h
  · rw [List.getElem?_set_ne hj] at h
    rw [List.getElem?_set_ne hj]
    exact E.2 j d' h
section
variable {X : Cx} {pos : Pos}
theorem PG.imp {e : Expr} {t t' : TG} (h : PG X e t) (i : ∀ v σ H Q, t' v σ H Q → t v σ H Q) : PG X e t' := ⟨fun pins s σ H v u Q I r q => h.run pins s σ H v u Q I r (i v σ H Q q)⟩
theorem PGs.imp {e : List Expr} {t t' : TGs} (h : PGs X e t) (i : ∀ v σ H Q, t' v σ H Q → t v σ H Q) : PGs X e t' := ⟨fun pins s σ H v u Q I r q => h.run pins s σ H v u Q I r (i v σ H Q q)⟩
theorem cg_name {i : Nat} {x : Str} (hN : X.N.Nodup) (hi : X.N[i]? = some x) (hx : Loc X.env.scope x) (hf : X.fn x = true ∨ X.env.scope.names.lookup x = some .local := by first | exact .inl rfl | exact .inr rfl | assumption) : PG X (.Name x pos) (GTm X.K [i] (gN i)) :=
  PG.imp (pg_name hN hi hx hf) fun v σ H Q ⟨m, env, s, d, env', r, E, p, e, q⟩ => by
    cases e
    exact q _ (relE_set E p i) (fun j hj => List.getElem?_set_ne (by simpa [eq_comm] using hj)) (by simp)
theorem cgs_nil {vs : List Nat} : PGs X [] (GTs X.K vs gsN) := PGs.imp pgs_nil fun v σ H Q ⟨m, env, s, ds, env', r, E, p, e, q⟩ => by
  cases ds with
  | nil => cases e; cases p; exact ⟨rfl, q σ E (fun _ _ => rfl) rfl⟩
  | cons _ _ => cases e
theorem cgs_cons {e : Expr} {es : List Expr} {g : D → Sl → Option Sl} {r : List D → Sl → Option Sl} {vs ws us : List Nat} (h1 : PG X e (GTm X.K vs g)) (h2 : PGs X es (GTs X.K ws r)) (hv : ∀ i, i ∈ vs ∨ i ∈ ws → i ∈ us := by simp)
    (hs : (assignEach (e :: es) X.env).map (·.2) = assign e X.env :: (assignEach es X.env).map (·.2) := by rfl) : PGs X (e :: es) (GTs X.K us (gsC g r)) :=
  PGs.imp (pgs_cons h1 h2 hs) fun v σ H Q ⟨m, env, s, ds, env', rl, E, p, e, q⟩ => by
    cases ds with
    | nil => cases e
    | cons d ds =>
      cases p with
      | cons pd p =>
        have e : (g d env).bind (r ds) = some env' := e
        cases q1 : g d env with
        | none => rw [q1] at e; cases e
        | some env1 =>
          rw [q1] at e
          refine ⟨_, _, rfl, m, env, s, d, env1, rl, E, pd, q1, fun σ1 E1 k1 n1 => ⟨m, env1, s, ds, env', rl, E1, p, e, fun σ2 E2 k2 n2 => q σ2 E2 (fun i hi => ?_) (n2.trans n1)⟩⟩
          rw [k2 i (fun z => hi (hv i (.inr z))), k1 i (fun z => hi (hv i (.inl z)))]
theorem cg_tup {es : List Expr} {k n : Nat} {r : List D → Sl → Option Sl} {vs : List Nat} (hc : X.calm = true) (h : PGs X es (GTs X.K vs r)) (hn : (assignEach es X.env).length = n := by rfl) (hst : (assignEach es X.env).findIdx? (·.1) = none := by rfl) :
    PG X (.Tuple es k pos) (GTm X.K vs (gT n r)) := PG.imp (pg_tup (n := n) hc h hn hst) fun v σ H Q ⟨m, env, s, d, env', rl, E, p, e, q⟩ => by
  cases d with
  | tup xs =>
    obtain ⟨a, ws, rfl, hq, rr⟩ := p.sqT
    have e : (if xs.length = n then r xs env else none) = some env' := e
    split at e
    · rename_i hl
      exact ⟨a, ws, rfl, hq, by rw [← rr.length]; exact hl, m, env, s, xs, env', rl, E, rr, e, q⟩
    · cases e
  | _ => cases e
end
/-! ### statements -/
abbrev MS := Sl → Store → RS
section
variable (K : PySem.W.Frag) (mg : Str → Option Value)
def GS (W : WX) (Dn : Ends) (m : List Addr) (H : Hp) : RS → Prop
  | .nx env s => ∀ m' σ' H', Le K m H m' H' → Rel K m' H' s → RelE K m' H' env σ' → Dn.nx σ' H'
  | .rt d s => ∀ m' H' v, Le K m H m' H' → Rel K m' H' s → Rep K m' H' d v → Dn.rt v H'
  | .bk env s => ∀ m' σ' H', Le K m H m' H' → Rel K m' H' s → RelE K m' H' env σ' → Dn.bk σ' H'
  | .ct env s => ∀ m' σ' H', Le K m H m' H' → Rel K m' H' s → RelE K m' H' env σ' → Dn.ct σ' H'
  | .ex e env s => ∀ m' σ' H' c dd, Le K m H m' H' → Rel K m' H' s → RelE K m' H' env σ' → ExR K mg m' H' e c dd → W c dd σ' H'
  | .no => False
def Ts (W : WX) (f : MS) : TS := fun Dn σ H => ∃ m env s, Rel K m H s ∧ RelE K m H env σ ∧ GS K mg W Dn m H (f env s)
end
def RS.bind (r : RS) (k : Sl → Store → RS) : RS := match r with
  | .nx env s => k env s
  | r => r
/-- behind an expression -/
def R.then {α : Type} (r : R α) (env : Sl) (k : α → Store → RS) : RS := match r with
  | .ok a s => k a s
  | .ex e s => .ex e env s
  | .no => .no
@[simp] theorem RS.bind_nx (env : Sl) (s : Store) (k : Sl → Store → RS) : (RS.nx env s).bind k = k env s := rfl
@[simp] theorem RS.bind_rt (d : D) (s : Store) (k : Sl → Store → RS) : (RS.rt d s).bind k = .rt d s := rfl
@[simp] theorem RS.bind_bk (env : Sl) (s : Store) (k : Sl → Store → RS) : (RS.bk env s).bind k = .bk env s := rfl
@[simp] theorem RS.bind_ct (env : Sl) (s : Store) (k : Sl → Store → RS) : (RS.ct env s).bind k = .ct env s := rfl
@[simp] theorem RS.bind_ex (e : Ex) (env : Sl) (s : Store) (k : Sl → Store → RS) : (RS.ex e env s).bind k = .ex e env s := rfl
@[simp] theorem RS.bind_no (k : Sl → Store → RS) : (RS.no).bind k = .no := rfl
@[simp] theorem R.then_ok {α : Type} (a : α) (s : Store) (env : Sl) (k : α → Store → RS) : (R.ok a s).then env k = k a s := rfl
@[simp] theorem R.then_ex {α : Type} (e : Ex) (s : Store) (env : Sl) (k : α → Store → RS) : (R.ex e s : R α).then env k = .ex e env s := rfl
@[simp] theorem R.then_no {α : Type} (env : Sl) (k : α → Store → RS) : (R.no : R α).then env k = .no := rfl
def sNil : MS := fun env s => .nx env s
def sSeq (f g : MS) : MS := fun env s => (f env s).bind g
def sSet (i : Nat) (e : ME D) : MS := fun env s => (e env s).then env fun d s => .nx (env.set i (some d)) s
def sAsg (g : D → Sl → Option Sl) (e : ME D) : MS := fun env s => (e env s).then env fun d s => match g d env with
  | some env' => .nx env' s
  | none => .no
def sIf (c : ME Bool) (f g : MS) : MS := fun env s => (c env s).then env fun b s => if b then f env s else g env s
def sRet (e : ME D) : MS := fun env s => (e env s).then env fun d s => .rt d s
def sRetN : MS := fun _ s => .rt .non s
def sExpr (e : ME D) : MS := fun env s => (e env s).then env fun _ s => .nx env s
def sBrk : MS := fun env s => .bk env s
def sCnt : MS := fun env s => .ct env s
/-- o[i] = e: e, o, i in this sequence -/
def sPut (g : D → D → D → Store → Option Store) (o i e : ME D) : MS := fun env s => (e env s).then env fun d s => (o env s).then env fun x s => (i env s).then env fun y s => match g x y d s with
  | some s' => .nx env s'
  | none => .no
/-- name op= e -/
def sAug (i : Nat) (g : D → D → Store → Option (D × Store)) (e : ME D) : MS := fun env s => match env[i]? with
  | some (some x) => (e env s).then env fun y s => match g x y s with
    | some (z, s') => .nx (env.set i (some z)) s'
    | none => .no
  | _ => .no
structure Itm where
  xs : List D
  guard : Store → Prop
open Classical in
noncomputable def forL (guard : Store → Prop) (g : D → Sl → Option Sl) (b : MS) : List D → Sl → Store → RS
  | [], env, s => if guard s then .nx env s else .no
  | x :: xs, env, s => if guard s then (match g x env with
    | none => .no
    | some env1 => match b env1 s with
      | .nx env2 s2 => forL guard g b xs env2 s2
      | .ct env2 s2 => forL guard g b xs env2 s2
      | .bk env2 s2 => .nx env2 s2
      | .rt d s2 => .rt d s2
      | .ex e env2 s2 => .ex e env2 s2
      | .no => .no) else .no
noncomputable def sFor (it : ME Itm) (g : D → Sl → Option Sl) (b : MS) : MS := fun env s => (it env s).then env fun i s => forL i.guard g b i.xs env s
def whileN (c : ME Bool) (b : MS) : Nat → Sl → Store → RS
  | 0, _, _ => .no
  | n + 1, env, s => (c env s).then env fun k s => if k then (match b env s with
      | .nx env2 s2 => whileN c b n env2 s2
      | .ct env2 s2 => whileN c b n env2 s2
      | .bk env2 s2 => .nx env2 s2
      | .rt d s2 => .rt d s2
      | .ex e env2 s2 => .ex e env2 s2
      | .no => .no) else .nx env s
open Classical in
/-- a while: some number of turns is enough -/
noncomputable def sWhile (c : ME Bool) (b : MS) : MS := fun env s => if h : ∃ n, whileN c b n env s ≠ .no then whileN c b (Classical.choose h) env s else .no
section
variable {K : PySem.W.Frag} {mg : Str → Option Value} {m m1 : List Addr} {H H1 : Hp} {s : Store} {W : WX} {σ : L2.St} {Dn : Ends}
theorem GS.mono (e : Le K m H m1 H1) {r : RS} (h : GS K mg W Dn m H r) : GS K mg W Dn m1 H1 r := by
  cases r with
  | nx env s => exact fun m' σ' H' l => h m' σ' H' (e.trans l)
  | rt d s => exact fun m' σ' H' l => h m' σ' H' (e.trans l)
  | bk env s => exact fun m' σ' H' l => h m' σ' H' (e.trans l)
  | ct env s => exact fun m' σ' H' l => h m' σ' H' (e.trans l)
  | ex x env s => exact fun m' σ' H' c d l => h m' σ' H' c d (e.trans l)
  | no => exact h
/-- an expression first -/
theorem GS.ofE {α β : Type} {ρ : List Addr → Hp → α → β → Prop} {r : R α} {env : Sl} {k : α → Store → RS} {Q : β → Hp → Prop} (E : RelE K m H env σ) (h : GS K mg W Dn m H (r.then env k))
    (q : ∀ m1 H1 a b s1, Le K m H m1 H1 → Rel K m1 H1 s1 → ρ m1 H1 a b → GS K mg W Dn m1 H1 (k a s1) → Q b H1) : G K mg ρ W σ m H Q r := by
  cases r with
  | ok a s => exact fun m' H' b l r p => q m' H' a b s l r p (GS.mono l h)
  | ex x s => exact fun m' H' c d l r p => h m' σ H' c d l r (E.mono l) p
  | no => exact h
theorem Ts.ofE {α β : Type} {ρ : List Addr → Hp → α → β → Prop} {f : Sl → Store → R α} {k : Sl → α → Store → RS} {Q : β → Hp → Prop} (h : Ts K mg W (fun env s => (f env s).then env (k env)) Dn σ H)
    (q : ∀ m1 H1 env a b s1, Rel K m1 H1 s1 → RelE K m1 H1 env σ → ρ m1 H1 a b → GS K mg W Dn m1 H1 (k env a s1) → Q b H1) : Tm K mg ρ W f σ H Q := by
  obtain ⟨m, env, s, r, E, g⟩ := h
  exact ⟨m, env, s, r, E, GS.ofE E g fun m1 H1 a b s1 l r1 p g1 => q m1 H1 env a b s1 r1 (E.mono l) p g1⟩
end
section
variable {X : Cx} {W : WX} {pos : Pos} {e o i c tg iter : Expr} {st : Stmt} {rest body els : List Stmt} {fe fo fi : ME D} {gc : ME Bool} {f g : MS}
theorem css_nil : PSs X [] (Ts X.K X.mg W sNil) := PSs.imp pss_nil fun Dn σ H ⟨m, env, s, r, E, q⟩ => q m σ H .refl r E
theorem css_cons (h1 : PS X st (Ts X.K X.mg W f)) (h2 : PSs X rest (Ts X.K X.mg W g)) : PSs X (st :: rest) (Ts X.K X.mg W (sSeq f g)) :=
  PSs.imp (pss_cons h1 h2) fun Dn σ H ⟨m, env, s, r, E, q⟩ => by
    refine ⟨m, env, s, r, E, ?_⟩
    unfold sSeq at q
    cases hf : f env s with
    | nx env1 s1 => rw [hf] at q; exact fun m' σ' H' l r' E' => ⟨m', env1, s1, r', E', GS.mono l q⟩
    | rt d s1 => rw [hf] at q; exact q
    | bk env1 s1 => rw [hf] at q; exact q
    | ct env1 s1 => rw [hf] at q; exact q
    | ex x env1 s1 => rw [hf] at q; exact q
    | no => rw [hf] at q; exact q
theorem css_one (h1 : PS X st (Ts X.K X.mg W f)) : PSs X [st] (Ts X.K X.mg W f) := pss_one h1
theorem cs_pass : PS X (.Pass pos) (Ts X.K X.mg W sNil) := PS.imp ps_pass fun Dn σ H ⟨m, env, s, r, E, q⟩ => q m σ H .refl r E
theorem cs_doc {x j pos'} : PS X (.Expr (.Constant (.str x) j pos) pos') (Ts X.K X.mg W sNil) := PS.imp ps_doc fun Dn σ H ⟨m, env, s, r, E, q⟩ => q m σ H .refl r E
theorem cs_break : PS X (.Break pos) (Ts X.K X.mg W sBrk) := PS.imp ps_break fun Dn σ H ⟨m, env, s, r, E, q⟩ => q m σ H .refl r E
theorem cs_cont : PS X (.Continue pos) (Ts X.K X.mg W sCnt) := PS.imp ps_continue fun Dn σ H ⟨m, env, s, r, E, q⟩ => q m σ H .refl r E
theorem cs_set {j : Nat} {x : Str} {pos' : Pos} (hN : X.N.Nodup) (hi : X.N[j]? = some x) (hx : Loc X.env.scope x) (he : PE X e (Te X.K X.mg W fe)) (hs : swapsWith e (some (.Name x pos')) pos.line X.env = pure false := by rfl) (hf : X.fn x = true ∨ X.env.scope.names.lookup x = some .local := by first | exact .inl rfl | exact .inr rfl | assumption) :
    PS X (.Assign [.Name x pos'] e pos) (Ts X.K X.mg W (sSet j fe)) := PS.imp (ps_set (i := j) hN hi hx he hs hf) fun Dn σ H h =>
  Ts.ofE (k := fun env d s => .nx (env.set j (some d)) s) h fun m1 H1 env d v s1 r1 E1 p1 g1 => g1 m1 _ H1 .refl r1 (relE_set E1 p1 j)
theorem cs_asg {vs : List Nat} {g : D → Sl → Option Sl} (he : PE X e (Te X.K X.mg W fe)) (hg : PG X tg (GTm X.K vs g)) (hs : swapsWithSole [tg] e pos.line X.env = pure false := by rfl) (hw : swappedStores [tg] e X.env = pure none := by rfl)
    (h1 : (assignEach [tg] X.env).map (·.2) = [assign tg X.env] := by rfl) : PS X (.Assign [tg] e pos) (Ts X.K X.mg W (sAsg g fe)) := PS.imp (ps_asg he hg hs hw h1) fun Dn σ H h =>
  Ts.ofE (k := fun env d s => match g d env with | some env' => RS.nx env' s | none => RS.no) h fun m1 H1 env d v s1 r1 E1 p1 g1 => by
    cases q : g d env with
    | none => simp only [q] at g1; exact g1.elim
    | some env' =>
      simp only [q] at g1
      exact ⟨m1, env, s1, d, env', r1, E1, p1, q, fun σ' E' _ _ => g1 m1 σ' H1 .refl r1 E'⟩
theorem cs_expr (he : PE X e (Te X.K X.mg W fe)) (hs : swapsWith e none pos.line X.env = pure false := by rfl) : PS X (.Expr e pos) (Ts X.K X.mg W (sExpr fe)) := PS.imp (ps_expr he hs) fun Dn σ H h =>
  Ts.ofE (k := fun env _ s => RS.nx env s) h fun m1 H1 env d v s1 r1 E1 p1 g1 => g1 m1 σ H1 .refl r1 E1
theorem cs_ret (he : PE X e (Te X.K X.mg W fe)) : PS X (.Return (some e) pos) (Ts X.K X.mg W (sRet fe)) := PS.imp (ps_ret he) fun Dn σ H h =>
  Ts.ofE (k := fun _ d s => RS.rt d s) h fun m1 H1 env d v s1 r1 E1 p1 g1 => g1 m1 H1 v .refl r1 p1
theorem cs_retN : PS X (.Return none pos) (Ts X.K X.mg W sRetN) := PS.imp ps_retN fun Dn σ H ⟨m, env, s, r, E, q⟩ => q m H _ .refl r .non
theorem cs_if (hc : PT X c (Tt X.K X.mg W gc)) (ha : PSs X body (Ts X.K X.mg W f)) (hb : PSs X els (Ts X.K X.mg W g)) : PS X (.If c body els pos) (Ts X.K X.mg W (sIf gc f g)) := PS.imp (ps_if hc ha hb) fun Dn σ H h =>
  Ts.ofE (k := fun env (b : Bool) s => if b then f env s else g env s) h fun m1 H1 env d v s1 r1 E1 p1 g1 => by
    cases (show d = v from p1)
    cases d with
    | true => exact iteT ⟨m1, env, s1, r1, E1, g1⟩
    | false => exact iteF ⟨m1, env, s1, r1, E1, g1⟩
def PutS (K : PySem.W.Frag) (t : TSet) (g : D → D → D → Store → Option Store) : Prop :=
  ∀ {m : List Addr} {H : Hp} {s s' : Store} {x y z : V} {dx dy dz : D} {Q : Hp → Prop}, Rel K m H s → Rep K m H dx x → Rep K m H dy y → Rep K m H dz z → g dx dy dz s = some s' → (∀ H', Le K m H m H' → Rel K m H' s' → Q H') → t x y z H Q
theorem cs_put {t : TSet} {g : D → D → D → Store → Option Store} (he : PE X e (Te X.K X.mg W fe)) (ho : PE X o (Te X.K X.mg W fo)) (hi : PE X i (Te X.K X.mg W fi)) (hs : PSet X t) (hp : PutS X.K t g)
    (ha : ∀ v, assign (.Subscript o i pos) X.env v = (do
      let ov ← holding [v] (eval o X.env)
      let iv ← holding [v, ov] (eval i X.env)
      standAt pos
      holding [v, ov, iv] (setItem ov iv v)
      release [v, ov, iv] []) := by intro _; rfl) {pos' : Pos} (hs1 : swapsWithSole [.Subscript o i pos] e pos'.line X.env = pure false := by rfl) (hw : swappedStores [.Subscript o i pos] e X.env = pure none := by rfl)
    (h1 : (assignEach [.Subscript o i pos] X.env).map (·.2) = [assign (.Subscript o i pos) X.env] := by rfl) : PS X (.Assign [.Subscript o i pos] e pos') (Ts X.K X.mg W (sPut g fo fi fe)) :=
  PS.imp (ps_asg he (pg_sub ho hi hs ha) hs1 hw h1) fun Dn σ H h =>
    Ts.ofE (k := fun env d s => (fo env s).then env fun x s => (fi env s).then env fun y s => match g x y d s with | some s' => RS.nx env s' | none => RS.no) h fun m1 H1 env d v s1 r1 E1 p1 g1 =>
      ⟨m1, env, s1, r1, E1, GS.ofE E1 g1 fun m2 H2 x vx s2 l2 r2 p2 g2 => ⟨m2, env, s2, r2, E1.mono l2, GS.ofE (E1.mono l2) g2 fun m3 H3 y vy s3 l3 r3 p3 g3 => by
        cases q : g x y d s3 with
        | none => simp only [q] at g3; exact g3.elim
        | some s' =>
          simp only [q] at g3
          exact hp r3 (p2.mono l3) p3 ((p1.mono l2).mono l3) q fun H' l' r' => g3 m3 σ H' l' r' (((E1.mono l2).mono l3).mono l')⟩⟩
def IpS (K : PySem.W.Frag) (t : TIp) (g : D → D → Store → Option (D × Store)) : Prop := OpS K t g
theorem cs_aug {j : Nat} {x : Str} {op : Operator} {ti : TIp} {g : D → D → Store → Option (D × Store)} {pos' : Pos} (hN : X.N.Nodup) (hi : X.N[j]? = some x) (hx : Loc X.env.scope x) (he : PE X e (Te X.K X.mg W fe)) (ho : PIp X op ti) (hp : OpS X.K ti g) (hf : X.fn x = true ∨ X.env.scope.names.lookup x = some .local := by first | exact .inl rfl | exact .inr rfl | assumption) :
    PS X (.AugAssign (.Name x pos') op e pos) (Ts X.K X.mg W (sAug j g fe)) := PS.imp (ps_aug (i := j) hN hi hx he ho hf) fun Dn σ H ⟨m, env, s, r, E, q⟩ => by
  unfold sAug at q
  cases q1 : env[j]? with
  | none => simp only [q1] at q; exact q.elim
  | some o1 =>
    cases o1 with
    | none => simp only [q1] at q; exact q.elim
    | some d =>
      simp only [q1] at q
      obtain ⟨v, h1, h2⟩ := E.2 j d q1
      refine ⟨v, h1, m, env, s, r, E, GS.ofE E q fun m1 H1 y vy s1 l1 r1 p1 g1 => ?_⟩
      refine hp (mg := X.mg) (W := W) (σ := σ) r1 (h2.mono l1) p1 ?_
      cases q2 : g d y s1 with
      | none => simp only [q2] at g1; exact g1.elim
      | some zs =>
        obtain ⟨z, s'⟩ := zs
        simp only [q2] at g1
        exact fun m' H' b l r p => g1 m' _ H' l r (relE_set ((E.mono l1).mono l) p j)
/-! #### loops -/
def ItR (K : PySem.W.Frag) (m : List Addr) (H : Hp) (it : Itm) (J : It) : Prop := ∀ m2 H2 s2, Le K m H m2 H2 → Rel K m2 H2 s2 → it.guard s2 →
  (∀ i d, it.xs[i]? = some d → J.go i H2 ∧ ∀ v H3, J.yld i H2 v H3 → Le K m2 H2 m2 H3 ∧ Rel K m2 H3 s2 ∧ Rep K m2 H3 d v) ∧ J.stop it.xs.length H2
abbrev Ti (K : PySem.W.Frag) (mg : Str → Option Value) (W : WX) (f : ME Itm) : TI := Tm K mg (ItR K) W f
theorem cs_for {fi : ME Itm} {vs : List Nat} {gt : D → Sl → Option Sl} (hp : PassesOwn (model X.prog X.w) X.A X.env X.xe) (hc : X.calm = true) (hi : PI X tg iter (Ti X.K X.mg W fi)) (hg : PG X tg (GTm X.K vs gt)) (hb : PSs X body (Ts X.K X.mg W f))
    (hs : ∀ x, foldedSetIterable iter X.env x = pure x := by intro _; rfl) : PS X (.For tg iter body [] pos) (Ts X.K X.mg W (sFor fi gt f)) :=
  PS.imp (ps_for hp hc hi hg hb hs) fun Dn σ H h => Ts.ofE (k := fun env (i : Itm) s => forL i.guard gt f i.xs env s) h fun m1 H1 env it J s1 r1 E1 p1 g1 => by
    refine ⟨fun i k σ H => k = it.xs.length - i ∧ i ≤ it.xs.length ∧ ∃ m2 env2 s2, Le X.K m1 H1 m2 H ∧ Rel X.K m2 H s2 ∧ RelE X.K m2 H env2 σ ∧ GS X.K X.mg W Dn m2 H (forL it.guard gt f (it.xs.drop i) env2 s2),
      ⟨it.xs.length, by simp, Nat.zero_le _, m1, env, s1, .refl, r1, E1, g1⟩, ?_⟩
    rintro i k σ2 H2 ⟨rfl, hi, m2, env2, s2, l2, r2, E2, g2⟩
    by_cases hlt : i < it.xs.length
    · have hx : it.xs[i]? = some it.xs[i] := by simp [hlt]
      have hd : it.xs.drop i = it.xs[i] :: it.xs.drop (i + 1) := List.drop_eq_getElem_cons hlt
      rw [hd] at g2
      unfold forL at g2
      by_cases hgd : it.guard s2
      · simp only [hgd, if_true] at g2
        obtain ⟨hall, _⟩ := p1 m2 H2 s2 l2 r2 hgd
        obtain ⟨hgo, hy⟩ := hall i _ hx
        refine .inr ⟨hgo, fun σ' H' => ∃ m3 env3 s3, Le X.K m1 H1 m3 H' ∧ Rel X.K m3 H' s3 ∧ RelE X.K m3 H' env3 σ' ∧ GS X.K X.mg W Dn m3 H' (forL it.guard gt f (it.xs.drop (i + 1)) env3 s3),
          fun σ' H' ⟨m3, env3, s3, l3, r3, E3, g3⟩ => ⟨it.xs.length - (i + 1), by omega, rfl, hlt, m3, env3, s3, l3, r3, E3, g3⟩, fun v H3 y => ?_⟩
        obtain ⟨l3, r3, p3⟩ := hy v H3 y
        cases q : gt it.xs[i] env2 with
        | none => simp only [q] at g2; exact g2.elim
        | some env3 =>
          simp only [q] at g2
          refine ⟨m2, env2, s2, it.xs[i], env3, r3, E2.mono l3, p3, q, fun σ4 E4 _ _ => ⟨m2, env3, s2, r3, E4, ?_⟩⟩
          have g3 := GS.mono l3 g2
          have l4 := l2.trans l3
          cases hb2 : f env3 s2 with
          | nx env5 s5 => rw [hb2] at g3; exact fun m' σ' H' l r E => ⟨m', env5, s5, l4.trans l, r, E, GS.mono l g3⟩
          | ct env5 s5 => rw [hb2] at g3; exact fun m' σ' H' l r E => ⟨m', env5, s5, l4.trans l, r, E, GS.mono l g3⟩
          | bk env5 s5 => rw [hb2] at g3; exact g3
          | rt d s5 => rw [hb2] at g3; exact g3
          | ex x env5 s5 => rw [hb2] at g3; exact g3
          | no => rw [hb2] at g3; exact g3
      · simp only [hgd, if_false] at g2
        exact g2.elim
    · have e : i = it.xs.length := by omega
      subst e
      rw [List.drop_length] at g2
      unfold forL at g2
      by_cases hgd : it.guard s2
      · simp only [hgd, if_true] at g2
        exact .inl ⟨(p1 m2 H2 s2 l2 r2 hgd).2, g2 m2 σ2 H2 .refl r2 E2⟩
      · simp only [hgd, if_false] at g2
        exact g2.elim
theorem cs_while (hp : PassesOwn (model X.prog X.w) X.A X.env X.xe) (hc : PT X c (Tt X.K X.mg W gc)) (hb : PSs X body (Ts X.K X.mg W f)) : PS X (.While c body [] pos) (Ts X.K X.mg W (sWhile gc f)) :=
  PS.imp (ps_while hp hc hb) fun Dn σ H ⟨m, env, s, r, E, g⟩ => by
    unfold sWhile at g
    split at g
    · rename_i hx
      refine ⟨fun n σ H => ∃ m2 env2 s2, Rel X.K m2 H s2 ∧ RelE X.K m2 H env2 σ ∧ GS X.K X.mg W Dn m2 H (whileN gc f n env2 s2), ⟨_, m, env, s, r, E, g⟩, ?_⟩
      rintro n σ1 H1 ⟨m1, env1, s1, r1, E1, g1⟩
      cases n with
      | zero => exact g1.elim
      | succ n =>
        unfold whileN at g1
        refine ⟨m1, env1, s1, r1, E1, GS.ofE E1 g1 fun m2 H2 k kb s2 l2 r2 p2 g2 => ?_⟩
        cases (show k = kb from p2)
        cases k with
        | false => exact iteF (g2 m2 σ1 H2 .refl r2 (E1.mono l2))
        | true =>
          refine iteT ⟨fun σ' H' => ∃ m3 env3 s3, Rel X.K m3 H' s3 ∧ RelE X.K m3 H' env3 σ' ∧ GS X.K X.mg W Dn m3 H' (whileN gc f n env3 s3), fun σ' H' q => ⟨n, Nat.lt_succ_self n, q⟩, m2, env1, s2, r2, E1.mono l2, ?_⟩
          simp only [if_true] at g2
          cases hb2 : f env1 s2 with
          | nx env5 s5 => rw [hb2] at g2; exact fun m' σ' H' l r E => ⟨m', env5, s5, r, E, GS.mono l g2⟩
          | ct env5 s5 => rw [hb2] at g2; exact fun m' σ' H' l r E => ⟨m', env5, s5, r, E, GS.mono l g2⟩
          | bk env5 s5 => rw [hb2] at g2; exact g2
          | rt d s5 => rw [hb2] at g2; exact g2
          | ex x env5 s5 => rw [hb2] at g2; exact g2
          | no => rw [hb2] at g2; exact g2
    · exact g.elim
end
/-! #### what a loop walks -/
def always : Store → Prop := fun _ => True
/-- a list, a tuple, a text -/
def iSeq (a : ME D) : ME Itm := fun env s => (a env s).bind fun x s => match x with
  | .tup xs => .ok (Itm.mk (xs) (always)) s
  | .fl xs => .ok (Itm.mk (xs) (always)) s
  | .str z => .ok (Itm.mk (z.cps.toList.map fun c => .str ⟨#[c]⟩) (always)) s
  | .loc l => match s[l]? with
    | some (.lst xs) => .ok (Itm.mk (xs) (fun s2 => s2[l]? = some (.lst xs))) s
    | _ => .no
  | _ => .no
/-- a bound of a range -/
def InR (j : Int) : Prop := -(2 ^ 62) ≤ j ∧ j < 2 ^ 62
noncomputable instance (j : Int) : Decidable (InR j) := Classical.propDecidable _
noncomputable def iRange1 (a : ME (List D)) : ME Itm := fun env s => (a env s).bind fun x s => match x with
  | [.int j] => if InR j then .ok (Itm.mk ((List.range j.toNat).map fun i => .int ((0 : Int) + (i : Nat))) (always)) s else .no
  | _ => .no
noncomputable def iRange2 (a : ME (List D)) : ME Itm := fun env s => (a env s).bind fun x s => match x with
  | [.int i, .int j] => if InR i ∧ InR j then .ok (Itm.mk ((List.range (j - i).toNat).map fun k => .int (i + (k : Nat))) (always)) s else .no
  | _ => .no
section
variable {K : PySem.W.Frag} {m : List Addr} {H : Hp}
theorem itr_list {l : Nat} {xs : List D} {a : Addr} (h : m[l]? = some a) : ItR K m H ⟨xs, fun s2 => s2[l]? = some (.lst xs)⟩ (Itl K a) := fun m2 H2 s2 l2 r2 g => by
  have g' : s2[l]? = some (.lst xs) := g
  obtain ⟨vs, h1, h2⟩ := r2.list (l2.get h) g'
  have hq : SqL K H2 a vs := .inl (.inl h1)
  refine ⟨fun i d e => ?_, ⟨vs, hq, by rw [← h2.length]; exact Nat.le_refl _⟩⟩
  obtain ⟨v, hv, rv⟩ := h2.get e
  refine ⟨⟨vs, v, hq, hv⟩, fun w H3 y => ?_⟩
  obtain ⟨rfl, y⟩ := y
  have e2 := y vs hq
  rw [hv] at e2; cases e2
  exact ⟨.refl, r2, rv⟩
theorem itr_fl {xs : List D} {vs : List V} {a : Addr} (h : FrL K H a vs) (p : Reps K m H xs vs) : ItR K m H ⟨xs, always⟩ (Itl K a) := fun m2 H2 s2 l2 r2 g => by
  have hq : SqL K H2 a vs := (l2.frl a vs h).sq
  have h2 := p.mono l2
  refine ⟨fun i d e => ?_, ⟨vs, hq, by rw [← h2.length]; exact Nat.le_refl _⟩⟩
  obtain ⟨v, hv, rv⟩ := h2.get e
  refine ⟨⟨vs, v, hq, hv⟩, fun w H3 y => ?_⟩
  obtain ⟨rfl, y⟩ := y
  have e2 := y vs hq
  rw [hv] at e2; cases e2
  exact ⟨.refl, r2, rv⟩
theorem itr_tup {xs : List D} {vs : List V} {a : Addr} (h : SqT K H a vs) (p : Reps K m H xs vs) : ItR K m H ⟨xs, always⟩ (Itt K a) := fun m2 H2 s2 l2 r2 g => by
  have hq : SqT K H2 a vs := l2.tup a vs h
  have h2 := p.mono l2
  refine ⟨fun i d e => ?_, ⟨vs, hq, by rw [← h2.length]; exact Nat.le_refl _⟩⟩
  obtain ⟨v, hv, rv⟩ := h2.get e
  refine ⟨⟨vs, v, hq, hv⟩, fun w H3 y => ?_⟩
  obtain ⟨rfl, y⟩ := y
  have e2 := y vs hq
  rw [hv] at e2; cases e2
  exact ⟨.refl, r2, rv⟩
theorem itr_str {z : Str} : ItR K m H ⟨z.cps.toList.map fun c => .str ⟨#[c]⟩, always⟩ (Its z) := fun m2 H2 s2 l2 r2 g => by
  have w := walk_str (z := z)
  refine ⟨fun i d e => ?_, by
    have q := w.stops H2 trivial
    show (Its z).stop (List.map _ z.cps.toList).length H2
    rw [List.length_map, Array.length_toList]
    exact q⟩
  rw [List.getElem?_map, Array.getElem?_toList] at e
  cases hc : z.cps[i]? with
  | none => rw [hc] at e; cases e
  | some c =>
    rw [hc] at e; cases e
    have hi : i < z.cps.size := (Array.getElem?_eq_some_iff.mp hc).1
    refine ⟨w.goes i H2 hi trivial, fun v H3 y => ?_⟩
    obtain ⟨rfl, c', h1, rfl⟩ := w.yields i H2 v H3 hi trivial y
    rw [hc] at h1; cases h1
    exact ⟨.refl, r2, .str _⟩
theorem itr_range {lo : Int} {n : Nat} : ItR K m H ⟨(List.range n).map fun (i : Nat) => .int (lo + (i : Int)), always⟩ (Itr lo n) := fun m2 H2 s2 l2 r2 g => by
  refine ⟨fun i d e => ?_, by show n ≤ (List.map _ (List.range n)).length; simp⟩
  rw [List.getElem?_map] at e
  by_cases hi : i < n
  · rw [List.getElem?_range hi] at e
    cases e
    refine ⟨hi, fun v H3 y => ?_⟩
    obtain ⟨rfl, rfl⟩ := y
    exact ⟨.refl, r2, .int _⟩
  · rw [List.getElem?_eq_none (by simpa using hi)] at e; cases e
end
section
variable {X : Cx} {W : WX} {tg e a b : Expr} {p pos : Pos} {fe : ME D} {fs : ME (List D)}
theorem PI.imp {e : Expr} {t t' : TI} (h : PI X tg e t) (i : ∀ σ H Q, t' σ H Q → t σ H Q) : PI X tg e t' := ⟨fun pins s σ H Q I q => h.run pins s σ H Q I (i σ H Q q)⟩
def iAny (K : PySem.W.Frag) (tl : TE) : TI := fun σ H R => tl σ H fun x H1 => (∃ a, x = .ref a ∧ ((∃ xs, SqL K H1 a xs) ∧ R (Itl K a) H1 ∨ (∃ xs, SqT K H1 a xs) ∧ R (Itt K a) H1)) ∨ ∃ z, x = .str z ∧ R (Its z) H1
theorem pi_any {tl : TE} (hl : PE X e tl) : PI X tg e (iAny X.K tl) := by
  refine ⟨fun pins s σ H R I h => ?_⟩
  refine thn (hl.run pins s σ H _ I h) fun v s1 ⟨x, H1, I1, r1, q1⟩ => ?_
  rcases q1 with ⟨a, rfl, ⟨⟨xs, hq⟩, q⟩ | ⟨⟨xs, hq⟩, q⟩⟩ | ⟨z, rfl, q⟩
  · cases r1
    obtain ⟨its, rv, p, hz⟩ := I1.list hq
    refine wpAny_pyIter_list p.isList ?_
    refine ⟨s1.heap.objs.size, [s1.heap.objs.size], _, _, H1, rfl, I1.kept (t' := s1.toks) fun b o e => Heap.get?_push_of_some _ e, turn_list a _, ⟨_, Heap.get?_push_size _ rfl, rfl, rfl⟩, fun b hb => ?_, q⟩
    have e : b = s1.heap.objs.size := by simpa using hb
    subst e
    exact I1.fpOk (Nat.le_refl _) (I1.hok.fresh (Nat.le_refl _))
  · cases r1
    obtain ⟨its, rv, p, hz⟩ := I1.tuple hq
    refine wpAny_pyIter_tuple (show s1.heap.IsTuple a its.toArray from p) ?_
    refine ⟨s1.heap.objs.size, [s1.heap.objs.size], _, _, H1, rfl, I1.kept (t' := s1.toks) fun b o e => Heap.get?_push_of_some _ e, turn_tuple a _, ⟨_, Heap.get?_push_size _ rfl, rfl, rfl⟩, fun b hb => ?_, q⟩
    have e : b = s1.heap.objs.size := by simpa using hb
    subst e
    exact I1.fpOk (Nat.le_refl _) (I1.hok.fresh (Nat.le_refl _))
  · obtain ⟨t, rfl⟩ := r1
    cases ha : z.cps.all (· < 128)
    · exact wpAny_pyIter_wide ha (pi_one (tk := s1.toks) I1 _ (turn_str _ z t "str_iterator" (.inr rfl)) ⟨_, Heap.get?_push_size _ rfl, rfl, rfl⟩ q)
    · exact wpAny_pyIter_ascii ha (pi_one (tk := s1.toks) I1 _ (turn_str _ z t "str_ascii_iterator" (.inl rfl)) ⟨_, Heap.get?_push_size _ rfl, rfl, rfl⟩ q)
theorem ci_seq (he : PE X e (Te X.K X.mg W fe)) : PI X tg e (Ti X.K X.mg W (iSeq fe)) := PI.imp (pi_any he) fun σ H Rw h =>
  Tm.bind (k := fun _ x s => match x with
  | .tup xs => R.ok (Itm.mk (xs) (always)) s
  | .fl xs => R.ok (Itm.mk (xs) (always)) s
  | .str z => R.ok (Itm.mk (z.cps.toList.map fun c => .str ⟨#[c]⟩) (always)) s
  | .loc l => match s[l]? with
    | some (.lst xs) => R.ok (Itm.mk (xs) (fun s2 => s2[l]? = some (.lst xs))) s
    | _ => R.no
  | _ => R.no) h fun m1 H1 env x v s1 r1 E1 p1 g1 => by
    cases x with
    | tup xs =>
      obtain ⟨a, vs, rfl, hq, rr⟩ := p1.sqT
      exact .inl ⟨a, rfl, .inr ⟨⟨vs, hq⟩, g1 m1 H1 _ .refl r1 (itr_tup hq rr)⟩⟩
    | fl xs =>
      cases p1 with
      | fl hq rr => exact .inl ⟨_, rfl, .inl ⟨⟨_, hq.sq⟩, g1 m1 H1 _ .refl r1 (itr_fl hq rr)⟩⟩
    | str z => cases p1; exact .inr ⟨z, rfl, g1 m1 H1 _ .refl r1 itr_str⟩
    | loc l =>
      cases p1 with
      | loc hl =>
        cases q : s1[l]? with
        | none => simp only [q] at g1; exact g1.elim
        | some c =>
          cases c with
          | dic _ => simp only [q] at g1; exact g1.elim
          | dct _ => simp only [q] at g1; exact g1.elim
          | lst xs =>
            simp only [q] at g1
            obtain ⟨vs, h1, h2⟩ := r1.list hl q
            exact .inl ⟨_, rfl, .inl ⟨⟨vs, .inl (.inl h1)⟩, g1 m1 H1 _ .refl r1 (itr_list hl)⟩⟩
    | _ => exact g1.elim
theorem ci_range1 (hg : Gl X "range") (hm : X.mg "range" = none) (ha : PA X [a] (Ta X.K X.mg W fs)) (hs : starEach [a] X.env = [(false, eval a X.env)] := by rfl) : PI X tg (.Call (.Name "range" p) [a] [] pos) (Ti X.K X.mg W (iRange1 fs)) :=
  PI.imp (pi_range1 hg hm ha hs) fun σ H Rw h => Tm.bind (k := fun _ x s => match x with
  | [.int j] => if InR j then R.ok (Itm.mk ((List.range j.toNat).map fun i => .int ((0 : Int) + (i : Nat))) (always)) s else R.no
  | _ => R.no) h fun m1 H1 env x v s1 r1 E1 p1 g1 => by
    match x, p1, g1 with
    | [.int j], p1, g1 =>
      obtain ⟨v, rfl, h⟩ := reps1 p1
      cases h
      by_cases hj : InR j
      · simp only [hj, if_true] at g1
        exact ⟨j, rfl, hj.1, hj.2, g1 m1 H1 _ .refl r1 itr_range⟩
      · simp only [hj, if_false] at g1
        exact g1.elim
    | [], _, g1 => exact g1.elim
    | [.non], _, g1 => exact g1.elim
    | [.bl _], _, g1 => exact g1.elim
    | [.str _], _, g1 => exact g1.elim
    | [.tup _], _, g1 => exact g1.elim
    | [.fl _], _, g1 => exact g1.elim
    | [.loc _], _, g1 => exact g1.elim
    | [.exv _ _ _ _], _, g1 => exact g1.elim
    | .non :: _ :: _, _, g1 => exact g1.elim
    | .bl _ :: _ :: _, _, g1 => exact g1.elim
    | .int _ :: _ :: _, _, g1 => exact g1.elim
    | .str _ :: _ :: _, _, g1 => exact g1.elim
    | .tup _ :: _ :: _, _, g1 => exact g1.elim
    | .fl _ :: _ :: _, _, g1 => exact g1.elim
    | .loc _ :: _ :: _, _, g1 => exact g1.elim
    | .exv _ _ _ _ :: _ :: _, _, g1 => exact g1.elim
theorem ci_range2 (hg : Gl X "range") (hm : X.mg "range" = none) (ha : PA X [a, b] (Ta X.K X.mg W fs)) (hs : starEach [a, b] X.env = [(false, eval a X.env), (false, eval b X.env)] := by rfl) (hs2 : starEach [b] X.env = [(false, eval b X.env)] := by rfl) :
    PI X tg (.Call (.Name "range" p) [a, b] [] pos) (Ti X.K X.mg W (iRange2 fs)) :=
  PI.imp (pi_range2 hg hm ha hs hs2) fun σ H Rw h => Tm.bind (k := fun _ x s => match x with
  | [.int i, .int j] => if InR i ∧ InR j then R.ok (Itm.mk ((List.range (j - i).toNat).map fun k => .int (i + (k : Nat))) (always)) s else R.no
  | _ => R.no) h fun m1 H1 env x v s1 r1 E1 p1 g1 => by
    split at g1
    · rename_i i j
      obtain ⟨v, w, rfl, h, h2⟩ := reps2 p1
      cases h; cases h2
      by_cases hj : InR i ∧ InR j
      · simp only [hj, and_self, if_true] at g1
        exact ⟨i, j, rfl, ⟨hj.1.1, hj.1.2, hj.2.1, hj.2.2⟩, g1 m1 H1 _ .refl r1 itr_range⟩
      · simp only [hj, if_false] at g1
        exact g1.elim
    · exact g1.elim
end
/-- o[i] = e of a list -/
def pList (x y z : D) (s : Store) : Option Store := match x, y with
  | .loc l, .int i => match s[l]? with
    | some (.lst xs) => (ixN xs.length i).map fun j => s.set l (.lst (xs.set j z))
    | _ => none
  | _, _ => none
theorem puts_list {K : PySem.W.Frag} : PutS K rSetL pList := by
  intro m H s s' x y z dx dy dz Q r px py pz e q
  unfold pList at e
  split at e
  · rename_i l i
    cases px with
    | loc hl =>
      cases py
      split at e
      · rename_i xs q1
        cases q2 : ixN xs.length i with
        | none => rw [q2] at e; cases e
        | some j =>
          rw [q2] at e
          cases e
          obtain ⟨vs, h1, h2⟩ := r.list hl q1
          obtain ⟨le, r2⟩ := le_setlist r hl (h2.set pz j)
          exact ⟨_, vs, i, j, rfl, rfl, h1, by rw [← h2.length]; exact q2, q _ le r2⟩
      · cases e
  · cases e
end Mi
namespace Mi
open PySem PySem.Spec PyProof.Rows L2
/-! ### list comprehensions -/
/-- a list that is being made is no cell yet: what a value's standing needs -/
structure Lw (K : PySem.W.Frag) (m : List Addr) (H : Hp) (m' : List Addr) (H' : Hp) : Prop where
  pre : ∃ r, m' = m ++ r
  tup : ∀ a xs, SqT K H a xs → SqT K H' a xs
  frl : ∀ a xs, FrL K H a xs → FrL K H' a xs
  xd : ∀ b vfs, H b = some (.xd vfs) → b ∉ m → H' b = some (.xd vfs) ∧ b ∉ m'
  trk : ∀ a xs, H a = some (.tup xs) → H' a = some (.tup xs)
section
variable {K : PySem.W.Frag} {mg : Str → Option Value} {m m1 m2 : List Addr} {H H1 H2 : Hp} {s : Store} {p : Addr}
theorem Le.w (e : Le K m H m1 H1) : Lw K m H m1 H1 := ⟨e.pre, e.tup, e.frl, fun b vfs h n => ⟨e.fr _ _ h n, fun z => (e.nw _ z).elim n fun q => by rw [h] at q; cases q⟩, e.trk⟩
theorem Lw.get (e : Lw K m H m1 H1) {l : Nat} {a : Addr} (h : m[l]? = some a) : m1[l]? = some a := by
  obtain ⟨r, rfl⟩ := e.pre
  rw [List.getElem?_append_left (by
    rcases Nat.lt_or_ge l m.length with q | q
    · exact q
    · rw [List.getElem?_eq_none q] at h; cases h)]
  exact h
mutual
theorem Rep.monoW (e : Lw K m H m1 H1) : ∀ {d : D} {v : V}, Rep K m H d v → Rep K m1 H1 d v
  | _, _, .non => .non
  | _, _, .bl b => .bl b
  | _, _, .int i => .int i
  | _, _, .str x => .str x
  | _, _, .tup h r => .tup (e.trk _ _ h) (Reps.monoW e r)
  | _, _, .fl h r => .fl (e.frl _ _ h) (Reps.monoW e r)
  | _, _, .loc h => .loc (e.get h)
  | _, _, .exv h n r => .exv (e.xd _ _ h n).1 (e.xd _ _ h n).2 (FldR.monoW e r)
theorem Reps.monoW (e : Lw K m H m1 H1) : ∀ {ds : List D} {vs : List V}, Reps K m H ds vs → Reps K m1 H1 ds vs
  | _, _, .nil => .nil
  | _, _, .cons h r => .cons (Rep.monoW e h) (Reps.monoW e r)
theorem FldR.monoW (e : Lw K m H m1 H1) : ∀ {ds : List (Str × D)} {vs : List (Str × V)}, FldR K m H ds vs → FldR K m1 H1 ds vs
  | _, _, .nil => .nil
  | _, _, .cons h r => .cons (Rep.monoW e h) (FldR.monoW e r)
end
theorem RepK.monoW {κ : Type} (e : Lw K m H m1 H1) : ∀ {ds : List (κ × D)} {vs : List (κ × V)}, RepK K m H ds vs → RepK K m1 H1 ds vs
  | _, _, .nil => .nil
  | _, _, .cons h r => .cons (h.monoW e) (RepK.monoW e r)
theorem RelE.monoW (e : Lw K m H m1 H1) {env : Sl} {σ : L2.St} (h : RelE K m H env σ) : RelE K m1 H1 env σ :=
  ⟨h.1, fun i d q => let ⟨v, h1, h2⟩ := h.2 i d q; ⟨v, h1, h2.monoW e⟩⟩
theorem CellR.monoW {c : Cell} {a : Addr} (e : Lw K m H m1 H1) (hs : H1 a = H a) (h : CellR K m H a c) : CellR K m1 H1 a c := by
  cases c with
  | lst xs => obtain ⟨vs, h1, h2⟩ := h; exact ⟨vs, hs.trans h1, h2.monoW e⟩
  | dic kvs => obtain ⟨ws, h1, h2⟩ := h; exact ⟨ws, hs.trans h1, h2.monoW e⟩
  | dct kvs => obtain ⟨ws, h1, h2⟩ := h; exact ⟨ws, hs.trans h1, h2.monoW e⟩
/-- a list of ours that is no cell is written -/
theorem lw_side {vs ws : List V} (h : H p = some (.lst vs)) : Lw K m H m (upd H p (HO.lst ws)) :=
  ⟨⟨[], by simp⟩, fun b xs q => by
    rcases q with (q | ⟨ob, q⟩) | q
    · exact .inl (.inl (by rw [upd_ne (fun z => by subst z; rw [h] at q; cases q)]; exact q))
    · exact .inl (.inr ⟨ob, by rw [upd_ne (fun z => by subst z; rw [h] at q; cases q)]; exact q⟩)
    · exact .inr q, fun b xs q => by
    rcases q with ⟨ob, q⟩ | q
    · exact .inl ⟨ob, by rw [upd_ne (fun z => by subst z; rw [h] at q; cases q)]; exact q⟩
    · exact .inr q, fun b vfs q n => ⟨by rw [upd_ne (fun z => by subst z; rw [h] at q; cases q)]; exact q, n⟩, fun b xs q => by rw [upd_ne (fun z => by subst z; rw [h] at q; cases q)]; exact q⟩
theorem Rel.side (r : Rel K m H s) {vs ws : List V} (h : H p = some (.lst vs)) (n : p ∉ m) : Rel K m (upd H p (HO.lst ws)) s :=
  ⟨r.len, r.nd, fun l a c h1 h2 => (r.at_ l a c h1 h2).monoW (lw_side h) (upd_ne fun z => by subst z; exact n (List.mem_of_getElem? h1))⟩
theorem Le.side (e : Le K m H m1 H1) {vs ws : List V} (h0 : H p = none) (h : H1 p = some (.lst vs)) : Le K m H m1 (upd H1 p (HO.lst ws)) :=
  ⟨e.pre, fun a xs q => (lw_side (m := m1) h).tup a xs (e.tup a xs q), fun a xs q => (lw_side (m := m1) h).frl a xs (e.frl a xs q), fun b o q n => by
    rw [upd_ne (fun z => by subst z; rw [h0] at q; cases q)]; exact e.fr b o q n, e.nw, fun a xs q => (lw_side (K := K) (m := m1) h).trk a xs (e.trk a xs q)⟩
theorem lw_adopt {vs : List V} (h : H p = some (.lst vs)) : Lw K m H (m ++ [p]) H := ⟨⟨[p], rfl⟩, fun _ _ q => q, fun _ _ q => q, fun b vfs q n => ⟨q, fun z => by
    rcases List.mem_append.mp z with z | z
    · exact n z
    · rw [List.mem_singleton.mp z, h] at q; cases q⟩, fun _ _ q => q⟩
theorem Rel.adopt (r : Rel K m H s) {xs : List D} {vs : List V} (n : p ∉ m) (h : H p = some (.lst vs)) (q : Reps K m H xs vs) : Rel K (m ++ [p]) H (s ++ [Cell.lst xs]) := by
  refine ⟨by simp [r.len], ?_, fun j b d h1 h2 => ?_⟩
  · rw [List.nodup_append]
    exact ⟨r.nd, by simp, fun x hx y hy => by rw [List.mem_singleton.mp hy]; exact fun z => n (z ▸ hx)⟩
  · rcases Nat.lt_or_ge j m.length with w | w
    · rw [List.getElem?_append_left w] at h1
      rw [List.getElem?_append_left (by rw [← r.len]; exact w)] at h2
      exact (r.at_ j b d h1 h2).monoW (lw_adopt h) rfl
    · rw [List.getElem?_append_right w] at h1
      rw [List.getElem?_append_right (by rw [← r.len]; exact w), ← r.len] at h2
      cases hk : j - m.length with
      | zero =>
        rw [hk] at h1 h2
        simp at h1 h2
        subst h1; subst h2
        exact ⟨vs, h, q.monoW (lw_adopt h)⟩
      | succ n => rw [hk] at h1; simp at h1
theorem Le.adopt (e : Le K m H m1 H1) (h0 : H p = none) : Le K m H (m1 ++ [p]) H1 := by
  refine ⟨?_, e.tup, e.frl, e.fr, fun b h => ?_, e.trk⟩
  · obtain ⟨r, rfl⟩ := e.pre
    exact ⟨r ++ [p], by simp⟩
  · rcases List.mem_append.mp h with q | q
    · exact e.nw b q
    · rw [List.mem_singleton.mp q]; exact .inr h0
end
def wipeE (env : Sl) : List Nat → Sl
  | [] => env
  | v :: vs => (wipeE env vs).set v none
theorem wipeE_length (env : Sl) : ∀ vs : List Nat, (wipeE env vs).length = env.length
  | [] => rfl
  | v :: vs => by unfold wipeE; rw [List.length_set, wipeE_length env vs]
theorem wipeE_some {env : Sl} {i : Nat} {x : D} : ∀ {vs : List Nat}, (wipeE env vs)[i]? = some (some x) → env[i]? = some (some x) ∧ i ∉ vs
  | [], h => ⟨h, by simp⟩
  | v :: vs, h => by
    unfold wipeE at h
    by_cases hi : v = i
    · subst hi
      by_cases hv : v < (wipeE env vs).length
      · rw [List.getElem?_set_self hv] at h; cases h
      · rw [List.getElem?_eq_none (by simpa using hv)] at h; cases h
    · rw [List.getElem?_set_ne hi] at h
      obtain ⟨h1, h2⟩ := wipeE_some h
      exact ⟨h1, by simp only [List.mem_cons, not_or]; exact ⟨fun e => hi e.symm, h2⟩⟩
theorem relE_wipe {K : PySem.W.Frag} {m : List Addr} {H : Hp} {env : Sl} {σ : L2.St} (E : RelE K m H env σ) (vs : List Nat) : RelE K m H (wipeE env vs) (wipe σ vs) := by
  refine ⟨by rw [wipeE_length, wipe_length]; exact E.1, fun i d h => ?_⟩
  obtain ⟨h1, h2⟩ := wipeE_some h
  obtain ⟨v, h3, h4⟩ := E.2 i d h1
  exact ⟨v, by rw [wipe_out h2]; exact h3, h4⟩
theorem wipe_in {σ : L2.St} {i : Nat} : ∀ {vs : List Nat}, i ∈ vs → i < σ.length → (wipe σ vs)[i]? = some none
  | v :: vs, h, hl => by
    unfold wipe
    by_cases hv : v = i
    · subst hv
      rw [List.getElem?_set_self (by rw [wipe_length]; exact hl)]
    · rw [List.getElem?_set_ne hv]
      exact wipe_in (by rcases List.mem_cons.mp h with e | e; exact absurd e.symm hv; exact e) hl
theorem wipe_congr {σ σ' : L2.St} {vs : List Nat} (hl : σ'.length = σ.length) (h : ∀ i, i ∉ vs → σ'[i]? = σ[i]?) : wipe σ' vs = wipe σ vs := by
  apply List.ext_getElem?
  intro i
  by_cases hi : i ∈ vs
  · by_cases hn : i < σ.length
    · rw [wipe_in hi (by rw [hl]; exact hn), wipe_in hi hn]
    · rw [List.getElem?_eq_none (by rw [wipe_length, hl]; omega), List.getElem?_eq_none (by rw [wipe_length]; omega)]
  · rw [wipe_out hi, wipe_out hi, h i hi]
theorem wipe_wipe (σ : L2.St) (vs : List Nat) : wipe (wipe σ vs) vs = wipe σ vs := wipe_congr (wipe_length σ vs) fun i hi => wipe_out hi
/-- nothing is raised within a comprehension -/
def noX {α : Type} : R α → R α
  | .ok a s => .ok a s
  | _ => .no
open Classical in
noncomputable def lcL (guard : Store → Prop) (g : D → Sl → Option Sl) (t : ME Bool) (e : ME D) (env : Sl) : List D → List D → Store → R (List D)
  | [], acc, s => if guard s then .ok acc s else .no
  | x :: xs, acc, s => if guard s then (match g x env with
    | none => .no
    | some env1 => match t env1 s with
      | .ok b s1 => if b then (match e env1 s1 with
        | .ok y s2 => if acc.length < sizeLine then lcL guard g t e env xs (acc ++ [y]) s2 else .no
        | _ => .no) else lcL guard g t e env xs acc s1
      | _ => .no) else .no
noncomputable def eLc (it : ME Itm) (vs : List Nat) (g : D → Sl → Option Sl) (t : ME Bool) (e : ME D) : ME D := fun env s => (it env s).bind fun i s => (lcL i.guard g t e (wipeE env vs) i.xs [] s).bind fun acc s => .ok (.loc s.length) (s ++ [.lst acc])
def tT : ME Bool := fun _ s => .ok true s
abbrev WF : WX := fun _ _ _ _ => False
section
variable {X : Cx} {W : WX}
theorem lc_run {fi : ME Itm} {vs : List Nat} {gt : D → Sl → Option Sl} {ft : ME Bool} {fe : ME D} : ∀ σ H Q, Te X.K X.mg W (eLc fi vs gt ft fe) σ H Q →
    tLc (Ti X.K X.mg W fi) (GTm X.K vs gt) (Tt X.K X.mg WF ft) (Te X.K X.mg WF fe) vs σ H Q := fun σ H Q h =>
  Tm.bind (k := fun env (i : Itm) s => (lcL i.guard gt ft fe (wipeE env vs) i.xs [] s).bind fun acc s => R.ok (D.loc s.length) (s ++ [Cell.lst acc])) h fun m1 H1 env it J s1 r1 E1 p1 g1 => by
    intro P hP
    refine ⟨fun i k H => k = it.xs.length - i ∧ i ≤ it.xs.length ∧ ∃ m2 s2 acc accV, Le X.K m1 H1 m2 H ∧ Rel X.K m2 H s2 ∧ H P = some (.lst accV) ∧ P ∉ m2 ∧ Reps X.K m2 H acc accV ∧
        G X.K X.mg (Rep X.K) W σ m1 H1 Q ((lcL it.guard gt ft fe (wipeE env vs) (it.xs.drop i) acc s2).bind fun acc s => R.ok (D.loc s.length) (s ++ [Cell.lst acc])),
      ⟨it.xs.length, by simp, Nat.zero_le _, m1, s1, [], [], le_new hP, r1.tmp hP, upd_same, r1.new_notin hP, .nil, g1⟩, ?_⟩
    rintro i k H2 ⟨rfl, hi, m2, s2, acc, accV, l2, r2, hD, nD, pA, g2⟩
    by_cases hlt : i < it.xs.length
    · have hx : it.xs[i]? = some it.xs[i] := by simp [hlt]
      have hd : it.xs.drop i = it.xs[i] :: it.xs.drop (i + 1) := List.drop_eq_getElem_cons hlt
      rw [hd] at g2
      unfold lcL at g2
      by_cases hgd : it.guard s2
      · simp only [hgd, if_true] at g2
        obtain ⟨hall, _⟩ := p1 m2 H2 s2 l2 r2 hgd
        obtain ⟨hgo, hy⟩ := hall i _ hx
        refine .inr ⟨hgo, fun H' => ∃ m2 s2 acc accV, Le X.K m1 H1 m2 H' ∧ Rel X.K m2 H' s2 ∧ H' P = some (.lst accV) ∧ P ∉ m2 ∧ Reps X.K m2 H' acc accV ∧
          G X.K X.mg (Rep X.K) W σ m1 H1 Q ((lcL it.guard gt ft fe (wipeE env vs) (it.xs.drop (i + 1)) acc s2).bind fun acc s => R.ok (D.loc s.length) (s ++ [Cell.lst acc])),
          fun H' q => ⟨it.xs.length - (i + 1), by omega, rfl, hlt, q⟩, fun v H3 y => ?_⟩
        obtain ⟨l3, r3, p3⟩ := hy v H3 y
        cases q : gt it.xs[i] (wipeE env vs) with
        | none => simp only [q] at g2; exact g2.elim
        | some env3 =>
          simp only [q] at g2
          have l13 := l2.trans l3
          have hD3 := l3.fr P _ hD nD
          refine ⟨m2, wipeE env vs, s2, it.xs[i], env3, r3, relE_wipe (E1.mono l13) vs, p3, q, fun σ4 E4 k4 n4 => ⟨by rw [wipe_congr n4 k4, wipe_wipe], m2, env3, s2, r3, E4, ?_⟩⟩
          cases ht : ft env3 s2 with
          | no => rw [ht] at g2; exact g2.elim
          | ex x s4 => rw [ht] at g2; exact g2.elim
          | ok b s4 =>
            simp only [ht] at g2
            intro m5 H5 b' l5 r5 eb
            cases (show b = b' from eb)
            have hD5 := l5.fr P _ hD3 nD
            have nD5 : P ∉ m5 := fun z => by
              rcases l5.nw P z with w | w
              · exact nD w
              · rw [hD3] at w; cases w
            have l15 := l13.trans l5
            cases b with
            | false =>
              refine iteF ⟨m5, s4, acc, accV, l15, r5, hD5, nD5, (pA.mono l3).mono l5, ?_⟩
              simpa using g2
            | true =>
              simp only [if_true] at g2
              refine iteT ⟨m5, env3, s4, r5, E4.mono l5, ?_⟩
              cases he : fe env3 s4 with
              | no => rw [he] at g2; exact g2.elim
              | ex x s6 => rw [he] at g2; exact g2.elim
              | ok y s6 =>
                simp only [he] at g2
                by_cases hz : acc.length < sizeLine
                · simp only [hz, if_true] at g2
                  intro m7 H7 yv l7 r7 p7
                  have hD7 := l7.fr P _ hD5 nD5
                  have nD7 : P ∉ m7 := fun z => by
                    rcases l7.nw P z with w | w
                    · exact nD5 w
                    · rw [hD5] at w; cases w
                  have pA7 := ((pA.mono l3).mono l5).mono l7
                  exact ⟨accV, hD7, by rw [← pA.length]; exact hz, m7, s6, acc ++ [y], accV ++ [yv], (l15.trans l7).side hP hD7, r7.side hD7 nD7, upd_same, nD7,
                    (pA7.monoW (lw_side hD7)).append (.cons (p7.monoW (lw_side hD7)) .nil), g2⟩
                · simp only [hz, if_false] at g2
                  exact g2.elim
      · simp only [hgd, if_false] at g2
        exact g2.elim
    · have e : i = it.xs.length := by omega
      subst e
      rw [List.drop_length] at g2
      unfold lcL at g2
      by_cases hgd : it.guard s2
      · simp only [hgd, if_true] at g2
        refine .inl ⟨(p1 m2 H2 s2 l2 r2 hgd).2, ?_⟩
        exact g2 (m2 ++ [P]) H2 (.ref P) (l2.adopt hP) (r2.adopt nD hD pA) (.loc (len_get r2))
      · simp only [hgd, if_false] at g2
        exact g2.elim
variable {elt tg iter c : Expr} {ifs : List Expr} {scope : Scope} {own : List (Str × Nat)} {pos : Pos} {fi : ME Itm} {gt : D → Sl → Option Sl} {ft : ME Bool} {fe : ME D}
theorem cts_nil : PTs X [] (Tt X.K X.mg W tT) := ⟨fun pins s σ H Q I ⟨m, env, st, r, E, g⟩ => pts_nil.run pins s σ H Q I (g.nowB r)⟩
theorem cts_one (h : PT X c (Tt X.K X.mg W ft)) : PTs X [c] (Tt X.K X.mg W ft) := pts_one h
theorem ce_lc (hc : X.calm = true) (hN : X.N.Nodup) (hi : PI X tg iter (Ti X.K X.mg W fi)) (ok : BlkOk X.N X.env.scope scope own)
    (hg : ∀ (s : Shared) (H : Hp) (C : Addr) (cl : List (Str × Addr)) (fp : List Addr), PG (X.blk s H scope (compEnvC scope cl C X.env) fp) tg (GTm X.K (own.map (·.2)) gt)) (ht : ∀ (s : Shared) (H : Hp) (C : Addr) (cl : List (Str × Addr)) (fp : List Addr), PTs (X.blk s H scope (compEnvC scope cl C X.env) fp) ifs (Tt X.K X.mg WF ft))
    (he : ∀ (s : Shared) (H : Hp) (C : Addr) (cl : List (Str × Addr)) (fp : List Addr), PE (X.blk s H scope (compEnvC scope cl C X.env) fp) elt (Te X.K X.mg WF fe)) (hs : ∀ x, foldedSetIterable iter X.env x = pure x := by intro _; rfl) :
    PE X (.ListComp elt [⟨tg, iter, ifs, 0⟩] scope pos) (Te X.K X.mg W (eLc fi (own.map (·.2)) gt ft fe)) := PE.imp (pe_lc hc hN hi ok hg ht he hs) lc_run
theorem cs_setLc {i : Nat} {y : Str} {py spos : Pos} (hc : X.calm = true) (hN : X.N.Nodup) (hy : X.N[i]? = some y) (hyl : X.env.scope.names.lookup y = some .local)
    (hsw : swapsWith (.ListComp elt [⟨tg, iter, ifs, 0⟩] scope pos) (some (.Name y py)) spos.line X.env = pure true) (hi : PI X tg iter (Ti X.K X.mg W fi)) (ok : BlkOk X.N X.env.scope scope own)
    (hg : ∀ (s : Shared) (H : Hp) (C : Addr) (cl : List (Str × Addr)) (fp : List Addr), PG (X.blk s H scope (compEnvC scope cl C X.env) fp) tg (GTm X.K (own.map (·.2)) gt)) (ht : ∀ (s : Shared) (H : Hp) (C : Addr) (cl : List (Str × Addr)) (fp : List Addr), PTs (X.blk s H scope (compEnvC scope cl C X.env) fp) ifs (Tt X.K X.mg WF ft))
    (he : ∀ (s : Shared) (H : Hp) (C : Addr) (cl : List (Str × Addr)) (fp : List Addr), PE (X.blk s H scope (compEnvC scope cl C X.env) fp) elt (Te X.K X.mg WF fe)) (hs : ∀ x, foldedSetIterable iter X.env x = pure x := by intro _; rfl) :
    PS X (.Assign [.Name y py] (.ListComp elt [⟨tg, iter, ifs, 0⟩] scope pos) spos) (Ts X.K X.mg W (sSet i (eLc fi (own.map (·.2)) gt ft fe))) := PS.imp (ps_setLc (i := i) hc hN hy hyl hsw hi ok hg ht he hs) fun Dn σ H h =>
  lc_run σ H _ (Ts.ofE (k := fun env d s => RS.nx (env.set i (some d)) s) h fun m1 H1 env d v s1 r1 E1 p1 g1 => g1 m1 _ H1 .refl r1 (relE_set E1 p1 i))
end
/-! ### a def -/
/-- the mirror of a def: N names, n of them parameters -/
def fnM (N n : Nat) (b : MS) : List D → Store → R D := fun ds s => match b (ds.map some ++ List.replicate (N - n) none) s with
  | .rt d s => .ok d s
  | .nx _ s => .ok .non s
  | .ex e _ s => .ex e s
  | _ => .no
theorem relE_start {K : PySem.W.Frag} {m : List Addr} {H : Hp} {N : List Str} {ds : List D} {vs : List V} (p : Reps K m H ds vs) : RelE K m H (ds.map some ++ List.replicate (N.length - ds.length) none) (L2.start N vs) := by
  have hl := p.length
  refine ⟨by simp [L2.start, hl], fun i d h => ?_⟩
  by_cases hi : i < ds.length
  · rw [List.getElem?_append_left (by simpa using hi), List.getElem?_map] at h
    cases q : ds[i]? with
    | none => rw [q] at h; cases h
    | some d' =>
      rw [q] at h; cases h
      obtain ⟨v, h1, h2⟩ := p.get q
      refine ⟨v, ?_, h2⟩
      unfold L2.start
      rw [List.getElem?_append_left (by simpa using (hl ▸ hi)), List.getElem?_map, h1]
      rfl
  · rw [List.getElem?_append_right (by simpa using Nat.le_of_not_lt hi), List.getElem?_replicate] at h
    split at h <;> cases h
theorem okM {P : Program} {w : World} {K : PySem.W.Frag} {mg : Str → Option Value} {base : Heap} {x qual : Str} {st : Stmt} {f : Addr} {fd : FuncData} {N ps : List Str} {k n : Nat} {b : MS} (F : Fun K x qual st f fd) (S : FnScope N ps (defScope st)) (hn : ps.length = n)
    (hb : ∀ (cdv : Value) (A : Around) (outer : List Env) (s : Shared) (H : Hp) (E : XK), Room k (A.deeper (envOfC qual (defScope st) s.heap.objs.size f cdv)) → Takes (cxOf (L2.CX P w) P w K mg base N qual (defScope st) f cdv A outer s H E) (fun c d _ H => E c d H) →
      PSs (cxOf (L2.CX P w) P w K mg base N qual (defScope st) f cdv A outer s H E) (defBody st) (Ts K mg (fun c d _ H => E c d H) b)) :
    FnOk P w K mg base (L2.CX P w) (k + 1) f fd ps (spM K mg n (fnM N.length n b)) := by
  refine F.okX S (fun vs H Q E h => by rw [hn]; exact h.1) fun cdv A outer s H vs Q E hr h => ⟨_, hb cdv A outer s H E hr (takes_of rfl rfl rfl rfl), ?_⟩
  obtain ⟨hl, m, s, ds, r, p, g⟩ := h
  refine ⟨m, _, s, r, relE_start (N := N) p, ?_⟩
  have hd : ds.length = n := by rw [p.length, hl]
  unfold fnM at g
  rw [hd]
  cases q : b (ds.map some ++ List.replicate (N.length - n) none) s with
  | nx env s1 => rw [q] at g; exact fun m' σ' H' l r' _ => g m' H' .non l r' .non
  | rt d s1 => rw [q] at g; exact g
  | ex e env s1 => rw [q] at g; exact fun m' σ' H' c dd l r' _ x => g m' H' c dd l r' x
  | bk env s1 => rw [q] at g; exact g.elim
  | ct env s1 => rw [q] at g; exact g.elim
  | no => rw [q] at g; exact g.elim
end Mi
namespace Mi
open PySem PySem.Spec PyProof.Rows L2
/-! ### the law's end -/
theorem an_nil : ∀ (xs : List D) (s : Store) (env : Sl) (s' : Store), aNil env s = .ok xs s' → xs.length = 0 := fun xs s env s' h => by cases h; rfl
theorem an_cons {a : ME D} {r : ME (List D)} {n : Nat} (h : ∀ (xs : List D) (s : Store) (env : Sl) (s' : Store), r env s = .ok xs s' → xs.length = n) :
    ∀ (xs : List D) (s : Store) (env : Sl) (s' : Store), aCons a r env s = .ok xs s' → xs.length = n + 1 := fun xs s env s' e => by
  unfold aCons at e
  cases q : a env s with
  | no => rw [q] at e; cases e
  | ex x s1 => rw [q] at e; cases e
  | ok x s1 =>
    rw [q] at e
    simp only [R.bind_ok] at e
    cases q2 : r env s1 with
    | no => rw [q2] at e; cases e
    | ex x s2 => rw [q2] at e; cases e
    | ok ys s2 =>
      rw [q2] at e
      simp only [R.bind_ok] at e
      have z := h ys s1 env s2 q2
      cases e
      rw [List.length_cons, z]
def dAddI : D → D → Store → Option (D × Store) := dI fun i j => some (.int (i + j))
theorem ips_add {K : PySem.W.Frag} : OpS K (ipI fun i j => i + j) dAddI := fun {mg W σ m H s x y dx dy Q} r px py g => ops_dI0 (K := K) (gv := fun i j => .int (i + j)) (fun _ _ _ _ => .int _) r px py g
theorem ips_sub {K : PySem.W.Frag} : OpS K (ipI fun i j => i - j) dSub := fun {mg W σ m H s x y dx dy Q} r px py g => ops_sub (K := K) r px py g
theorem cx_none {P : Program} {w : World} {l : List Env} {H : Hp} {s : Shared} {e : Value} {s' : Shared} (h : L2.CX P w l H s (fun _ _ _ => False) e s') : False := by
  obtain ⟨_, _, _, _, _, _, _, _, _, _, _, _, z⟩ := h
  exact z
def spLaw (K : PySem.W.Frag) : Sp := fun vs H Q _ => ∃ (a : Addr) (ns : List Int), vs = [.ref a] ∧ SqL K H a (ns.map V.int) ∧ ns.length ≤ 63 ∧ Only H ∧ ∀ H', Q (.bl true) H'
theorem law_imp {K : PySem.W.Frag} {mg : Str → Option Value} {g : List D → Store → R D} (h : ∀ ns : List Int, ns.length ≤ 63 → ∃ s, g [.fl (ns.map D.int)] [] = .ok (.bl true) s) :
    ∀ vs H Q E, spLaw K vs H Q E → spM K mg 1 g vs H Q E := fun vs H Q E ⟨a, ns, e, hS, hl, hO, q⟩ => by
  subst e
  refine ⟨rfl, [], [], [.fl (ns.map D.int)], ⟨rfl, List.nodup_nil, fun l a c h => by simp at h⟩, .cons (.fl (vs := ns.map V.int) ?_ (reps_ints ns)) .nil, ?_⟩
  · rcases hS with (hS | hS) | hS
    · rcases hO a with z | ⟨o, xs, z⟩
      · rw [hS] at z; cases z
      · rw [hS] at z; cases z
    · exact .inl hS
    · exact .inr hS
  · obtain ⟨s, e⟩ := h ns hl
    rw [e]
    intro m' H' v _ _ p
    cases p
    exact q H'
end Mi
namespace Mi
open PySem PySem.Spec PyProof.Rows L2
/-! ### running a mirror by simp -/
@[simp] theorem line_num : sizeLine = 16777216 := sizeLine_eq
/-- what range(n) gives -/
def rng (n : Nat) : List D := (List.range n).map fun i => .int ((0 : Int) + (i : Nat))
section
variable (env : Sl) (s : Store)
@[simp] theorem eC_eq (d : D) : eC d env s = .ok d s := rfl
@[simp] theorem eV_0 (d : D) (r : Sl) : eV 0 (some d :: r) s = .ok d s := rfl
@[simp] theorem eV_s (i : Nat) (o : Option D) (r : Sl) : eV (i + 1) (o :: r) s = eV i r s := rfl
@[simp] theorem e2_eq (g) (a b : ME D) : e2 g a b env s = (a env s).bind fun x s => (b env s).bind fun y s => R.of (g x y s) := rfl
@[simp] theorem e1_eq (g) (a : ME D) : e1 g a env s = (a env s).bind fun x s => R.of (g x s) := rfl
@[simp] theorem aNil_eq : aNil env s = .ok [] s := rfl
@[simp] theorem aCons_eq (a : ME D) (r : ME (List D)) : aCons a r env s = (a env s).bind fun x s => (r env s).bind fun xs s => .ok (x :: xs) s := rfl
@[simp] theorem eFn_eq (g) (a : ME (List D)) : eFn g a env s = (a env s).bind fun xs s => R.of (g xs s) := rfl
theorem le_line {n : Nat} (h : n ≤ 1000000) : n ≤ sizeLine := by rw [sizeLine_eq]; omega
theorem lt_line {n : Nat} (h : n ≤ 1000000) : n < sizeLine := by rw [sizeLine_eq]; omega
@[simp] theorem eTup_eq (a : ME (List D)) : eTup a env s = (a env s).bind fun xs s => if xs.length ≤ sizeLine then .ok (.tup xs) s else .no := rfl
@[simp] theorem eLst_eq (a : ME (List D)) : eLst a env s = (a env s).bind fun xs s => if xs.length ≤ sizeLine then .ok (.loc s.length) (s ++ [.lst xs]) else .no := rfl
/-- written displays -/
def arity : ME (List D) → Nat → Prop := fun a n => ∀ env s xs s', a env s = .ok xs s' → xs.length = n
theorem tup_short (xs : List D) (h : xs.length ≤ 1000000) : (if xs.length ≤ sizeLine then (R.ok (D.tup xs) s : R D) else .no) = .ok (.tup xs) s := if_pos (le_line h)
@[simp] theorem eCall_eq (g : List D → Store → R D) (a : ME (List D)) : eCall g a env s = (a env s).bind g := rfl
@[simp] theorem tV_eq (a : ME D) : tV a env s = (a env s).bind fun x s => match x with | .bl b => .ok b s | _ => .no := rfl
@[simp] theorem tAnd_eq (a b : ME Bool) : tAnd a b env s = (a env s).bind fun x s => if x then b env s else .ok false s := rfl
@[simp] theorem tOr_eq (a b : ME Bool) : tOr a b env s = (a env s).bind fun x s => if x then .ok true s else b env s := rfl
@[simp] theorem tNot_eq (a : ME Bool) : tNot a env s = (a env s).bind fun x s => .ok (!x) s := rfl
@[simp] theorem eIf_eq (c : ME Bool) (a b : ME D) : eIf c a b env s = (c env s).bind fun x s => if x then a env s else b env s := rfl
@[simp] theorem eAnd_eq (a b : ME D) : eAnd a b env s = (a env s).bind fun x s => match x with | .bl true => b env s | .bl false => .ok (.bl false) s | _ => .no := rfl
@[simp] theorem eOr_eq (a b : ME D) : eOr a b env s = (a env s).bind fun x s => match x with | .bl true => .ok (.bl true) s | .bl false => b env s | _ => .no := rfl
@[simp] theorem eNot_eq (a : ME D) : eNot a env s = (a env s).bind fun x s => match x with | .bl c => .ok (.bl !c) s | _ => .no := rfl
@[simp] theorem eChain_eq (g g') (a b c : ME D) : eChain g g' a b c env s = (a env s).bind fun x s => (b env s).bind fun y s => (R.of (g x y s)).bind fun z s => match z with
  | .bl true => (c env s).bind fun w s => R.of (g' y w s)
  | .bl false => .ok (.bl false) s
  | _ => .no := rfl
@[simp] theorem eMt_eq (T : String) (g) (a : ME D) (fs : ME (List D)) : eMt T g a fs env s = (a env s).bind fun x s => if tyOk T s x = true then (fs env s).bind fun xs s => R.of (g x xs s) else .no := rfl
@[simp] theorem eMt0_eq (T : String) (g) (a : ME D) : eMt0 T g a env s = (a env s).bind fun x s => if tyOk T s x = true then R.of (g x [] s) else .no := rfl
@[simp] theorem oNone_eq : oNone env s = .ok none s := rfl
@[simp] theorem oSome_eq (a : ME D) : oSome a env s = (a env s).bind fun x s => match x with | .int i => .ok (some i) s | _ => .no := rfl
@[simp] theorem eSl_eq (g) (a : ME D) (lo hi : ME (Option Int)) : eSl g a lo hi env s = (a env s).bind fun x s => (lo env s).bind fun l s => (hi env s).bind fun u s => R.of (g x l u s) := rfl
@[simp] theorem gN_eq (i : Nat) (d : D) : gN i d env = some (env.set i (some d)) := rfl
@[simp] theorem gsN_eq : gsN [] env = some env := rfl
@[simp] theorem gsC_eq (g) (r) (x : D) (xs : List D) : gsC g r (x :: xs) env = (g x env).bind (r xs) := rfl
@[simp] theorem gT_eq (n : Nat) (r) (xs : List D) : gT n r (.tup xs) env = if xs.length = n then r xs env else none := rfl
@[simp] theorem sNil_eq : sNil env s = .nx env s := rfl
@[simp] theorem sSeq_eq (f g : MS) : sSeq f g env s = (f env s).bind g := rfl
@[simp] theorem sSet_eq (i : Nat) (e : ME D) : sSet i e env s = (e env s).then env fun d s => .nx (env.set i (some d)) s := rfl
@[simp] theorem sAsg_eq (g) (e : ME D) : sAsg g e env s = (e env s).then env fun d s => match g d env with | some env' => .nx env' s | none => .no := rfl
@[simp] theorem sIf_eq (c : ME Bool) (f g : MS) : sIf c f g env s = (c env s).then env fun b s => if b then f env s else g env s := rfl
@[simp] theorem sRet_eq (e : ME D) : sRet e env s = (e env s).then env fun d s => .rt d s := rfl
@[simp] theorem sRetN_eq : sRetN env s = .rt .non s := rfl
@[simp] theorem sExpr_eq (e : ME D) : sExpr e env s = (e env s).then env fun _ s => .nx env s := rfl
@[simp] theorem sBrk_eq : sBrk env s = .bk env s := rfl
@[simp] theorem sCnt_eq : sCnt env s = .ct env s := rfl
@[simp] theorem sPut_eq (g) (o i e : ME D) : sPut g o i e env s = (e env s).then env fun d s => (o env s).then env fun x s => (i env s).then env fun y s => match g x y d s with
  | some s' => .nx env s'
  | none => .no := rfl
@[simp] theorem sFor_eq (it : ME Itm) (g) (b : MS) : sFor it g b env s = (it env s).then env fun i s => forL i.guard g b i.xs env s := rfl
@[simp] theorem eLc_eq (it : ME Itm) (vs g t e) : eLc it vs g t e env s = (it env s).bind fun i s => (lcL i.guard g t e (wipeE env vs) i.xs [] s).bind fun acc s => .ok (.loc s.length) (s ++ [.lst acc]) := rfl
@[simp] theorem tT_eq : tT env s = .ok true s := rfl
@[simp] theorem iSeq_eq (a : ME D) : iSeq a env s = (a env s).bind fun x s => match x with
  | .tup xs => .ok (Itm.mk xs always) s
  | .fl xs => .ok (Itm.mk xs always) s
  | .str z => .ok (Itm.mk (z.cps.toList.map fun c => .str ⟨#[c]⟩) always) s
  | .loc l => match s[l]? with
    | some (.lst xs) => .ok (Itm.mk xs fun s2 => s2[l]? = some (.lst xs)) s
    | _ => .no
  | _ => .no := rfl
noncomputable def rangeOf (x : List D) (s : Store) : R Itm := match x with
  | [.int j] => if InR j then .ok (Itm.mk (rng j.toNat) always) s else .no
  | _ => .no
@[simp] theorem iRange1_eq (a : ME (List D)) : iRange1 a env s = (a env s).bind rangeOf := (rfl)
theorem big62 : (1000000000 : Int) < 2 ^ 62 := by decide
@[simp] theorem rangeOf_int (j : Int) (h0 : 0 ≤ j) (h1 : j ≤ 1000000000) : rangeOf [.int j] s = .ok (Itm.mk (rng j.toNat) always) s :=
  if_pos ⟨Int.le_trans (by decide) h0, Int.lt_of_le_of_lt h1 big62⟩
noncomputable def rangeOf2 (x : List D) (s : Store) : R Itm := match x with
  | [.int i, .int j] => if InR i ∧ InR j then .ok (Itm.mk ((List.range (j - i).toNat).map fun k => .int (i + (k : Nat))) always) s else .no
  | _ => .no
@[simp] theorem iRange2_eq (a : ME (List D)) : iRange2 a env s = (a env s).bind rangeOf2 := (rfl)
@[simp] theorem rangeOf2_int (i j : Int) (h0 : 0 ≤ i) (h1 : i ≤ 1000000000) (h2 : 0 ≤ j) (h3 : j ≤ 1000000000) : rangeOf2 [.int i, .int j] s = .ok (Itm.mk ((List.range (j - i).toNat).map fun k => .int (i + (k : Nat))) always) s :=
  if_pos ⟨⟨Int.le_trans (by decide) h0, Int.lt_of_le_of_lt h1 big62⟩, Int.le_trans (by decide) h2, Int.lt_of_le_of_lt h3 big62⟩
@[simp] theorem wipeE_nil : wipeE env [] = env := rfl
@[simp] theorem wipeE_cons (v : Nat) (vs : List Nat) : wipeE env (v :: vs) = (wipeE env vs).set v none := rfl
@[simp] theorem forL_nil_always (g) (b : MS) : forL always g b [] env s = .nx env s := by unfold forL; simp [always]
theorem forL_cons_always (g) (b : MS) (x : D) (xs : List D) : forL always g b (x :: xs) env s = match g x env with
    | none => .no
    | some env1 => match b env1 s with
      | .nx env2 s2 => forL always g b xs env2 s2
      | .ct env2 s2 => forL always g b xs env2 s2
      | .bk env2 s2 => .nx env2 s2
      | .rt d s2 => .rt d s2
      | .ex e env2 s2 => .ex e env2 s2
      | .no => .no := by
  conv => lhs; unfold forL
  exact (if_pos trivial).trans rfl
theorem forL_nil (gd : Store → Prop) (h : gd s) (g) (b : MS) : forL gd g b [] env s = .nx env s := by unfold forL; simp [h]
theorem forL_cons (gd : Store → Prop) (h : gd s) (g) (b : MS) (x : D) (xs : List D) : forL gd g b (x :: xs) env s = match g x env with
    | none => .no
    | some env1 => match b env1 s with
      | .nx env2 s2 => forL gd g b xs env2 s2
      | .ct env2 s2 => forL gd g b xs env2 s2
      | .bk env2 s2 => .nx env2 s2
      | .rt d s2 => .rt d s2
      | .ex e env2 s2 => .ex e env2 s2
      | .no => .no := by
  conv => lhs; unfold forL
  exact (if_pos h).trans rfl
theorem lcL_nil (gd : Store → Prop) (h : gd s) (g t e) (acc : List D) : lcL gd g t e env [] acc s = .ok acc s := by unfold lcL; simp [h]
theorem lcL_cons (gd : Store → Prop) (h : gd s) (g t e) (acc : List D) (x : D) (xs : List D) : lcL gd g t e env (x :: xs) acc s = match g x env with
    | none => .no
    | some env1 => match t env1 s with
      | .ok b s1 => if b then (match e env1 s1 with
        | .ok y s2 => if acc.length < sizeLine then lcL gd g t e env xs (acc ++ [y]) s2 else .no
        | _ => .no) else lcL gd g t e env xs acc s1
      | _ => .no := by
  conv => lhs; unfold lcL
  exact (if_pos h).trans rfl
end
@[simp] theorem dI_eq (f : Int → Int → Option D) (i j : Int) (s : Store) : dI f (.int i) (.int j) s = (f i j).map fun d => (d, s) := rfl
@[simp] theorem dAdd_int (i j : Int) (s : Store) : dAdd (.int i) (.int j) s = some (.int (i + j), s) := rfl
theorem dAdd_loc {s : Store} {l k : Nat} {xs ys : List D} (h : s[l]? = some (.lst xs)) (h2 : s[k]? = some (.lst ys)) (hz : xs.length + ys.length ≤ 1000000) : dAdd (.loc l) (.loc k) s = some (.loc s.length, s ++ [.lst (xs ++ ys)]) := by
  have q := le_line hz
  simp only [dAdd, h, h2, q, if_true]
theorem dAdd_tup {s : Store} {xs ys : List D} (hz : xs.length + ys.length ≤ 1000000) : dAdd (.tup xs) (.tup ys) s = some (.tup (xs ++ ys), s) := by
  have q := le_line hz
  simp only [dAdd, q, if_true]
@[simp] theorem dSub_int (i j : Int) (s : Store) : dSub (.int i) (.int j) s = some (.int (i - j), s) := rfl
theorem dMul_int (i j : Int) (s : Store) (h : CMul i j) : dMul (.int i) (.int j) s = some (.int (i * j), s) := by simp [dMul, h]
/-- one factor is small -/
@[simp] theorem dMul_r (i j : Int) (s : Store) (h : -(2 ^ 64) < j ∧ j < 2 ^ 64) : dMul (.int i) (.int j) s = some (.int (i * j), s) := dMul_int i j s (.inr h)
theorem dMul_l (i j : Int) (s : Store) (h : -(2 ^ 64) < i ∧ i < 2 ^ 64) : dMul (.int i) (.int j) s = some (.int (i * j), s) := dMul_int i j s (.inl h)
@[simp] theorem dDiv_int (i j : Int) (s : Store) (h : 0 < j ∧ j < 1073741824) : dDiv (.int i) (.int j) s = some (.int (i / j), s) := by
  have q : CDiv i j := h
  simp [dDiv, q]
@[simp] theorem dMod_int (i j : Int) (s : Store) (h : 0 < j) : dMod (.int i) (.int j) s = some (.int (i % j), s) := by simp [dMod, h]
@[simp] theorem dPow_int (i j : Int) (s : Store) (h : 0 ≤ j ∧ j ≤ 1000000 ∧ i.natAbs < 2 ^ 64) : dPow (.int i) (.int j) s = some (.int (i ^ j.toNat), s) := by
  have q : CPow i j := h
  simp [dPow, q]
@[simp] theorem dNeg_int (i : Int) (s : Store) : dNeg (.int i) s = some (.int (-i), s) := rfl
@[simp] theorem dLt_int (i j : Int) (s : Store) : dLt (.int i) (.int j) s = some (.bl (decide (i < j)), s) := rfl
@[simp] theorem dLe_int (i j : Int) (s : Store) : dLe (.int i) (.int j) s = some (.bl (decide (i ≤ j)), s) := rfl
@[simp] theorem dGt_int (i j : Int) (s : Store) : dGt (.int i) (.int j) s = some (.bl (decide (j < i)), s) := rfl
@[simp] theorem dGe_int (i j : Int) (s : Store) : dGe (.int i) (.int j) s = some (.bl (decide (j ≤ i)), s) := rfl
@[simp] theorem dEq_int (i j : Int) (s : Store) : dEq (.int i) (.int j) s = some (.bl (decide (i = j)), s) := rfl
@[simp] theorem dNe_int (i j : Int) (s : Store) : dNe (.int i) (.int j) s = some (.bl (!decide (i = j)), s) := rfl
@[simp] theorem dEq_bl (i j : Bool) (s : Store) : dEq (.bl i) (.bl j) s = some (.bl (decide (i = j)), s) := rfl
@[simp] theorem dNe_bl (i j : Bool) (s : Store) : dNe (.bl i) (.bl j) s = some (.bl (!decide (i = j)), s) := rfl
@[simp] theorem dEq_str (i j : Str) (s : Store) : dEq (.str i) (.str j) s = some (.bl (decide (i = j)), s) := rfl
@[simp] theorem dNe_str (i j : Str) (s : Store) : dNe (.str i) (.str j) s = some (.bl (!decide (i = j)), s) := rfl
@[simp] theorem dIs_non_non (s : Store) : dIs .non .non s = some (.bl true, s) := rfl
@[simp] theorem dIs_int_non (i : Int) (s : Store) : dIs (.int i) .non s = some (.bl false, s) := rfl
@[simp] theorem dIs_bl_bl (i j : Bool) (s : Store) : dIs (.bl i) (.bl j) s = some (.bl (decide (i = j)), s) := rfl
@[simp] theorem dIs_str_non (i : Str) (s : Store) : dIs (.str i) .non s = some (.bl false, s) := rfl
@[simp] theorem dIs_tup_non (i : List D) (s : Store) : dIs (.tup i) .non s = some (.bl false, s) := rfl
@[simp] theorem dIsNot_non_non (s : Store) : dIsNot .non .non s = some (.bl false, s) := rfl
@[simp] theorem dIsNot_int_non (i : Int) (s : Store) : dIsNot (.int i) .non s = some (.bl true, s) := rfl
@[simp] theorem dIsNot_bl_bl (i j : Bool) (s : Store) : dIsNot (.bl i) (.bl j) s = some (.bl (!decide (i = j)), s) := rfl
@[simp] theorem dIsNot_str_non (i : Str) (s : Store) : dIsNot (.str i) .non s = some (.bl true, s) := rfl
@[simp] theorem dIsNot_tup_non (i : List D) (s : Store) : dIsNot (.tup i) .non s = some (.bl true, s) := rfl
@[simp] theorem dInt_int (i : Int) (s : Store) : dInt [.int i] s = some (.int i, s) := rfl
@[simp] theorem dInt_bl (i : Bool) (s : Store) : dInt [.bl i] s = some (.int (if i then 1 else 0), s) := rfl
theorem dMax2_int (i j : Int) (s : Store) : dMax2 [.int i, .int j] s = some (.int (if j > i then j else i), s) := rfl
theorem dMin2_int (i j : Int) (s : Store) : dMin2 [.int i, .int j] s = some (.int (if j < i then j else i), s) := rfl
theorem max_if (i j : Int) : (if j > i then j else i) = max i j := by
  rw [Int.max_def]; split <;> split <;> omega
theorem min_if (i j : Int) : (if j < i then j else i) = min i j := by
  rw [Int.min_def]; split <;> split <;> omega
@[simp] theorem dMax2_max (i j : Int) (s : Store) : dMax2 [.int i, .int j] s = some (.int (max i j), s) := by rw [dMax2_int, max_if]
@[simp] theorem dMin2_min (i j : Int) (s : Store) : dMin2 [.int i, .int j] s = some (.int (min i j), s) := by rw [dMin2_int, min_if]
@[simp] theorem lstOf_fl (s : Store) (xs : List D) : lstOf s (.fl xs) = some xs := rfl
theorem lstOf_loc {s : Store} {l : Nat} {xs : List D} (h : s[l]? = some (.lst xs)) : lstOf s (.loc l) = some xs := by simp [lstOf, h]
@[simp] theorem seqOf_tup (s : Store) (xs : List D) : seqOf s (.tup xs) = some xs := rfl
@[simp] theorem seqOf_fl (s : Store) (xs : List D) : seqOf s (.fl xs) = some xs := rfl
theorem seqOf_loc {s : Store} {l : Nat} {xs : List D} (h : s[l]? = some (.lst xs)) : seqOf s (.loc l) = some xs := by simp [seqOf, lstOf, h]
@[simp] theorem dLen_tup (s : Store) (xs : List D) : dLen [.tup xs] s = some (.int xs.length, s) := rfl
@[simp] theorem dLen_fl (s : Store) (xs : List D) : dLen [.fl xs] s = some (.int xs.length, s) := rfl
theorem dLen_loc {s : Store} {l : Nat} {xs : List D} (h : s[l]? = some (.lst xs)) : dLen [.loc l] s = some (.int xs.length, s) := by simp [dLen, seqOf, lstOf, h]
@[simp] theorem dTuple_tup (s : Store) (xs : List D) : dTuple [.tup xs] s = some (.tup xs, s) := rfl
theorem dTuple_loc {s : Store} {l : Nat} {xs : List D} (h : s[l]? = some (.lst xs)) : dTuple [.loc l] s = some (.tup xs, s) := by simp [dTuple, seqOf, lstOf, h]
theorem dSum_loc {s : Store} {l : Nat} {ns : List Int} (h : s[l]? = some (.lst (ns.map D.int))) : dSum [.loc l] s = some (.int ns.sum, s) := by simp [dSum, lstOf, h, intsOf_map]
theorem dIx_tup (s : Store) (xs : List D) (i : Int) : dIx (.tup xs) (.int i) s = (atI xs i).map fun d => (d, s) := rfl
theorem dIx_loc {s : Store} {l : Nat} {xs : List D} (h : s[l]? = some (.lst xs)) (i : Int) : dIx (.loc l) (.int i) s = (atI xs i).map fun d => (d, s) := by simp [dIx, seqOf, lstOf, h]
theorem atI_ofNat (xs : List D) (j : Nat) (d : D) (h : xs[j]? = some d) : atI xs (j : Int) = some d := atI_nat h
@[simp] theorem atI_zero (x : D) (xs : List D) : atI (x :: xs) 0 = some x := atI_nat (j := 0) rfl
@[simp] theorem atI_one (x y : D) (xs : List D) : atI (x :: y :: xs) 1 = some y := atI_nat (j := 1) rfl
@[simp] theorem atI_two (x y z : D) (xs : List D) : atI (x :: y :: z :: xs) 2 = some z := atI_nat (j := 2) rfl
@[simp] theorem atI_three (x y z w : D) (xs : List D) : atI (x :: y :: z :: w :: xs) 3 = some w := atI_nat (j := 3) rfl
theorem dAppend_loc {s : Store} {l : Nat} {xs : List D} (h : s[l]? = some (.lst xs)) (hz : xs.length ≤ 1000000) (y : D) : dAppend (.loc l) [y] s = some (.non, s.set l (.lst (xs ++ [y]))) := by
  have q := lt_line hz
  simp only [dAppend, h, q, if_true]
theorem dPop_loc {s : Store} {l : Nat} {xs : List D} {y : D} (h : s[l]? = some (.lst (xs ++ [y]))) : dPop (.loc l) [] s = some (y, s.set l (.lst xs)) := by simp [dPop, h]
theorem tyOk_list {s : Store} {l : Nat} {xs : List D} (h : s[l]? = some (.lst xs)) : tyOk "list" s (.loc l) = true := by simp [tyOk, h]
theorem pList_loc {s : Store} {l : Nat} {xs : List D} (h : s[l]? = some (.lst xs)) (j : Nat) (hj : j < xs.length) (z : D) : pList (.loc l) (.int j) z s = some (s.set l (.lst (xs.set j z))) := by
  have e : ixN xs.length (j : Int) = some j := by
    unfold ixN
    rw [if_pos (by omega), if_pos (by omega)]
    simp
  simp [pList, h, e]
theorem pList_zero {s : Store} {l : Nat} {x : D} {xs : List D} (h : s[l]? = some (.lst (x :: xs))) (z : D) : pList (.loc l) (.int 0) z s = some (s.set l (.lst (z :: xs))) :=
  pList_loc h 0 (by simp) z
@[simp] theorem fnM_eq (N n : Nat) (b : MS) (ds : List D) (s : Store) : fnM N n b ds s = match b (ds.map some ++ List.replicate (N - n) none) s with
  | .rt d s => .ok d s
  | .nx _ s => .ok .non s
  | .ex e _ s => .ex e s
  | _ => .no := rfl
/-! ### stores: what stays -/
/-- all places of s but p are as they were -/
def Kp (p : Nat) (s s' : Store) : Prop := s.length ≤ s'.length ∧ ∀ l, l < s.length → l ≠ p → s'[l]? = s[l]?
theorem Kp.refl (p : Nat) (s : Store) : Kp p s s := ⟨Nat.le_refl _, fun _ _ _ => rfl⟩
theorem Kp.trans {p : Nat} {s s1 s2 : Store} (a : Kp p s s1) (b : Kp p s1 s2) : Kp p s s2 :=
  ⟨Nat.le_trans a.1 b.1, fun l h n => (b.2 l (Nat.lt_of_lt_of_le h a.1) n).trans (a.2 l h n)⟩
theorem Kp.set (p : Nat) (s : Store) (c : Cell) : Kp p s (s.set p c) := ⟨by simp, fun l _ n => List.getElem?_set_ne (Ne.symm n)⟩
theorem Kp.app (p : Nat) (s r : Store) : Kp p s (s ++ r) := ⟨by simp, fun l h _ => List.getElem?_append_left h⟩
theorem Kp.get {p : Nat} {s s' : Store} (a : Kp p s s') {l : Nat} {c : Cell} (h : s[l]? = some c) (n : l ≠ p) : s'[l]? = some c := by
  rw [a.2 l (by
    rcases Nat.lt_or_ge l s.length with q | q
    · exact q
    · rw [List.getElem?_eq_none q] at h; cases h) n]
  exact h
theorem lt_of_get {s : Store} {l : Nat} {c : Cell} (h : s[l]? = some c) : l < s.length := by
  rcases Nat.lt_or_ge l s.length with q | q
  · exact q
  · rw [List.getElem?_eq_none q] at h; cases h
theorem get_new (s : Store) (c : Cell) : (s ++ [c])[s.length]? = some c := by simp
theorem get_set {s : Store} {l : Nat} {c c' : Cell} (h : s[l]? = some c) : (s.set l c')[l]? = some c' := List.getElem?_set_self (lt_of_get h)
/-! #### isinstance -/
@[simp] theorem kit_NoneType_int : kitB "NoneType" "int" = some false := by decide +kernel
@[simp] theorem kit_NoneType_bool : kitB "NoneType" "bool" = some false := by decide +kernel
@[simp] theorem kit_NoneType_str : kitB "NoneType" "str" = some false := by decide +kernel
@[simp] theorem kit_NoneType_tuple : kitB "NoneType" "tuple" = some false := by decide +kernel
@[simp] theorem kit_NoneType_list : kitB "NoneType" "list" = some false := by decide +kernel
@[simp] theorem kit_NoneType_dict : kitB "NoneType" "dict" = some false := by decide +kernel
@[simp] theorem kit_bool_int : kitB "bool" "int" = some true := by decide +kernel
@[simp] theorem kit_bool_bool : kitB "bool" "bool" = some true := by decide +kernel
@[simp] theorem kit_bool_str : kitB "bool" "str" = some false := by decide +kernel
@[simp] theorem kit_bool_tuple : kitB "bool" "tuple" = some false := by decide +kernel
@[simp] theorem kit_bool_list : kitB "bool" "list" = some false := by decide +kernel
@[simp] theorem kit_bool_dict : kitB "bool" "dict" = some false := by decide +kernel
@[simp] theorem kit_int_int : kitB "int" "int" = some true := by decide +kernel
@[simp] theorem kit_int_bool : kitB "int" "bool" = some false := by decide +kernel
@[simp] theorem kit_int_str : kitB "int" "str" = some false := by decide +kernel
@[simp] theorem kit_int_tuple : kitB "int" "tuple" = some false := by decide +kernel
@[simp] theorem kit_int_list : kitB "int" "list" = some false := by decide +kernel
@[simp] theorem kit_int_dict : kitB "int" "dict" = some false := by decide +kernel
@[simp] theorem kit_str_int : kitB "str" "int" = some false := by decide +kernel
@[simp] theorem kit_str_bool : kitB "str" "bool" = some false := by decide +kernel
@[simp] theorem kit_str_str : kitB "str" "str" = some true := by decide +kernel
@[simp] theorem kit_str_tuple : kitB "str" "tuple" = some false := by decide +kernel
@[simp] theorem kit_str_list : kitB "str" "list" = some false := by decide +kernel
@[simp] theorem kit_str_dict : kitB "str" "dict" = some false := by decide +kernel
@[simp] theorem kit_tuple_int : kitB "tuple" "int" = some false := by decide +kernel
@[simp] theorem kit_tuple_bool : kitB "tuple" "bool" = some false := by decide +kernel
@[simp] theorem kit_tuple_str : kitB "tuple" "str" = some false := by decide +kernel
@[simp] theorem kit_tuple_tuple : kitB "tuple" "tuple" = some true := by decide +kernel
@[simp] theorem kit_tuple_list : kitB "tuple" "list" = some false := by decide +kernel
@[simp] theorem kit_tuple_dict : kitB "tuple" "dict" = some false := by decide +kernel
@[simp] theorem kit_list_int : kitB "list" "int" = some false := by decide +kernel
@[simp] theorem kit_list_bool : kitB "list" "bool" = some false := by decide +kernel
@[simp] theorem kit_list_str : kitB "list" "str" = some false := by decide +kernel
@[simp] theorem kit_list_tuple : kitB "list" "tuple" = some false := by decide +kernel
@[simp] theorem kit_list_list : kitB "list" "list" = some true := by decide +kernel
@[simp] theorem kit_list_dict : kitB "list" "dict" = some false := by decide +kernel
@[simp] theorem kit_dict_int : kitB "dict" "int" = some false := by decide +kernel
@[simp] theorem kit_dict_bool : kitB "dict" "bool" = some false := by decide +kernel
@[simp] theorem kit_dict_str : kitB "dict" "str" = some false := by decide +kernel
@[simp] theorem kit_dict_tuple : kitB "dict" "tuple" = some false := by decide +kernel
@[simp] theorem kit_dict_list : kitB "dict" "list" = some false := by decide +kernel
@[simp] theorem kit_dict_dict : kitB "dict" "dict" = some true := by decide +kernel
@[simp] theorem dIsi_eq (T : String) (x : D) (s : Store) : dIsi T x s = (tyN s x).bind fun t => (kitB t T).map fun b => (.bl b, s) := rfl
@[simp] theorem tyN_non (s : Store) : tyN s .non = some "NoneType" := rfl
@[simp] theorem tyN_bl (s : Store) (b : Bool) : tyN s (.bl b) = some "bool" := rfl
@[simp] theorem tyN_int (s : Store) (b : Int) : tyN s (.int b) = some "int" := rfl
@[simp] theorem tyN_str (s : Store) (b : Str) : tyN s (.str b) = some "str" := rfl
@[simp] theorem tyN_tup (s : Store) (b : List D) : tyN s (.tup b) = some "tuple" := rfl
theorem tyN_lst {s : Store} {l : Nat} {xs : List D} (h : s[l]? = some (.lst xs)) : tyN s (.loc l) = some "list" := by simp [tyN, h]
/-! ### loops by what holds between the turns -/
/-- a call's end -/
def Rets {α : Type} (P : α → Store → Prop) : R α → Prop
  | .ok d s => P d s
  | _ => False
@[simp] theorem Rets_ok {α : Type} (P : α → Store → Prop) (d : α) (s : Store) : Rets P (.ok d s) = P d s := rfl
@[simp] theorem Rets_no {α : Type} (P : α → Store → Prop) : Rets P .no = False := rfl
@[simp] theorem Rets_ex {α : Type} (P : α → Store → Prop) (e : Ex) (s : Store) : Rets P (.ex e s) = False := rfl
theorem Rets.out {α : Type} {P : α → Store → Prop} {r : R α} (h : Rets P r) : ∃ d s, r = .ok d s ∧ P d s := by
  cases r with
  | ok d s => exact ⟨d, s, rfl, h⟩
  | ex e s => exact h.elim
  | no => exact h.elim
/-- what a turn's end asks: I of the next turn, Q of leaving -/
def Turns (I : Sl → Store → Prop) (Q : RS → Prop) : RS → Prop
  | .nx env s => I env s
  | .ct env s => I env s
  | .bk env s => Q (.nx env s)
  | .rt d s => Q (.rt d s)
  | .ex e env s => Q (.ex e env s)
  | .no => False
section
variable (I : Sl → Store → Prop) (Q : RS → Prop) (env : Sl) (s : Store)
@[simp] theorem Turns_nx : Turns I Q (.nx env s) = I env s := rfl
@[simp] theorem Turns_ct : Turns I Q (.ct env s) = I env s := rfl
@[simp] theorem Turns_bk : Turns I Q (.bk env s) = Q (.nx env s) := rfl
@[simp] theorem Turns_rt (d : D) : Turns I Q (.rt d s) = Q (.rt d s) := rfl
@[simp] theorem Turns_ex (e : Ex) : Turns I Q (.ex e env s) = Q (.ex e env s) := rfl
@[simp] theorem Turns_no : Turns I Q .no = False := rfl
end
/-- store the item, run the body -/
def turn (g : D → Sl → Option Sl) (b : MS) (x : D) : MS := fun env s => match g x env with
  | none => .no
  | some env1 => b env1 s
@[simp] theorem turn_gN (i : Nat) (b : MS) (x : D) (env : Sl) (s : Store) : turn (gN i) b x env s = b (env.set i (some x)) s := rfl
@[simp] theorem turn_gT (n : Nat) (r) (b : MS) (xs : List D) (env : Sl) (s : Store) : turn (gT n r) b (.tup xs) env s = match (if xs.length = n then r xs env else none) with
  | none => .no
  | some env1 => b env1 s := rfl
theorem forL_rule {gd : Store → Prop} {g : D → Sl → Option Sl} {b : MS} (I : List D → Sl → Store → Prop) (Q : RS → Prop) (hg : ∀ xs env s, I xs env s → gd s)
    (hs : ∀ x xs env s, I (x :: xs) env s → Turns (I xs) Q (turn g b x env s)) (he : ∀ env s, I [] env s → Q (.nx env s)) : ∀ {xs : List D} {env : Sl} {s : Store}, I xs env s → Q (forL gd g b xs env s) := by
  intro xs
  induction xs with
  | nil => intro env s h; rw [forL_nil env s gd (hg _ _ _ h)]; exact he env s h
  | cons x xs ih =>
    intro env s h
    rw [forL_cons env s gd (hg _ _ _ h)]
    have h1 := hs x xs env s h
    unfold turn at h1
    cases e1 : g x env with
    | none => rw [e1] at h1; exact h1.elim
    | some env1 =>
      rw [e1] at h1
      dsimp only at h1 ⊢
      cases q : b env1 s with
      | nx env2 s2 => rw [q] at h1; exact ih h1
      | ct env2 s2 => rw [q] at h1; exact ih h1
      | bk env2 s2 => rw [q] at h1; exact h1
      | rt d s2 => rw [q] at h1; exact h1
      | ex e env2 s2 => rw [q] at h1; exact h1
      | no => rw [q] at h1; exact h1.elim
/-- a loop that runs through -/
theorem forL_thru {gd : Store → Prop} {g : D → Sl → Option Sl} {b : MS} (I : List D → Sl → Store → Prop) (hg : ∀ xs env s, I xs env s → gd s)
    (hs : ∀ x xs env s, I (x :: xs) env s → Turns (I xs) (fun _ => False) (turn g b x env s)) {xs : List D} {env : Sl} {s : Store} (h : I xs env s) : ∃ env' s', forL gd g b xs env s = .nx env' s' ∧ I [] env' s' :=
  forL_rule I (fun r => ∃ env' s', r = .nx env' s' ∧ I [] env' s') hg (fun x xs env s h => by
    have z := hs x xs env s h
    cases q : turn g b x env s with
    | nx env2 s2 => rw [q] at z; exact z
    | ct env2 s2 => rw [q] at z; exact z
    | bk env2 s2 => rw [q] at z; exact z.elim
    | rt d s2 => rw [q] at z; exact z.elim
    | ex e env2 s2 => rw [q] at z; exact z.elim
    | no => rw [q] at z; exact z.elim) (fun env s h => ⟨env, s, rfl, h⟩) h
/-! a loop over range(n) -/
theorem rng_drop {n i : Nat} (h : i < n) : (rng n).drop i = .int ((0 : Int) + (i : Nat)) :: (rng n).drop (i + 1) := by
  have hl : i < (rng n).length := by simpa [rng] using h
  rw [List.drop_eq_getElem_cons hl]
  simp [rng]
theorem rng_lt {n i : Nat} {x : D} {xs : List D} (e : x :: xs = (rng n).drop i) : i < n ∧ x = .int (i : Nat) ∧ xs = (rng n).drop (i + 1) := by
  have hlt : i < n := by
    rcases Nat.lt_or_ge i n with w | w
    · exact w
    · rw [List.drop_eq_nil_of_le (by simpa [rng] using w)] at e; cases e
  rw [rng_drop hlt] at e
  obtain ⟨rfl, rfl⟩ := List.cons.inj e
  exact ⟨hlt, by rw [Int.zero_add], rfl⟩
theorem rng_end {n i : Nat} (hi : i ≤ n) (e : [] = (rng n).drop i) : i = n := by
  rcases Nat.lt_or_ge i n with w | w
  · rw [rng_drop w] at e; cases e
  · omega
theorem forL_range {gd : Store → Prop} {g : D → Sl → Option Sl} {b : MS} (n : Nat) (I : Nat → Sl → Store → Prop) (Q : RS → Prop) (hg : ∀ i env s, i ≤ n → I i env s → gd s)
    (hs : ∀ i env s, i < n → I i env s → Turns (I (i + 1)) Q (turn g b (.int (i : Nat)) env s)) (he : ∀ env s, I n env s → Q (.nx env s)) {env : Sl} {s : Store} (h : I 0 env s) : Q (forL gd g b (rng n) env s) := by
  refine forL_rule (fun xs env s => ∃ i, i ≤ n ∧ xs = (rng n).drop i ∧ I i env s) Q (fun xs env s ⟨i, hi, _, q⟩ => hg i env s hi q) (fun x xs env s ⟨i, hi, e, q⟩ => ?_) (fun env s ⟨i, hi, e, q⟩ => ?_) ⟨0, Nat.zero_le _, rfl, h⟩
  · obtain ⟨hlt, rfl, rfl⟩ := rng_lt e
    have t1 := hs i env s hlt q
    cases hb : turn g b (.int (i : Nat)) env s with
    | nx env2 s2 => rw [hb] at t1; exact ⟨i + 1, hlt, rfl, t1⟩
    | ct env2 s2 => rw [hb] at t1; exact ⟨i + 1, hlt, rfl, t1⟩
    | bk env2 s2 => rw [hb] at t1; exact t1
    | rt d s2 => rw [hb] at t1; exact t1
    | ex x env2 s2 => rw [hb] at t1; exact t1
    | no => rw [hb] at t1; exact t1
  · have hlt := rng_end hi e
    subst hlt
    exact he env s q
theorem forL_rangeT {gd : Store → Prop} {g : D → Sl → Option Sl} {b : MS} (n : Nat) (I : Nat → Sl → Store → Prop) (hg : ∀ i env s, i ≤ n → I i env s → gd s)
    (hs : ∀ i env s, i < n → I i env s → Turns (I (i + 1)) (fun _ => False) (turn g b (.int (i : Nat)) env s)) {env : Sl} {s : Store} (h : I 0 env s) : ∃ env' s', forL gd g b (rng n) env s = .nx env' s' ∧ I n env' s' :=
  forL_range n I (fun r => ∃ env' s', r = .nx env' s' ∧ I n env' s') hg (fun i env s hi h => by
    have z := hs i env s hi h
    cases q : turn g b (.int (i : Nat)) env s with
    | nx env2 s2 => rw [q] at z; exact z
    | ct env2 s2 => rw [q] at z; exact z
    | bk env2 s2 => rw [q] at z; exact z.elim
    | rt d s2 => rw [q] at z; exact z.elim
    | ex e env2 s2 => rw [q] at z; exact z.elim
    | no => rw [q] at z; exact z.elim) (fun env s h => ⟨env, s, rfl, h⟩) h
/-! comprehensions -/
/-- one item: kept with its value, or not -/
def pick (g : D → Sl → Option Sl) (t : ME Bool) (e : ME D) (x : D) (env : Sl) (s : Store) : R (Option D) := match g x env with
  | none => .no
  | some env1 => (t env1 s).bind fun b s => if b then (e env1 s).bind fun y s => .ok (some y) s else .ok none s
@[simp] theorem pick_gN (i : Nat) (t : ME Bool) (e : ME D) (x : D) (env : Sl) (s : Store) : pick (gN i) t e x env s = (t (env.set i (some x)) s).bind fun b s => if b then (e (env.set i (some x)) s).bind fun y s => .ok (some y) s else .ok none s := rfl
@[simp] theorem pick_gT (n : Nat) (r) (t : ME Bool) (e : ME D) (xs : List D) (env : Sl) (s : Store) : pick (gT n r) t e (.tup xs) env s = match (if xs.length = n then r xs env else none) with
  | none => .no
  | some env1 => (t env1 s).bind fun b s => if b then (e env1 s).bind fun y s => .ok (some y) s else .ok none s := rfl
/-- what an item's end asks of the list so far -/
def Kept (I : List D → Store → Prop) (acc : List D) : R (Option D) → Prop
  | .ok (some y) s => acc.length ≤ 1000000 ∧ I (acc ++ [y]) s
  | .ok none s => I acc s
  | _ => False
@[simp] theorem Kept_some (I : List D → Store → Prop) (acc : List D) (y : D) (s : Store) : Kept I acc (.ok (some y) s) = (acc.length ≤ 1000000 ∧ I (acc ++ [y]) s) := rfl
@[simp] theorem Kept_none (I : List D → Store → Prop) (acc : List D) (s : Store) : Kept I acc (.ok none s) = I acc s := rfl
@[simp] theorem Kept_no (I : List D → Store → Prop) (acc : List D) : Kept I acc .no = False := rfl
theorem lcL_thru {gd : Store → Prop} {g : D → Sl → Option Sl} {t : ME Bool} {e : ME D} {env : Sl} (I : List D → List D → Store → Prop) (hg : ∀ xs acc s, I xs acc s → gd s)
    (hs : ∀ x xs acc s, I (x :: xs) acc s → Kept (I xs) acc (pick g t e x env s)) :
    ∀ {xs acc : List D} {s : Store}, I xs acc s → ∃ acc' s', lcL gd g t e env xs acc s = .ok acc' s' ∧ I [] acc' s' := by
  intro xs
  induction xs with
  | nil => intro acc s h; exact ⟨acc, s, lcL_nil env s gd (hg _ _ _ h) g t e acc, h⟩
  | cons x xs ih =>
    intro acc s h
    rw [lcL_cons env s gd (hg _ _ _ h)]
    have h1 := hs x xs acc s h
    unfold pick at h1
    cases e1 : g x env with
    | none => rw [e1] at h1; exact h1.elim
    | some env1 =>
      rw [e1] at h1
      dsimp only at h1 ⊢
      cases e2 : t env1 s with
      | no => rw [e2] at h1; exact h1.elim
      | ex x s => rw [e2] at h1; exact h1.elim
      | ok k s1 =>
        rw [e2] at h1
        simp only [R.bind_ok] at h1
        cases k with
        | false => simpa using ih (by simpa using h1)
        | true =>
          simp only [if_true] at h1 ⊢
          cases e3 : e env1 s1 with
          | no => rw [e3] at h1; exact h1.elim
          | ex x s => rw [e3] at h1; exact h1.elim
          | ok y s2 =>
            rw [e3] at h1
            obtain ⟨hz, h3⟩ := (show acc.length ≤ 1000000 ∧ I xs (acc ++ [y]) s2 from h1)
            have z := lt_line hz
            simp only [z, if_true]
            exact ih h3
/-- a comprehension that leaves the store as it is -/
theorem lcL_fm {β : Type} {gd : Store → Prop} {g : D → Sl → Option Sl} {t : ME Bool} {e : ME D} {env : Sl} {s : Store} (hg : gd s) (h : β → D) (f : β → Option D) :
    ∀ (xs : List β) (acc : List D), (∀ x ∈ xs, pick g t e (h x) env s = .ok (f x) s) → acc.length + xs.length ≤ 1000000 → lcL gd g t e env (xs.map h) acc s = .ok (acc ++ xs.filterMap f) s := by
  intro xs
  induction xs with
  | nil => intro acc _ _; rw [List.map_nil, lcL_nil env s gd hg]; simp
  | cons x xs ih =>
    intro acc hp hz
    rw [List.length_cons] at hz
    rw [List.map_cons, lcL_cons env s gd hg]
    have h1 := hp x (by simp)
    unfold pick at h1
    cases e1 : g (h x) env with
    | none => rw [e1] at h1; cases h1
    | some env1 =>
      rw [e1] at h1
      dsimp only at h1 ⊢
      cases e2 : t env1 s with
      | no => rw [e2] at h1; cases h1
      | ex x s => rw [e2] at h1; cases h1
      | ok k s1 =>
        rw [e2] at h1
        simp only [R.bind_ok] at h1
        cases k with
        | false =>
          simp at h1
          obtain ⟨h2, rfl⟩ := h1
          simp only [Bool.false_eq_true, if_false]
          rw [ih acc (fun y hy => hp y (by simp [hy])) (by omega), List.filterMap_cons, ← h2]
        | true =>
          simp only [if_true] at h1 ⊢
          cases e3 : e env1 s1 with
          | no => rw [e3] at h1; cases h1
          | ex x s => rw [e3] at h1; cases h1
          | ok y s2 =>
            rw [e3] at h1
            simp at h1
            obtain ⟨h2, rfl⟩ := h1
            have z : acc.length < sizeLine := lt_line (by omega)
            simp only [z, if_true]
            rw [ih (acc ++ [y]) (fun y hy => hp y (by simp [hy])) (by simp; omega), List.filterMap_cons, ← h2]
            simp
theorem lcL_map {β : Type} {gd : Store → Prop} {g : D → Sl → Option Sl} {t : ME Bool} {e : ME D} {env : Sl} {s : Store} (hg : gd s) (h : β → D) (f : β → D) (xs : List β)
    (hp : ∀ x ∈ xs, pick g t e (h x) env s = .ok (some (f x)) s) (hz : xs.length ≤ 1000000) : lcL gd g t e env (xs.map h) [] s = .ok (xs.map f) s := by
  have w := lcL_fm hg h (fun x => some (f x)) xs [] hp (by simpa using hz)
  rw [w]
  simp
theorem lcL_range {gd : Store → Prop} {g : D → Sl → Option Sl} {t : ME Bool} {e : ME D} {env : Sl} (n : Nat) (I : Nat → List D → Store → Prop) (hg : ∀ i acc s, i ≤ n → I i acc s → gd s)
    (hs : ∀ i acc s, i < n → I i acc s → Kept (I (i + 1)) acc (pick g t e (.int (i : Nat)) env s)) {acc : List D} {s : Store}
    (h : I 0 acc s) : ∃ acc' s', lcL gd g t e env (rng n) acc s = .ok acc' s' ∧ I n acc' s' := by
  obtain ⟨acc', s', h1, i, hi, e, h2⟩ := lcL_thru (gd := gd) (g := g) (t := t) (e := e) (env := env) (fun xs acc s => ∃ i, i ≤ n ∧ xs = (rng n).drop i ∧ I i acc s) (fun xs acc s ⟨i, hi, _, q⟩ => hg i acc s hi q) (fun x xs acc s ⟨i, hi, e, q⟩ => by
    obtain ⟨hlt, rfl, rfl⟩ := rng_lt e
    have z := hs i acc s hlt q
    cases hp : pick g t _ (.int (i : Nat)) env s with
    | no => rw [hp] at z; exact z
    | ex x s => rw [hp] at z; exact z
    | ok o s2 =>
      rw [hp] at z
      cases o with
      | none => exact ⟨i + 1, hlt, rfl, z⟩
      | some y => exact ⟨z.1, i + 1, hlt, rfl, z.2⟩) (xs := rng n) ⟨0, Nat.zero_le _, rfl, h⟩
  have hlt := rng_end hi e
  subst hlt
  exact ⟨acc', s', h1, h2⟩
/-- all ints -/
def Ints (xs : List D) : Prop := ∃ ns : List Int, xs = ns.map D.int
theorem cut_ints {xs : List D} (h : Ints xs) (lo hi : Option Int) : Ints (Mi.cutD xs lo hi) := by
  obtain ⟨ns, rfl⟩ := h
  unfold Mi.cutD
  exact ⟨_, by rw [← List.map_drop, ← List.map_take]⟩
theorem cut_len (xs : List D) (lo hi : Option Int) : (Mi.cutD xs lo hi).length ≤ xs.length := by
  unfold Mi.cutD
  simp
  omega
end Mi
namespace Mi
open PySem PySem.W PySem.Spec PySem.Calls PyProof.Rows L2
section
variable {prog : Program} {w : World} {A : Around} {E : Value → Shared → Prop} {s : Shared}
/-- the items of a tuple, collected -/
theorem tup_coll {t : Addr} {us : List Value} {R : List Value → Shared → Prop} (ht : IsTup s.heap t us.toArray) (hz : us.length ≤ sizeLine)
    (q : R us { s with heap := (s.heap.push (seqObj "list" #[] 0)).update s.heap.objs.size (Obj.mapSeq (· ++ us.toArray)) }) : wpAny (model prog w) A (collect (.ref t)) R E s := by
  obtain ⟨o, ho, hc, n, hd⟩ := ht
  have ho1 : (s.heap.push (seqObj "list" #[] 0)).get? t = some o := Heap.get?_push_of_some _ ho
  have hn1 : (s.heap.push (seqObj "list" #[] 0)).get? s.heap.objs.size = some (seqObj "list" #[] 0) := Heap.get?_push_size _ rfl
  have hT : (Value.type "tuple" == Value.type "tuple") = true := by rfl
  unfold collect
  refine wpAny_bind (wpAny_runValue (codeAny_builtin entry_proto_collect' ?_))
  show wpAny _ _ (do again (.builtin "list.__iadd__" ⟨[← newList [], .ref t], []⟩)) _ _ s
  refine wpAny_bind (wpAny_newList (wpAny_pure ⟨Code.quiet_builtin _ (by decide +kernel), ?_⟩))
  refine codeAny_builtin entry_list_iadd' ?_
  show wpAny _ _ (Builtin.List.listExtendWith (.ref s.heap.objs.size) (.ref t) (.ref s.heap.objs.size)) _ _ { s with heap := s.heap.push (seqObj "list" #[] 0) }
  unfold Builtin.List.listExtendWith
  refine wpAny_bind (wpAny_typeOf (T := "tuple") ⟨o, ho1, hc⟩ ?_)
  rw [if_pos (by rw [hT]; simp)]
  refine wpAny_bind (listItems_at ho1 hd (wpAny_bind (listItems_at (xs := #[]) (n := 0) hn1 rfl ?_)))
  rw [if_neg (by simp)]
  refine wpAny_bind (listUpdate_at (xs := #[]) (n := 0) hn1 rfl ?_ (Nat.zero_le _) (by rw [Array.size_append]; simp; have := sizeLine_eq; omega))
  refine wpAny_pure ?_
  refine wpAny_bind (wpAny_load (get?_update_seq hn1 _) ?_)
  have e : (((#[] : Array Value) ++ us.toArray).toList) = us := by simp
  show wpAny _ _ (pure ((#[] : Array Value) ++ us.toArray).toList) R E _
  rw [e]
  exact wpAny_pure q
/-- sorted(a tuple), by what sorts the new list -/
theorem tup_sorted {κ : _} {t : Addr} {us : List Value} {R : Value → Shared → Prop} (ht : IsTup s.heap t us.toArray) (hz : us.length ≤ sizeLine)
    (S : SortsAt prog w A.in1.in1 { s with heap := sortingHeap (copyHeap s.heap us) (s.heap.objs.size + 1) us } κ us)
    (q : R (.ref (s.heap.objs.size + 1)) { s with heap := sortedAll s.heap us (sortVals κ false us us).toArray }) : wpAny (model prog w) A (call (.builtin "sorted") [.ref t]) R E s := by
  have hs : ((s.heap.push (seqObj "list" #[] 0)).update s.heap.objs.size (Obj.mapSeq (· ++ us.toArray))).objs.size = s.heap.objs.size + 1 := by rw [Heap.size_update, size_push']
  refine call_function_entry_kw kind_sorted plain_sorted entry_sorted (args_sorted1 _) ?_
  unfold Builtin.«sorted»
  refine wpAny_bind (m := checkCount "sorted" 1 1 _) (wpAny_pure (wpAny_bind (tup_coll ht hz (wpAny_bind (wpAny_newList ?_ hz)))))
  show wpAny _ _ _ _ _ { s with heap := copyHeap s.heap us }
  rw [hs]
  refine wpAny_bind (wpAny_holding (wpAny_call_entry_kw slot_list_sort ⟨_, copyHeap_at s.heap us, rfl⟩ entry_list_sort ?body (args_list_sort _)))
  case body =>
    have b := list_sort_vals (s := { s with heap := copyHeap s.heap us }) (A := A.in1.in1) (E := E) (P := fun f s' => f = .done (.ret .none) ∧ R (.ref (s.heap.objs.size + 1)) s') (copyHeap_at s.heap us) S hz ⟨rfl, q⟩
    refine wpAny_mono b (fun f s' hf => ?_) fun _ _ e => e
    obtain ⟨rfl, hq⟩ := hf
    exact ⟨_, rfl, wpAny_pure ⟨_, rfl, hq⟩⟩
end
/-! ### sorted as a call -/
noncomputable def pyD (d : D) : PyData := (py0 d).getD .none
def rSortB (K : PySem.W.Frag) : List V → Hp → VK → Prop := fun vs H Q => ∃ (a : Addr) (bs : List (D × V)), vs = [.ref a] ∧ (SqL K H a (bs.map Prod.snd) ∨ SqT K H a (bs.map Prod.snd)) ∧ (∀ b ∈ bs, Dp K H b.2 (pyD b.1)) ∧
  AllAlike (bs.map fun b => pyD b.1) ∧ Sortable (bs.map fun b => pyD b.1) ∧ (∀ b ∈ bs, (pyD b.1).depth ≤ 60) ∧ ∀ p, H p = none → Q (.ref p) (upd H p (.lst ((bs.mergeSort (dataLe false fun b => pyD b.1)).map Prod.snd)))
theorem each_vals : ∀ {bs : List (D × V)} {us : List Value}, Vals (bs.map Prod.snd) us → EachIs (fun u b => RelV b.2 u) us bs
  | [], _, .nil => .nil
  | _ :: bs, _, .cons r t => .cons r (each_vals (bs := bs) t)
theorem vals_each : ∀ {bs : List (D × V)} {us : List Value}, EachIs (fun u b => RelV b.2 u) us bs → Vals (bs.map Prod.snd) us
  | [], _, .nil => .nil
  | _ :: bs, _, .cons r t => .cons r (vals_each (bs := bs) t)
theorem each_dp {X : Cx} {pins : List (Addr × Obj)} {σ : L2.St} {H : Hp} {s : Shared} (I : Inv X pins σ H s) : ∀ {bs : List (D × V)} {us : List Value}, (∀ b ∈ bs, Dp X.K H b.2 (pyD b.1)) → EachIs (fun u b => RelV b.2 u) us bs → EachIs (fun u b => ∃ as, Reads s.heap u (pyD b.1) as) us bs
  | [], _, _, .nil => .nil
  | b :: bs, _, h, .cons r t => .cons (Dp.reads I _ _ _ (h b (by simp)) r) (each_dp I (fun z hz => h z (by simp [hz])) t)
theorem cr_sortedB {X : Cx} (hu : X.A.units + 64 < cLine) : CallR X (.builtin "sorted") (rSortB X.K) := by
  intro pins s σ H vs us Q I r h
  obtain ⟨a, bs, rfl, hs, hd, hal, hk, hdep, q⟩ := h
  rw [Vals.ref1 r]
  have fin : ∀ (its out : List Value), its.length = bs.length → bs.length ≤ sizeLine → EachIs (fun u b => RelV b.2 u) out (bs.mergeSort (dataLe false fun b => pyD b.1)) → out.length = bs.length →
      ∃ v H', Inv X pins σ H' { s with heap := sortedAll s.heap its out.toArray } ∧ RelV v (Value.ref (s.heap.objs.size + 1)) ∧ Q v H' := fun its out h1 h2 h3 h4 => by
    obtain ⟨n, hn⟩ := sortedAll_at s.heap its out.toArray
    exact ⟨.ref _, upd H (s.heap.objs.size + 1) (.lst ((bs.mergeSort (dataLe false fun b => pyD b.1)).map Prod.snd)), I.laid (t' := s.toks) (fun _ _ => sortedAll_old) (Nat.le_succ _) ⟨by rw [List.length_map, List.length_mergeSort]; exact h2, out, n, vals_each h3, hn⟩, rfl, q _ (I.hok.fresh (Nat.le_succ _))⟩
  rcases hs with hs | hs
  · obtain ⟨its, rv, hl, hz⟩ := I.list hs
    have hL : bs.length ≤ sizeLine := by simpa using hz
    have e1 := each_vals rv
    refine sorted_data hl.isList e1 (each_dp I hd e1) hal hk hL (fun b hb => by have := hdep b hb; omega) fun out h1 h2 => ?_
    exact fin its out e1.length hL h2 h1
  · obtain ⟨its, rv, hl, hz⟩ := I.tuple hs
    have hL : bs.length ≤ sizeLine := by simpa using hz
    have e1 := each_vals rv
    have er := (each_dp I hd e1).mono fun _ _ ⟨as, z⟩ => (⟨as, PyProof.Rows.Reads.keeps (fun _ _ => sorting_copy_old) z⟩ : ∃ as, Reads (sortingHeap (copyHeap s.heap its) (s.heap.objs.size + 1) its) _ _ as)
    refine tup_sorted hl (by rw [e1.length]; exact hL) (SortsAt.data (A := X.A.in1.in1) (s := { s with heap := sortingHeap (copyHeap s.heap its) (s.heap.objs.size + 1) its }) (each_map (R := fun v d => ∃ as, Reads (sortingHeap (copyHeap s.heap its) (s.heap.objs.size + 1) its) v d as) (fun b : D × V => pyD b.1) er) hal hk (bound_map (enc := fun b : D × V => pyD b.1) (bs := bs) fun b hb => by have := hdep b hb; show X.A.units + 1 + 1 + (pyD b.1).depth < cLine; omega)) ?_
    exact fin its _ e1.length hL (sortVals_data false e1 er hal) (by rw [sortVals_length false rfl]; exact e1.length)
/-! ### its mirror -/
def sortOk (xs : List D) : Prop := (∀ d ∈ xs, (py0 d).isSome = true ∧ (pyD d).depth ≤ 60) ∧ AllAlike (xs.map pyD) ∧ Sortable (xs.map pyD)
noncomputable def sortD (xs : List D) : List D := xs.mergeSort (dataLe false pyD)
open Classical in
noncomputable def dSorted : List D → Store → Option (D × Store)
  | [x], s => (seqOf s x).bind fun xs => if sortOk xs then some (.loc s.length, s ++ [.lst (sortD xs)]) else none
  | _, _ => none
theorem zip_map1 {K : PySem.W.Frag} {m : List Addr} {H : Hp} : ∀ {xs : List D} {vs : List V}, Reps K m H xs vs → (xs.zip vs).map Prod.fst = xs ∧ (xs.zip vs).map Prod.snd = vs ∧ ∀ b ∈ xs.zip vs, Rep K m H b.1 b.2
  | [], _, .nil => ⟨rfl, rfl, fun _ h => by cases h⟩
  | x :: xs, _, .cons h r => by
    obtain ⟨a, b, c⟩ := zip_map1 r
    exact ⟨by simp [a], by simp [b], fun z hz => by
      rcases List.mem_cons.mp hz with e | e
      · rw [e]; exact h
      · exact c z e⟩
theorem reps_map {K : PySem.W.Frag} {m : List Addr} {H : Hp} : ∀ {bs : List (D × V)}, (∀ b ∈ bs, Rep K m H b.1 b.2) → Reps K m H (bs.map Prod.fst) (bs.map Prod.snd)
  | [], _ => .nil
  | b :: bs, h => .cons (h b (by simp)) (reps_map fun z hz => h z (by simp [hz]))
theorem fns_sorted {K : PySem.W.Frag} : FnS K (rSortB K) dSorted := by
  intro mg W σ m H s xs ds Q r p g
  unfold dSorted at g
  split at g
  · obtain ⟨v, rfl, h⟩ := reps1 p
    rename_i x
    cases q : seqOf s x with
    | none => rw [q] at g; exact g.elim
    | some ys =>
      rw [q] at g
      simp only [Option.bind_some] at g
      split at g
      · rename_i ok
        have g' : G K mg (Rep K) W σ m H Q (.ok (.loc s.length) (s ++ [.lst (sortD ys)])) := g
        obtain ⟨a, vs, rfl, hq, rr⟩ := seqOf_sq r h q
        obtain ⟨z1, z2, z3⟩ := zip_map1 rr
        have e1 : ((ys.zip vs).map fun b => pyD b.1) = ys.map pyD := by
          conv => rhs; rw [← z1, List.map_map]
          rfl
        have z4 : ∀ b ∈ ys.zip vs, b.1 ∈ ys := fun b hb => by
          have := List.mem_map.mpr ⟨b, hb, (rfl : b.1 = b.1)⟩
          rw [z1] at this
          exact this
        refine ⟨a, ys.zip vs, rfl, by rw [z2]; exact hq, fun b hb => ?_, by rw [e1]; exact ok.2.1, by rw [e1]; exact ok.2.2, fun b hb => (ok.1 _ (z4 b hb)).2, fun l hl => ?_⟩
        · obtain ⟨w1, _⟩ := ok.1 _ (z4 b hb)
          obtain ⟨pd, hp⟩ := Option.isSome_iff_exists.mp w1
          have := py0_dp (z3 b hb) hp
          unfold pyD
          rw [hp]
          exact this
        · have e2 : sortD ys = ((ys.zip vs).mergeSort (dataLe false fun b => pyD b.1)).map Prod.fst := by
            rw [List.map_mergeSort (r := dataLe false fun b : D × V => pyD b.1) (s := dataLe false pyD) (fun _ _ _ _ => rfl), z1]
            rfl
          rw [e2] at g'
          refine g' (m ++ [l]) _ _ (le_more r hl) (rel_newlist r hl (reps_map fun b hb => z3 b ?_)) (.loc (len_get r))
          exact (List.mergeSort_perm _ _).mem_iff.mp hb
      · exact g.elim
  · exact g.elim
end Mi
namespace HT
open PySem PySem.Spec PyProof.Rows
section
variable {prog : Program} {w : World} {A : Around} {E : Value → Shared → Prop} {s : Shared}
theorem rev_pick (xs : Array Value) : ((List.range xs.size).filterMap fun (m : Nat) => xs[((xs.size : Int) - 1 + (m : Int) * (-1)).toNat]?).toArray = xs.toList.reverse.toArray := by
  have q := PySem.W.krv_pick xs
  unfold slicePick at q
  rw [PySem.W.krv_bounds] at q
  have q' : ((sliceRange ((xs.size : Int) - 1) (-1) (-1)).filterMap (xs[·]?)).toArray = xs.toList.reverse.toArray := q
  rw [PySem.W.krv_sliceRange, List.filterMap_map] at q'
  rw [← q']
  refine congrArg List.toArray (congrArg (fun f => List.filterMap f (List.range xs.size)) (funext fun m => ?_))
  show xs[_]? = xs[_]?
  refine congrArg (fun i : Nat => xs[i]?) ?_
  show ((xs.size : Int) - 1 + (m : Int) * (-1)).toNat = xs.size - 1 - m
  omega
theorem sliced_back {sl : Addr} {vl vu vs : Value} {n : Nat} {R : Int × Int × Nat → Shared → Prop} (hs : s.heap.IsSliceOf sl vl vu vs) (pl : IsPart vl none) (pu : IsPart vu none) (ps : IsPart vs (some (-1)))
    (q : R ((n : Int) - 1, -1, n) s) : wpAny (model prog w) A (Builtin.Slice.sliceApplied (.ref sl) (pure (n : Int))) R E s := by
  obtain ⟨os, hos, hcs, hds⟩ := id hs
  have e : Builtin.Slice.slicePlaces ((n : Int) - 1) (-1) (-1) = n := by
    unfold Builtin.Slice.slicePlaces
    rw [if_neg (by omega)]
    by_cases c : (n : Int) - 1 > -1
    · rw [if_pos c]
      simp
    · rw [if_neg c]
      omega
  unfold Builtin.Slice.sliceApplied Builtin.Slice.sliceFields
  refine wpAny_bind (wpAny_bind (wpAny_field hos hds (x := vl) rfl (wpAny_bind (wpAny_field hos hds (x := vu) rfl (wpAny_bind (wpAny_field hos hds (x := vs) rfl (wpAny_pure ?_)))))))
  refine wpAny_bind (slicePart_ ps ?_)
  show wpAny _ _ (if ((-1 : Int) == 0) = true then _ else _) _ _ s
  rw [if_neg (by decide)]
  refine wpAny_bind (slicePart_ pl (wpAny_bind (slicePart_ pu (wpAny_bind (wpAny_pure ?_)))))
  show wpAny _ _ (pure ((n : Int) - 1, (-1 : Int), Builtin.Slice.slicePlaces ((n : Int) - 1) (-1) (-1))) _ _ s
  rw [e]
  exact wpAny_pure q
theorem tup_back {t sl : Addr} {items : Array Value} {vl vu vs : Value} {R : Value → Shared → Prop} (ht : IsTup s.heap t items) (hs : s.heap.IsSliceOf sl vl vu vs) (pl : IsPart vl none) (pu : IsPart vu none) (ps : IsPart vs (some (-1)))
    (hz : items.size ≤ sizeLine) (h : R (.ref s.heap.objs.size) { s with heap := s.heap.push { cls := .type "tuple", data := .seq items.toList.reverse.toArray } }) : wpAny (model prog w) A (getItem (.ref t) (.ref sl)) R E s := by
  have room : sizeOk (.seq items.toList.reverse.toArray) := by
    show items.toList.reverse.toArray.size ≤ sizeLine
    rw [List.size_toArray, List.length_reverse]
    exact hz
  obtain ⟨os, hos, hcs, hds⟩ := id hs
  have hT : s.TypeIs (.ref sl) "slice" := ⟨os, hos, hcs⟩
  unfold getItem
  try with_reducible refine wpAny_holding ?_
  first | refine wpAny_bind (wpAny_pure ?_) | skip
  refine wpAny_bind (wpAny_sequenceKey ht.typeIs (by decide) ?_)
  refine wpAny_bind (wpAny_callSpecial?_slot (name := Str.ofString "__getitem__") ht.typeIs PyProof.Rows.slot_tuple_getitem (wpAny_call_entry PyProof.Rows.slot_tuple_getitem ht.typeIs entry_tuple_getitem ?_ (args_tuple_getitem _ _)))
  show wpAny _ _ (Builtin.Tuple.tupleItemsOf (.ref t) >>= _) _ _ s
  refine wpAny_bind (tupleItemsOf_ ht (wpAny_bind (wpAny_typeOf hT ?_)))
  rw [if_pos (by decide)]
  refine wpAny_bind (sliced_back hs pl pu ps ?_)
  show wpAny _ _ (if ((((items.size : Int) - 1) == 0 && (-1 : Int) == 1 && items.size == items.size) = true) then _ else _) _ _ s
  rw [if_neg (by simp), rev_pick]
  first
    | exact wpAny_bind (m := Builtin.Tuple.tupleExact _) (wpAny_newObj_type (wpAny_pure ⟨_, rfl, wpAny_pure h⟩) room)
    | exact wpAny_bind (m := Builtin.Tuple.tupleExact _) (wpAny_newObj_type (wpAny_bind (wpAny_pure (wpAny_pure ⟨_, rfl, wpAny_pure h⟩))) room)
    | exact wpAny_bind (wpAny_bind (m := Builtin.Tuple.tupleExact _) (wpAny_newObj_type (wpAny_pure (wpAny_pure ⟨_, rfl, wpAny_pure h⟩)) room))
    | exact wpAny_bind (wpAny_bind (m := Builtin.Tuple.tupleExact _) (wpAny_newObj_type (wpAny_pure ⟨_, rfl, wpAny_pure h⟩) room))
end
end HT
namespace Mi
open PySem PySem.Spec PyProof.Rows L2
/-- a[::-1], a list or a tuple -/
def tBack (K : PySem.W.Frag) (te : TE) : TE := fun σ H Q => te σ H fun x H1 => ∃ a xs, x = .ref a ∧ ((SqL K H1 a xs ∧ ∀ p, H1 p = none → Q (.ref p) (upd H1 p (.lst xs.reverse))) ∨ (SqT K H1 a xs ∧ ∀ p, H1 p = none → Q (.ref p) (upd H1 p (.tup xs.reverse))))
theorem pe_back {X : Cx} {e : Expr} {te : TE} {k : Nat} {p1 p2 p3 pos : Pos} (he : PE X e te) : PE X (.Subscript e (.Slice none none (some (.UnaryOp .USub (.Constant (.int 1) k p1) p2)) p3) pos) (tBack X.K te) := by
  refine ⟨fun pins s σ H Q I h => Subscript_ (thn (he.run pins s σ H _ I h) fun v s1 ⟨x, H1, I1, r1, a, xs, ex, q⟩ => ?_)⟩
  subst ex
  cases r1
  have step : PO X (some (.UnaryOp .USub (.Constant (.int 1) k p1) p2)) (tPart (tUn (rU fun i => .int (-i)) (tC (.int 1)))) := po_some (pe_un un_neg pe_int)
  refine wpAny_Slice (thn (po_none.run pins s1 σ H1 (fun o H2 => o = none ∧ H2 = H1) I1 ⟨rfl, rfl⟩) fun vl s2 ⟨l, H2, I2, pl, el, e2⟩ => ?_)
  cases el
  cases e2
  refine thn (po_none.run pins s2 σ H1 (fun o H3 => o = none ∧ H3 = H1) I2 ⟨rfl, rfl⟩) fun vu s3 ⟨u, H3, I3, pu, eu, e3⟩ => ?_
  cases eu
  cases e3
  refine thn (step.run pins s3 σ H1 (fun o H4 => o = some (-1) ∧ H4 = H1) I3 ⟨1, rfl, -1, rfl, rfl, rfl⟩) fun vs s4 ⟨o, H4, I4, ps, eo, e4⟩ => ?_
  cases eo
  cases e4
  have I5 : Inv X pins σ H1 { s4 with heap := s4.heap.push { cls := .type "slice", data := .fields #[vl, vu, vs] } } := I4.kept (t' := s4.toks) fun b ob q => Heap.get?_push_of_some _ q
  show wpAny (model X.prog X.w) X.A (subscriptTail e (.Slice none none (some (.UnaryOp .USub (.Constant (.int 1) k p1) p2)) p3) (.ref a) (.ref s4.heap.objs.size)) (EP X pins σ Q) X.xe { s4 with heap := s4.heap.push { cls := .type "slice", data := .fields #[vl, vu, vs] } }
  rcases q with ⟨hx, q⟩ | ⟨hx, q⟩
  · obtain ⟨its, r, ht, hz⟩ := I5.list hx
    have hlen := r.length
    refine tail_any (ops := [.ref a, .ref s4.heap.objs.size]) ht.isList.typeIs (PySem.slot_list_getitem.lookup) ?_ (by with_unfolding_all rfl)
    refine wpAny_getItem_list_slice ht.isList (Heap.IsSliceOf.new _ vl vu vs) pl pu ps (by decide) ?_ (by rw [List.size_toArray]; omega)
    rw [PySem.W.krv_pick]
    refine ⟨.ref _, _, I5.laid (t' := s4.toks) (o := .lst xs.reverse) (fun b ob q => Heap.get?_push_of_some _ q) (Nat.le_refl _) ?_, rfl, q _ (I5.hok.fresh (Nat.le_refl _))⟩
    exact ⟨by rw [List.length_reverse]; exact hz, _, 0, r.reverse, Heap.get?_push_size _ rfl⟩
  · obtain ⟨its, r, ht, hz⟩ := I5.tuple hx
    have hlen := r.length
    refine tail_any (ops := [.ref a, .ref s4.heap.objs.size]) ht.typeIs (PyProof.Rows.slot_tuple_getitem.lookup) ?_ (by with_unfolding_all rfl)
    refine HT.tup_back ht (Heap.IsSliceOf.new _ vl vu vs) pl pu ps (by rw [List.size_toArray]; omega) ?_
    refine ⟨.ref _, _, I5.laid (t' := s4.toks) (o := .tup xs.reverse) (fun b ob q => Heap.get?_push_of_some _ q) (Nat.le_refl _) ?_, rfl, q _ (I5.hok.fresh (Nat.le_refl _))⟩
    exact ⟨by rw [List.length_reverse]; exact hz, _, r.reverse, IsTup.new _ _⟩
def dRev (x : D) (s : Store) : Option (D × Store) := match x with
  | .tup xs => some (.tup xs.reverse, s)
  | x => (lstOf s x).map fun xs => (.loc s.length, s ++ [.lst xs.reverse])
theorem Reps.rev {K : PySem.W.Frag} {m : List Addr} {H : Hp} {xs : List D} {vs : List V} (h : Reps K m H xs vs) : Reps K m H xs.reverse vs.reverse := by
  obtain ⟨a, b, c⟩ := zip_map1 h
  have q := reps_map (bs := (xs.zip vs).reverse) fun z hz => c z (List.mem_reverse.mp hz)
  rw [List.map_reverse, List.map_reverse, a, b] at q
  exact q
section
variable {X : Cx} {W : WX} {pos p1 p2 p3 : Pos} {k : Nat} {a : Expr} {fa : ME D}
theorem ce_back (ha : PE X a (Te X.K X.mg W fa)) : PE X (.Subscript a (.Slice none none (some (.UnaryOp .USub (.Constant (.int 1) k p1) p2)) p3) pos) (Te X.K X.mg W (e1 dRev fa)) :=
  PE.imp (pe_back ha) fun σ H Q h => Tm.bind (k := fun env x s => R.of (dRev x s)) h fun m1 H1 env x v s1 r1 E1 p g1 => by
    have gen : (∀ ys, x ≠ .tup ys) → ∃ a xs, v = .ref a ∧ ((SqL X.K H1 a xs ∧ ∀ p, H1 p = none → Q (.ref p) (upd H1 p (.lst xs.reverse))) ∨ (SqT X.K H1 a xs ∧ ∀ p, H1 p = none → Q (.ref p) (upd H1 p (.tup xs.reverse)))) := by
      intro hn
      have e : dRev x s1 = (lstOf s1 x).map fun xs => (.loc s1.length, s1 ++ [.lst xs.reverse]) := by
        cases x <;> first | rfl | exact (hn _ rfl).elim
      rw [e] at g1
      cases q : lstOf s1 x with
      | none => rw [q] at g1; exact g1.elim
      | some xs =>
        rw [q] at g1
        have g2 : G X.K X.mg (Rep X.K) W σ m1 H1 Q (.ok (.loc s1.length) (s1 ++ [.lst xs.reverse])) := g1
        obtain ⟨a, vs, rfl, hq, rr⟩ := lstOf_sq r1 p q
        exact ⟨a, vs, rfl, .inl ⟨hq, fun l hl => g2 (m1 ++ [l]) _ _ (le_more r1 hl) (rel_newlist r1 hl rr.rev) (.loc (len_get r1))⟩⟩
    cases x with
    | tup xs =>
      obtain ⟨a, vs, rfl, hq, rr⟩ := p.sqT
      have g2 : G X.K X.mg (Rep X.K) W σ m1 H1 Q (.ok (.tup xs.reverse) s1) := g1
      exact ⟨a, vs, rfl, .inr ⟨hq, fun l hl => g2 m1 _ _ (le_new hl) (r1.tmp hl) (rep_newtup hl rr.rev)⟩⟩
    | _ => exact gen (fun _ h => nomatch h)
end
end Mi
namespace Mi
open PySem PySem.Spec PyProof.Rows L2
section
variable {K : PySem.W.Frag}
theorem reps3 {m : List Addr} {H : Hp} {d e f : D} {xs : List V} (p : Reps K m H [d, e, f] xs) : ∃ u v w, xs = [u, v, w] ∧ Rep K m H d u ∧ Rep K m H e v ∧ Rep K m H f w := by
  cases p with
  | cons h r =>
    obtain ⟨v, w, rfl, h2, h3⟩ := reps2 r
    exact ⟨_, v, w, rfl, h, h2, h3⟩
/-! #### min, max of three -/
def dMax3 : List D → Store → Option (D × Store)
  | [.int i, .int j, .int k], s => some (.int (max (max i j) k), s)
  | _, _ => none
def dMin3 : List D → Store → Option (D × Store)
  | [.int i, .int j, .int k], s => some (.int (min (min i j) k), s)
  | _, _ => none
theorem nu_lt (i j : Int) : nuLt (.int i) (.int j) = some (decide (i < j)) := rfl
theorem nu_max (i j : Int) : nuMax2 (.int i) (.int j) = some (.int (max i j)) := by
  show (nuLt (.int i) (.int j)).map _ = _
  rw [nu_lt, Option.map_some]
  by_cases c : i < j
  · simp [c, Int.max_def, Int.le_of_lt c]
  · simp [c, Int.max_def]
    omega
theorem nu_min (i j : Int) : nuMin2 (.int i) (.int j) = some (.int (min i j)) := by
  show (nuLt (.int j) (.int i)).map _ = _
  rw [nu_lt, Option.map_some]
  by_cases c : j < i
  · simp [c, Int.min_def]
    omega
  · simp [c, Int.min_def]
theorem fns_max3 : FnS K (rNuC3 nuMax3) dMax3 := by
  intro mg W σ m H s xs ds Q r p g
  unfold dMax3 at g
  split at g
  · obtain ⟨u, v, w, rfl, h, h2, h3⟩ := reps3 p
    cases h; cases h2; cases h3
    exact ⟨_, _, _, _, rfl, by rw [nuMax3, nu_max, Option.bind_some, nu_max], g.now r (.int _)⟩
  · exact g.elim
theorem fns_min3 : FnS K (rNuC3 nuMin3) dMin3 := by
  intro mg W σ m H s xs ds Q r p g
  unfold dMin3 at g
  split at g
  · obtain ⟨u, v, w, rfl, h, h2, h3⟩ := reps3 p
    cases h; cases h2; cases h3
    exact ⟨_, _, _, _, rfl, by rw [nuMin3, nu_min, Option.bind_some, nu_min], g.now r (.int _)⟩
  · exact g.elim
/-! #### min, max of a list of ints -/
def dMaxL : List D → Store → Option (D × Store)
  | [x], s => (lstOf s x).bind fun xs => (intsOf xs).bind fun ns => ns.max?.map fun z => (.int z, s)
  | _, _ => none
def dMinL : List D → Store → Option (D × Store)
  | [x], s => (lstOf s x).bind fun xs => (intsOf xs).bind fun ns => ns.min?.map fun z => (.int z, s)
  | _, _ => none
theorem fns_maxL : FnS K (rMax K) dMaxL := by
  intro mg W σ m H s xs ds Q r p g
  unfold dMaxL at g
  split at g
  · obtain ⟨v, rfl, h⟩ := reps1 p
    rename_i x
    cases q : lstOf s x with
    | none => rw [q] at g; exact g.elim
    | some ys =>
      rw [q, Option.bind_some] at g
      cases q2 : intsOf ys with
      | none => rw [q2] at g; exact g.elim
      | some ns =>
        rw [q2, Option.bind_some] at g
        cases q3 : ns.max? with
        | none => rw [q3] at g; exact g.elim
        | some z =>
          rw [q3] at g
          obtain ⟨a, vs, rfl, hq, rr⟩ := lstOf_sq r h q
          rw [of_intsOf q2] at rr
          have e := rr.ints
          subst e
          obtain ⟨z1, z2⟩ := List.max?_eq_some_iff.mp q3
          refine ⟨a, ns, rfl, hq, List.length_pos_iff_exists_mem.mpr ⟨z, z1⟩, fun y h1 h2 => ?_⟩
          have e : y = z := Int.le_antisymm (z2 y h1) (h2 z z1)
          rw [e]
          exact G.now (d := D.int z) g r (.int _)
  · exact g.elim
theorem fns_minL : FnS K (rMin K) dMinL := by
  intro mg W σ m H s xs ds Q r p g
  unfold dMinL at g
  split at g
  · obtain ⟨v, rfl, h⟩ := reps1 p
    rename_i x
    cases q : lstOf s x with
    | none => rw [q] at g; exact g.elim
    | some ys =>
      rw [q, Option.bind_some] at g
      cases q2 : intsOf ys with
      | none => rw [q2] at g; exact g.elim
      | some ns =>
        rw [q2, Option.bind_some] at g
        cases q3 : ns.min? with
        | none => rw [q3] at g; exact g.elim
        | some z =>
          rw [q3] at g
          obtain ⟨a, vs, rfl, hq, rr⟩ := lstOf_sq r h q
          rw [of_intsOf q2] at rr
          have e := rr.ints
          subst e
          obtain ⟨z1, z2⟩ := List.min?_eq_some_iff.mp q3
          refine ⟨a, ns, rfl, hq, List.length_pos_iff_exists_mem.mpr ⟨z, z1⟩, fun y h1 h2 => ?_⟩
          have e : y = z := Int.le_antisymm (h2 z z1) (z2 y h1)
          rw [e]
          exact G.now (d := D.int z) g r (.int _)
  · exact g.elim
end
end Mi
namespace Mi
open PySem PySem.Spec PyProof.Rows L2
/-! ### a while by an invariant and a measure -/
theorem whileN_more {c : ME Bool} {b : MS} : ∀ {n : Nat} {env : Sl} {s : Store}, whileN c b n env s ≠ .no → whileN c b (n + 1) env s = whileN c b n env s := by
  intro n
  induction n with
  | zero => intro env s h; exact (h rfl).elim
  | succ n ih =>
    intro env s h
    unfold whileN at h ⊢
    cases e : c env s with
    | no => rfl
    | ex x s1 => rfl
    | ok k s1 =>
      rw [e] at h
      cases k with
      | false => rfl
      | true =>
        simp only [R.then, if_true] at h ⊢
        cases e2 : b env s1 with
        | nx env2 s2 => rw [e2] at h; exact ih h
        | ct env2 s2 => rw [e2] at h; exact ih h
        | bk env2 s2 => rfl
        | rt d s2 => rfl
        | ex x env2 s2 => rfl
        | no => rfl
theorem whileN_add {c : ME Bool} {b : MS} {n : Nat} {env : Sl} {s : Store} (h : whileN c b n env s ≠ .no) : ∀ k, whileN c b (n + k) env s = whileN c b n env s
  | 0 => rfl
  | k + 1 => by
    have q := whileN_add h k
    rw [← q] at h
    rw [← Nat.add_assoc, whileN_more h, q]
theorem whileN_one {c : ME Bool} {b : MS} {n m : Nat} {env : Sl} {s : Store} (h : whileN c b n env s ≠ .no) (h2 : whileN c b m env s ≠ .no) : whileN c b n env s = whileN c b m env s := by
  rw [← whileN_add h m, ← whileN_add h2 n, Nat.add_comm]
theorem sWhile_of {c : ME Bool} {b : MS} {n : Nat} {env : Sl} {s : Store} (h : whileN c b n env s ≠ .no) : sWhile c b env s = whileN c b n env s := by
  have z : ∃ n, whileN c b n env s ≠ .no := ⟨n, h⟩
  unfold sWhile
  rw [dif_pos z]
  exact whileN_one (Classical.choose_spec z) h
/-- one turn's promise -/
theorem while_rule {c : ME Bool} {b : MS} (I : Nat → Sl → Store → Prop) (Q : RS → Prop) (no : ¬ Q .no)
    (hs : ∀ n env s, I n env s → (∃ s', c env s = .ok false s' ∧ Q (.nx env s')) ∨ (∃ s', c env s = .ok true s' ∧ Turns (fun env s => ∃ m, m < n ∧ I m env s) Q (b env s'))) {n : Nat} {env : Sl} {s : Store} (h : I n env s) : Q (sWhile c b env s) := by
  have key : ∀ n env s, I n env s → ∃ k, Q (whileN c b k env s) := by
    intro n
    induction n using Nat.strongRecOn with
    | ind n ih =>
      intro env s h
      rcases hs n env s h with ⟨s', e, q⟩ | ⟨s', e, q⟩
      · refine ⟨1, ?_⟩
        unfold whileN
        rw [e]
        exact q
      · cases e2 : b env s' with
        | nx env2 s2 =>
          rw [e2] at q
          obtain ⟨m, hm, hi⟩ := q
          obtain ⟨k, hk⟩ := ih m hm env2 s2 hi
          refine ⟨k + 1, ?_⟩
          unfold whileN
          simp only [e, R.then, if_true, e2]
          exact hk
        | ct env2 s2 =>
          rw [e2] at q
          obtain ⟨m, hm, hi⟩ := q
          obtain ⟨k, hk⟩ := ih m hm env2 s2 hi
          refine ⟨k + 1, ?_⟩
          unfold whileN
          simp only [e, R.then, if_true, e2]
          exact hk
        | bk env2 s2 =>
          rw [e2] at q
          refine ⟨1, ?_⟩
          unfold whileN
          simp only [e, R.then, if_true, e2]
          exact q
        | rt d s2 =>
          rw [e2] at q
          refine ⟨1, ?_⟩
          unfold whileN
          simp only [e, R.then, if_true, e2]
          exact q
        | ex x env2 s2 =>
          rw [e2] at q
          refine ⟨1, ?_⟩
          unfold whileN
          simp only [e, R.then, if_true, e2]
          exact q
        | no => rw [e2] at q; exact q.elim
  obtain ⟨k, hk⟩ := key n env s h
  have nn : whileN c b k env s ≠ .no := fun e => no (e ▸ hk)
  rw [sWhile_of nn]
  exact hk
/-! ### name op= e -/
@[simp] theorem sAug_eq (i : Nat) (g : D → D → Store → Option (D × Store)) (e : ME D) (env : Sl) (s : Store) : sAug i g e env s = match env[i]? with
  | some (some x) => (e env s).then env fun y s => match g x y s with
    | some (z, s') => .nx (env.set i (some z)) s'
    | none => .no
  | _ => .no := rfl
@[simp] theorem dAddI_int (i j : Int) (s : Store) : dAddI (.int i) (.int j) s = some (.int (i + j), s) := rfl
/-! ### a value's truth -/
open Classical in
noncomputable def dTru (s : Store) : D → Option Bool
  | .non => some false
  | .bl b => some b
  | .int i => some (i != 0)
  | .str y => if y.length ≤ sizeLine then some ((y.length : Int) != 0) else none
  | .tup xs => some (!xs.isEmpty)
  | .fl xs => some (!xs.isEmpty)
  | .loc l => match s[l]? with
    | some (.lst xs) => some (!xs.isEmpty)
    | some (.dic ks) => some (!ks.isEmpty)
    | _ => none
  | .exv _ _ _ _ => none
theorem reps_empty {K : PySem.W.Frag} {m : List Addr} {H : Hp} {xs : List D} {vs : List V} (h : Reps K m H xs vs) : xs.isEmpty = vs.isEmpty := by
  cases h <;> rfl
theorem repk_empty {K : PySem.W.Frag} {m : List Addr} {H : Hp} {xs : List (Key × D)} {vs : List (Key × V)} (h : RepK K m H xs vs) : xs.isEmpty = vs.isEmpty := by
  cases h <;> rfl
theorem dTru_ok {K : PySem.W.Frag} {m : List Addr} {H : Hp} {s : Store} (r : Rel K m H s) {d : D} {v : V} {k : Bool} (p : Rep K m H d v) (e : dTru s d = some k) : TruV K v H k := by
  cases p with
  | non => cases e; rfl
  | bl b => cases e; rfl
  | int i => cases e; rfl
  | str y =>
    by_cases hz : y.length ≤ sizeLine
    · simp only [dTru, if_pos hz] at e
      cases e
      exact ⟨hz, rfl⟩
    · simp only [dTru, if_neg hz] at e
      cases e
  | tup h q => have e' := Option.some.inj e; subst e'; exact .inr (.inl ⟨_, .inl (.inl h), by rw [reps_empty q]⟩)
  | fl h q => cases e; exact .inl ⟨_, h.sq, by rw [reps_empty q]⟩
  | @loc l a h =>
    unfold dTru at e
    cases q : s[l]? with
    | none => simp [q] at e
    | some c =>
      cases c with
      | lst xs =>
        simp only [q] at e
        cases e
        obtain ⟨vs, q1, p1⟩ := r.list h q
        exact .inl ⟨vs, .inl (.inl q1), by rw [reps_empty p1]⟩
      | dic ks =>
        simp only [q] at e
        cases e
        obtain ⟨ws, q1, p1⟩ := r.at_ l a _ h q
        exact .inr (.inr ⟨ws, q1, by rw [repk_empty p1]⟩)
      | dct _ => simp [q] at e
  | exv => cases e
noncomputable def tTru (a : ME D) : ME Bool := fun env s => (a env s).bind fun x s => match dTru s x with
  | some b => .ok b s
  | none => .no
section
variable {X : Cx} {W : WX} {a : Expr} {fa : ME D}
theorem ct_tru (ha : PE X a (Te X.K X.mg W fa)) (he : ∀ whole, isTrue a X.env whole = (do let v ← whole; standAt a.pos; holding [v] (truthy v)) := by intro _; rfl) : PT X a (Tt X.K X.mg W (tTru fa)) :=
  PT.imp (pt_truth ha he) fun σ H Q h => Tm.bind (k := fun _ x s => match dTru s x with | some b => R.ok b s | none => R.no) h fun m1 H1 env x v s1 r1 E1 p1 g1 => by
    cases q : dTru s1 x with
    | none => rw [q] at g1; exact g1.elim
    | some k => rw [q] at g1; exact ⟨k, dTru_ok r1 p1 q, g1.nowB r1⟩
end
@[simp] theorem tTru_eq (a : ME D) (env : Sl) (s : Store) : tTru a env s = (a env s).bind fun x s => match dTru s x with | some b => .ok b s | none => .no := rfl
@[simp] theorem dTru_bl (s : Store) (b : Bool) : dTru s (.bl b) = some b := rfl
@[simp] theorem dTru_non (s : Store) : dTru s .non = some false := rfl
@[simp] theorem dTru_tup (s : Store) (xs : List D) : dTru s (.tup xs) = some (!xs.isEmpty) := rfl
theorem dTru_loc {s : Store} {l : Nat} {xs : List D} (h : s[l]? = some (.lst xs)) : dTru s (.loc l) = some (!xs.isEmpty) := by simp [dTru, h]
/-! ### the last place -/
@[simp] theorem atI_neg1 (xs : List D) (y : D) : atI (xs ++ [y]) (-1) = some y := L2.atI_last xs y
theorem pList_last {s : Store} {l : Nat} {xs : List D} {y : D} (h : s[l]? = some (.lst (xs ++ [y]))) (z : D) : pList (.loc l) (.int (-1)) z s = some (s.set l (.lst (xs ++ [z]))) := by
  have e : ixN (xs ++ [y]).length (-1) = some xs.length := by
    unfold ixN
    simp
    omega
  have e' : ixN (xs.length + 1) (-1) = some xs.length := by simpa using e
  simp [pList, h]
  exact ⟨xs.length, e', by simp⟩
end Mi
namespace Mi
open PySem PySem.Spec PyProof.Rows L2
/-! ### raise C(e, ..), C with an __init__ that stores its parameters -/
def sRaise (c : Str) (ns : List Str) (a : ME (List D)) : MS := fun env s => (a env s).then env fun xs s => if xs.length = ns.length then .ex ⟨c, (ns.zip xs).reverse⟩ env s else .no
/-- what __init__(self, p) of one field leaves -/
def spI1 (C : Addr) (f : Str) : Sp := fun vs H Q _ => ∃ a y, vs = [.ref a, y] ∧ H a = some (exo a C none) ∧ ∀ dx, H dx = none → dx ≠ a → Q .non (upd (upd H dx (exd dx [(f, y)])) a (exo a C (some dx)))
def spI2 (C : Addr) (f g : Str) : Sp := fun vs H Q _ => ∃ a y z, vs = [.ref a, y, z] ∧ H a = some (exo a C none) ∧ ∀ dx, H dx = none → dx ≠ a → Q .non (upd (upd (upd H dx (exd dx [(f, y)])) a (exo a C (some dx))) dx (exd dx [(g, z), (f, y)]))
section
variable {P : Program} {w : World} {K : PySem.W.Frag} {mg : Str → Option Value} {base : Heap} {x qual : Str} {st : Stmt} {fi C : Addr} {fd : FuncData} {N ps : List Str} {f g : Str}
theorem okI1 (F : Fun K x qual st fi fd) (S : FnScope N ps (defScope st)) (hN : N.length = 2) (hn : ps.length = 2) (T : OexC K C) (no : PySem.W.findIn K (.ref C) f = some none)
    (hb : ∀ (cdv : Value) (A : Around) (outer : List Env) (s : Shared) (H : Hp) (E : XK), PSs (cxOf (L2.CX P w) P w K mg base N qual (defScope st) fi cdv A outer s H E) (defBody st) (tOst K f (tVar 0) (tVar 1))) : FnOk P w K mg base (L2.CX P w) 1 fi fd ps (spI1 C f) := by
  refine F.okX S (fun vs H Q E ⟨a, y, e, _⟩ => by rw [hn, e]; rfl) fun cdv A outer s H vs Q E hr ⟨a, y, e, ha, q⟩ => ⟨_, hb cdv A outer s H E, ?_⟩
  subst e
  match N, hN with
  | [n1, n2], _ => exact ⟨y, rfl, .ref a, rfl, a, C, rfl, T, no, .inl ⟨ha, fun dx h1 h2 => q dx h1 h2⟩⟩
theorem okI2 (F : Fun K x qual st fi fd) (S : FnScope N ps (defScope st)) (hN : N.length = 3) (hn : ps.length = 3) (T : OexC K C) (no : PySem.W.findIn K (.ref C) f = some none) (no2 : PySem.W.findIn K (.ref C) g = some none)
    (hb : ∀ (cdv : Value) (A : Around) (outer : List Env) (s : Shared) (H : Hp) (E : XK), PSs (cxOf (L2.CX P w) P w K mg base N qual (defScope st) fi cdv A outer s H E) (defBody st) (tSeq (tOst K f (tVar 0) (tVar 1)) (tOst K g (tVar 0) (tVar 2)))) : FnOk P w K mg base (L2.CX P w) 1 fi fd ps (spI2 C f g) := by
  refine F.okX S (fun vs H Q E ⟨a, y, z, e, _⟩ => by rw [hn, e]; rfl) fun cdv A outer s H vs Q E hr ⟨a, y, z, e, ha, q⟩ => ⟨_, hb cdv A outer s H E, ?_⟩
  subst e
  match N, hN with
  | [n1, n2, n3], _ =>
    refine ⟨y, rfl, .ref a, rfl, a, C, rfl, T, no, .inl ⟨ha, fun dx h1 h2 => ?_⟩⟩
    refine ⟨z, rfl, .ref a, rfl, a, C, rfl, T, no2, .inr ⟨dx, [(f, y)], upd_same, by rw [upd_ne h2]; exact upd_same, by simp, q dx h1 h2⟩⟩
theorem del_upd {H : Hp} {a d : Addr} {o1 o2 : HO} (ha : H a = none) (h : d ≠ a) (G : Hp) (hG : ∀ b, b ≠ a → b ≠ d → G b = H b) : upd (del G a) d o1 = upd H d o1 := by
  funext b
  by_cases e : b = d
  · rw [e, upd_same, upd_same]
  · rw [upd_ne e, upd_ne e]
    by_cases e2 : b = a
    · rw [e2, del_same, ha]
    · rw [del_ne e2, hG b e2 e]
end
section
variable {X : Cx} {W : WX} {c q : Str} {C fI : Addr} {fd : FuncData} {k : Nat} {f g x1 x2 x0 : Str} {p pos pos2 : Pos} {e e2 : Expr} {fs : ME (List D)}
theorem cs_raise1 (hc : X.calm = true) (tk : Takes X W) (gC : X.mg c = some (.ref C)) (T : OexC X.K C) (iC : PySem.W.findIn X.K (.ref C) "__init__" = some (some (.ref fI))) (tI : PySem.W.typeIn X.K (.ref fI) = some (.type "function"))
    (F : FnOk X.prog X.w X.K X.mg X.base (L2.CX X.prog X.w) 1 fI fd [x0, x1] (spI1 C f)) (hr : Room 2 X.A) (hb : Binds X.K fd [x0, x1] []) (hg : Gl X c) (ha : PA X [e] (Ta X.K X.mg W fs)) (hdb : (c == ("__debug__" : Str)) = false := by decide)
    (he : starEach [e] X.env = (false, eval e X.env) :: starEach [] X.env := by rfl) (hpl : (backTo pos (starEach [] X.env)).any (·.1) = false := by rfl) :
    PS X (.Raise (some (.Call (.Name c p) [e] [] pos)) none pos2) (Ts X.K X.mg W (sRaise c [f] fs)) :=
  PS.imp (ps_raise hc tk (pmk_oex (dvs := []) T iC tI F hr hb .nil (fun pins σ H s e s' I h => (cx_none h).elim) hg gC ha hdb he hpl)) fun Dn σ H h =>
    Ts.ofE (k := fun env (xs : List D) s => if xs.length = [f].length then RS.ex ⟨c, ([f].zip xs).reverse⟩ env s else .no) h fun m1 H1 env xs vs s1 r1 E1 p1 g1 => by
      split at g1
      · rename_i hl
        match xs, vs, p1, hl with
        | [x], [v], .cons pv .nil, _ =>
          refine ⟨by simp, fun a ha => ⟨a, v, rfl, upd_same, fun dx h1 h2 => ⟨rfl, dx, [(f, v)], upd_same, by rw [upd_ne h2]; exact upd_same, by rw [upd_ne h2] at h1; exact h1, ?_⟩⟩⟩
          have h1' : H1 dx = none := by rw [upd_ne h2] at h1; exact h1
          rw [del_upd (o2 := exo a C none) ha h2 _ fun b h3 h4 => by rw [upd_ne h3, upd_ne h4, upd_ne h3]]
          exact g1 m1 _ _ _ _ (le_new h1') (r1.tmp h1') (E1.mono (le_new h1')) ⟨gC, .inr ⟨dx, _, rfl, upd_same, r1.new_notin h1', .cons (pv.mono (le_new h1')) .nil⟩⟩
      · exact g1.elim
theorem cs_raise2 (hc : X.calm = true) (tk : Takes X W) (gC : X.mg c = some (.ref C)) (T : OexC X.K C) (iC : PySem.W.findIn X.K (.ref C) "__init__" = some (some (.ref fI))) (tI : PySem.W.typeIn X.K (.ref fI) = some (.type "function"))
    (F : FnOk X.prog X.w X.K X.mg X.base (L2.CX X.prog X.w) 1 fI fd [x0, x1, x2] (spI2 C f g)) (hr : Room 2 X.A) (hb : Binds X.K fd [x0, x1, x2] []) (hg : Gl X c) (ha : PA X [e, e2] (Ta X.K X.mg W fs)) (hdb : (c == ("__debug__" : Str)) = false := by decide)
    (he : starEach [e, e2] X.env = (false, eval e X.env) :: starEach [e2] X.env := by rfl) (hpl : (backTo pos (starEach [e2] X.env)).any (·.1) = false := by rfl) :
    PS X (.Raise (some (.Call (.Name c p) [e, e2] [] pos)) none pos2) (Ts X.K X.mg W (sRaise c [f, g] fs)) :=
  PS.imp (ps_raise hc tk (pmk_oex (dvs := []) T iC tI F hr hb .nil (fun pins σ H s e s' I h => (cx_none h).elim) hg gC ha hdb he hpl)) fun Dn σ H h =>
    Ts.ofE (k := fun env (xs : List D) s => if xs.length = [f, g].length then RS.ex ⟨c, ([f, g].zip xs).reverse⟩ env s else .no) h fun m1 H1 env xs vs s1 r1 E1 p1 g1 => by
      split at g1
      · rename_i hl
        match xs, vs, p1, hl with
        | [x, y], [v, z], .cons pv (.cons pz .nil), _ =>
          refine ⟨by simp, fun a ha => ⟨a, v, z, rfl, upd_same, fun dx h1 h2 => ⟨rfl, dx, [(g, z), (f, v)], by rw [upd_ne (Ne.symm h2)]; exact upd_same, upd_same, by rw [upd_ne h2] at h1; exact h1, ?_⟩⟩⟩
          have h1' : H1 dx = none := by rw [upd_ne h2] at h1; exact h1
          rw [del_upd (o2 := exo a C none) ha h2 _ fun b h3 h4 => by rw [upd_ne h4, upd_ne h3, upd_ne h4, upd_ne h3]]
          exact g1 m1 _ _ _ _ (le_new h1') (r1.tmp h1') (E1.mono (le_new h1')) ⟨gC, .inr ⟨dx, _, rfl, upd_same, r1.new_notin h1', .cons (pz.mono (le_new h1')) (.cons (pv.mono (le_new h1')) .nil)⟩⟩
      · exact g1.elim
end
/-! ### n.f of the exception that a suite holds -/
def eFld (g : Nat × Nat) (i : Nat) (f : Str) : ME D := fun env s => match env[i]? with
  | some (some (.exv a dd _ fs)) => if a = g.1 ∧ dd = g.2 then (match fs.lookup f with
    | some d => .ok d s
    | none => .no) else .no
  | _ => .no
theorem fld_lookup {K : PySem.W.Frag} {m : List Addr} {H : Hp} {f : Str} : ∀ {fs : List (Str × D)} {vfs : List (Str × V)} {d : D}, FldR K m H fs vfs → fs.lookup f = some d → ∃ v, vfs.lookup f = some v ∧ Rep K m H d v
  | _, _, _, .nil, e => by cases e
  | (h, x) :: fs, (_, v) :: vfs, d, .cons p r, e => by
    by_cases c : f = h
    · subst c
      simp [List.lookup] at e ⊢
      subst e
      exact p
    · have c' : (f == h) = false := by simpa using c
      simp only [List.lookup, c'] at e ⊢
      exact fld_lookup r e
section
variable {X : Cx} {W : WX} {a : Addr} {oe : Obj} {cls : Value} {d : Option Addr} {pn : List (Addr × Obj)} {pos p : Pos} {n f : Str} {i : Nat} {g : Nat × Nat}
theorem ce_fld (hX : ∃ C, cls = .ref C ∧ XfC X.K C ∧ PySem.W.findIn X.K (.ref C) f = some none) (hz : Zc cls d oe) (hf : ∃ vs, oe.data = .fields vs) (g1 : g.1 = a) (g2 : d = some g.2)
    (he : PE (X.suite a ((a, oe) :: pn)) (.Name n p) (tVar i)) (hb : attributeBase (.Name n p) f X.env (eval (.Name n p) X.env) = eval (.Name n p) X.env := by rfl) :
    PE (X.suite a ((a, oe) :: pn)) (.Attribute (.Name n p) f pos) (Te X.K X.mg W (eFld g i f)) := by
  obtain ⟨C, ec, T, hno⟩ := hX
  refine PE.imp (pe_xf T hno hz hf he hb) fun σ H Q ⟨m, env, s, r, E, q⟩ => ?_
  unfold eFld at q
  cases e1 : env[i]? with
  | none => rw [e1] at q; exact q.elim
  | some o =>
    cases o with
    | none => rw [e1] at q; exact q.elim
    | some x =>
      rw [e1] at q
      cases x with
      | exv a' dd c fs =>
        simp only at q
        split at q
        · rename_i hh
          obtain ⟨h1, h2⟩ := hh
          cases e2 : fs.lookup f with
          | none => rw [e2] at q; exact q.elim
          | some dv =>
            rw [e2] at q
            obtain ⟨v, hv, pr⟩ := E.2 i _ e1
            cases pr with
            | exv h n' rf =>
              obtain ⟨u, hu, pu⟩ := fld_lookup rf e2
              refine ⟨_, hv, by rw [h1, g1], ec, g.2, _, u, g2, by rw [← h2]; exact h, hu, ?_⟩
              exact G.now q r pu
        · exact q.elim
      | _ => exact q.elim
end
/-! ### try: body except x as n: suite -/
def clr (i : Nat) : RS → RS
  | .nx env s => .nx (env.set i none) s
  | .bk env s => .bk (env.set i none) s
  | .ct env s => .ct (env.set i none) s
  | .rt d s => .rt d s
  | .ex _ _ _ => .no
  | .no => .no
open Classical in
noncomputable def sTryAs (i : Nat) (cs : List Str) (body : MS) (suite : Nat × Nat → MS) : MS := fun env s => match body env s with
  | .ex e env2 s2 => if e.cls ∈ cs ∧ e.fs ≠ [] ∧ ∀ g : Nat × Nat, clr i (suite g (env2.set i (some (.exv g.1 g.2 e.cls e.fs))) s2) = clr i (suite (0, 0) (env2.set i (some (.exv 0 0 e.cls e.fs))) s2)
    then clr i (suite (0, 0) (env2.set i (some (.exv 0 0 e.cls e.fs))) s2) else .no
  | r => r
theorem relE_clr {K : PySem.W.Frag} {m : List Addr} {H : Hp} {env : Sl} {σ : L2.St} (E : RelE K m H env σ) (i : Nat) : RelE K m H (env.set i none) (σ.set i none) := by
  refine ⟨by simp [E.1], fun j d h => ?_⟩
  by_cases c : i = j
  · subst c
    rw [List.getElem?_set] at h
    by_cases q : i < env.length
    · rw [if_pos rfl, if_pos q] at h; cases h
    · rw [if_pos rfl, if_neg q] at h; cases h
  · rw [List.getElem?_set_ne c] at h ⊢
    exact E.2 j d h
theorem gs_clr {K : PySem.W.Frag} {mg : Str → Option Value} {W W2 : WX} {Dn : Ends} {m : List Addr} {H : Hp} {i : Nat} {r : RS} (h : GS K mg W Dn m H (clr i r)) :
    GS K mg W2 { nx := fun σ' H' => Dn.nx (σ'.set i none) H', rt := Dn.rt, bk := fun σ' H' => Dn.bk (σ'.set i none) H', ct := fun σ' H' => Dn.ct (σ'.set i none) H' } m H r := by
  cases r with
  | nx env s => exact fun m' σ' H' l r E => h m' _ H' l r (relE_clr E i)
  | bk env s => exact fun m' σ' H' l r E => h m' _ H' l r (relE_clr E i)
  | ct env s => exact fun m' σ' H' l r E => h m' _ H' l r (relE_clr E i)
  | rt d s => exact h
  | ex e env s => exact h.elim
  | no => exact h.elim
section
variable {X : Cx} {W : WX} {x n : Str} {c : Value} {i : Nat} {body suite : List Stmt} {b₀ : Stmt} {np pos pos' : Pos} {fb : MS} {fs : Nat × Nat → MS} {cs : List Str}
theorem cs_tryAs (hs : X.stack = X.env :: X.outer) (hf : X.env.frame = some X.env.locals) (hN : X.N.Nodup) (hi : X.N[i]? = some n) (hln : X.env.kindOf n = some .local) (hc : Names X x c) (tk : Takes X W)
    (hcs : ∀ k ∈ cs, ∀ cls, X.mg k = some cls → PySem.W.exmOne X.K cls c = some true)
    (hb : ∀ (W : WX) (pn : List (Addr × Obj)) (xe : Value → Shared → Prop), Takes (X.tr pn xe) W → PSs (X.tr pn xe) body (Ts X.K X.mg W fb))
    (hsu : ∀ (a : Addr) (oe : Obj) (cls : Value) (d : Option Addr) (pn : List (Addr × Obj)) (g : Nat × Nat) (k : Str), Zc cls d oe → (∃ vs, oe.data = .fields vs) → g.1 = a → d = some g.2 → k ∈ cs → X.mg k = some cls →
      PSs (X.suite a ((a, oe) :: pn)) (b₀ :: suite) (Ts X.K X.mg (fun _ _ _ _ => False) (fs g))) :
    PS X (.Try body [.ExceptHandler (some (.Name x np)) (some n) (b₀ :: suite) pos'] [] [] pos) (Ts X.K X.mg W (sTryAs i cs fb fs)) :=
  PS.imp (ps_try_as (i := i) (tb := fun W => Ts X.K X.mg W fb) (ts := fun a cls d => fun Dn σ H => ∃ (g : Nat × Nat) (k : Str), g.1 = a ∧ d = some g.2 ∧ k ∈ cs ∧ X.mg k = some cls ∧ Ts X.K X.mg (fun _ _ _ _ => False) (fs g) Dn σ H) (Wout := W) hs hf hN hi hln hc tk
    (fun W pn xe tk _ => hb W pn xe tk) (fun a oe cls d pn hz hf => ⟨fun pins s σ H Dn I ⟨g, k, h1, h2, h3, h4, h⟩ => (hsu a oe cls d pn g k hz hf h1 h2 h3 h4).run pins s σ H Dn I h⟩)) fun Dn σ H ⟨m, env, s, r, E, q⟩ => by
    refine ⟨m, env, s, r, E, ?_⟩
    unfold sTryAs at q
    cases e : fb env s with
    | ex ex env2 s2 =>
      rw [e] at q
      simp only at q
      split at q
      · rename_i hh
        obtain ⟨h1, h2, h3⟩ := hh
        intro m' σ' H' cv dd l r' E' xr
        obtain ⟨gk, hx⟩ := xr
        rcases hx with ⟨z, _⟩ | ⟨da, vfs, ed, hd, nd, rf⟩
        · exact (h2 z).elim
        · refine ⟨true, hcs _ h1 _ gk, fun _ a ha => ⟨(a, da), ex.cls, rfl, ed, h1, gk, m', _, s2, r', relE_set E' (.exv hd nd rf : Rep X.K m' H' (.exv a da ex.cls ex.fs) (.ref a)) i, ?_⟩, fun z => Bool.noConfusion z⟩
          rw [← h3 (a, da)] at q
          exact gs_clr (GS.mono l q)
      · exact q.elim
    | nx env2 s2 => rw [e] at q; exact q
    | rt d s2 => rw [e] at q; exact q
    | bk env2 s2 => rw [e] at q; exact q
    | ct env2 s2 => rw [e] at q; exact q
    | no => rw [e] at q; exact q.elim
end
/-! ### words for printed texts -/
def clsBody : Stmt → List Stmt
  | .ClassDef (body := b) .. => b
  | _ => []
section
variable {K : PySem.W.Frag} {mg : Str → Option Value} {c f k : Str} {C : Addr} {cls : Value}
theorem hcs1 (g : mg c = some (.ref C)) (te : PySem.W.exmOne K (.ref C) (.ref C) = some true) : ∀ k ∈ [c], ∀ cls, mg k = some cls → PySem.W.exmOne K cls (.ref C) = some true := fun k hk cls e => by
  rw [List.mem_singleton.mp hk, g] at e
  cases e
  exact te
theorem hxf1 (g : mg c = some (.ref C)) (xf : XfC K C) (no : PySem.W.findIn K (.ref C) f = some none) (h3 : k ∈ [c]) (h4 : mg k = some cls) : ∃ C, cls = .ref C ∧ XfC K C ∧ PySem.W.findIn K (.ref C) f = some none := by
  rw [List.mem_singleton.mp h3, g] at h4
  cases h4
  exact ⟨C, rfl, xf, no⟩
theorem exm_own (h1 : PySem.W.subIn K (.ref C) (.type "BaseException") = some true) (h2 : PySem.W.isClsIn K C = true) (h3 : PySem.W.typeIn K (.ref C) = some (.type "type")) (h4 : PySem.W.subIn K (.ref C) (.ref C) = some true) : PySem.W.exmOne K (.ref C) (.ref C) = some true := by
  have z1 : (PySem.W.subIn K (.ref C) (.type "BaseException") == some true) = true := by rw [h1] <;> rfl
  have z2 : (PySem.W.clsIn K C).isSome = true := h2
  have z3 : ((PySem.W.clsIn K C).isSome && PySem.W.typeIn K (.ref C) == some (.type "type")) = true := by rw [z2, h3] <;> rfl
  have q : (if (PySem.W.subIn K (.ref C) (.type "BaseException") == some true) = true then (if ((PySem.W.clsIn K C).isSome && PySem.W.typeIn K (.ref C) == some (.type "type")) = true then PySem.W.subIn K (.ref C) (.ref C) else none) else none) = some true := by
    rw [if_pos z1, if_pos z3, h4]
  exact q
end
end Mi
namespace Mi
open PySem PySem.Spec PyProof.Rows L2
/-! ### enumerate of a tuple -/
theorem enum_made {v : Value} {o : Obj} {Hh : Heap → Prop} (B : Begins v o Hh) :
    Meets (Builtin.«enumerate.__new__» ⟨[.type "enumerate", v], []⟩) (fun _ R s => Hh s.heap ∧
      R (.ok (.ret (.ref (s.heap.push o).objs.size))) { s with heap := (s.heap.push o).push { cls := .type "enumerate", data := .fields #[.none, .bool false, .ref s.heap.objs.size, rawInt 0, .none, .none] } }) :=
  .of_wp fun prog w A R s h => by
    obtain ⟨hp, g, d, tk, os⟩ := s
    obtain ⟨h1, h⟩ := h
    have hsub := sub_enumerate
    have it : ∀ {A' : Around} {E : Value → Shared → Prop} {Q : Value → Shared → Prop}, Q (.ref hp.objs.size) ⟨hp.push o, g, d, tk, os⟩ → wpAny (model prog w) A' (pyIter v) Q E ⟨hp, g, d, tk, os⟩ := fun q => B.iter prog w _ _ ⟨hp, g, d, tk, os⟩ _ h1 q
    wp_walk using it
    refine wpAny_stack_any fun st => wpAny_pure ?_
    split
    · rename_i c _ _ _ _ _
      cases (c == Value.type "enumerate")
      · wp_walk using it
        exact ⟨_, rfl, h⟩
      · wp_walk using it
        exact ⟨_, rfl, h⟩
    · wp_walk using it
      exact ⟨_, rfl, h⟩
section
variable {prog : Program} {w : World} {A : Around} {E : Value → Shared → Prop} {s : Shared}
theorem enum_call {v : Value} {o : Obj} {Hh : Heap → Prop} {R : Value → Shared → Prop} (B : Begins v o Hh) (h1 : Hh s.heap)
    (q : ∀ h', IsEnum h' (s.heap.objs.size + 1) s.heap.objs.size 0 .none → h'.get? s.heap.objs.size = some o → (∀ b o, s.heap.get? b = some o → h'.get? b = some o) → R (.ref (s.heap.objs.size + 1)) { s with heap := h' }) :
    wpAny (model prog w) A (call (.type "enumerate") [v]) R E s := by
  refine callType_new F.called_enumerate (by decide) (F.typeCall_enumerate_1 _) (F.newCall_enumerate_1 _) (fun obj => F.args_object_init_2 obj _) F.entry_enumerate_new (enum_made B) ⟨h1, ?_⟩
  have hz : (s.heap.push o).objs.size = s.heap.objs.size + 1 := Heap.size_push ..
  show _ ∧ _
  rw [hz]
  have he : IsEnum ((s.heap.push o).push { cls := .type "enumerate", data := .fields #[.none, .bool false, .ref s.heap.objs.size, rawInt 0, .none, .none] }) (s.heap.objs.size + 1) s.heap.objs.size 0 .none := by
    have := Heap.get?_push_size (s.heap.push o) (o := { cls := .type "enumerate", data := .fields #[.none, .bool false, .ref s.heap.objs.size, rawInt 0, .none, .none] }) rfl
    rw [hz] at this
    exact this
  exact ⟨⟨_, he, rfl⟩, q _ he (Heap.get?_push_of_some _ (Heap.get?_push_size _ B.free)) fun b o x => Heap.get?_push_of_some _ (Heap.get?_push_of_some _ x)⟩
end
def Itu (K : PySem.W.Frag) (a : Addr) : It :=
  ⟨fun i H => ∃ (xs : List V) (x : V), SqT K H a xs ∧ xs[i]? = some x, fun i H v H' => ∃ T x, v = .ref T ∧ H T = none ∧ H' = upd H T (.tup [.int (i : Nat), x]) ∧ ∀ xs, SqT K H a xs → xs[i]? = some x, fun i H => ∃ xs : List V, SqT K H a xs ∧ xs.length = i⟩
theorem turn_enumT {P : Program} {w : World} {K : PySem.W.Frag} {elts : List Expr} {kk : Nat} {tpos : Pos} (a e it : Addr) :
    Turn P w K (.Tuple elts kk tpos) (Itu K a) [e, it] e (fun i h => (∃ old, IsEnum h e it ((i : Nat) : Int) old) ∧ h.IsTupleIter it a i ∧ e ≠ it) where
  mem := by simp
  obj := fun i h st b hb => by
    obtain ⟨⟨old, he⟩, ⟨o, ho, hc, hd⟩, _⟩ := st
    rcases (by simpa using hb : b = e ∨ b = it) with z | z
    · rw [z]; exact ⟨_, he, fun v q => nomatch q⟩
    · rw [z]; exact ⟨o, ho, fun v q => by rw [hd] at q; cases q⟩
  keep := fun i h h' st k => let ⟨⟨old, he⟩, hi, hne⟩ := st; ⟨⟨old, k e (by simp) _ he⟩, hi.at fun o q => k it (by simp) o q, hne⟩
  item := by
    intro X hP hw hK hc i pins s σ H E I hf st hg
    subst hP hw hK
    obtain ⟨⟨old, he⟩, hit, hne⟩ := st
    obtain ⟨xs, x, hq, hx⟩ := hg
    obtain ⟨its, rv, p, hz⟩ := I.tuple hq
    obtain ⟨u, hu, ru⟩ := rv.get hx
    have hel : e < s.heap.objs.size := Heap.lt_size he
    have hil : it < s.heap.objs.size := by obtain ⟨_, q, _⟩ := hit; exact Heap.lt_size q
    have ait : a ≠ it := fun z => by
      obtain ⟨o1, q1, c1, _⟩ := p
      obtain ⟨o2, q2, c2, _⟩ := hit
      rw [z] at q1
      rw [q1] at q2
      cases q2
      rw [c1] at c2
      exact absurd (Value.type.inj c2) (by decide)
    have ea : e ≠ a := fun z => by
      obtain ⟨o1, q1, c1, _⟩ := p
      have he' := he
      unfold IsEnum at he'
      rw [z, q1] at he'
      cases he'
      exact absurd (Value.type.inj c1) (by decide)
    refine wpAny_pyNext_enum_itemD (Draws.tuple (A := X.A.in1) (I.ok.hd hc) it a ait its.toArray) he ⟨hit, p⟩ (by have := (List.getElem?_eq_some_iff.mp hu).1; simpa using this) hne (by simp [hne, ea]) fun x' h' tk hP ho hst' hT hsz hk => ?_
    have ex : x' = u := by
      have hP' : its.toArray[i]? = some x' := hP
      rw [List.getElem?_toArray, hu] at hP'
      cases hP'
      rfl
    subst ex
    refine ⟨_, rfl, wpAny_letOwnedTupleGo_enum (s := { s with heap := h', toks := tk + 1 }) ho fun h'' he' sb => ?_⟩
    have hT2 : h''.get? s.heap.objs.size = some { cls := .type "tuple", data := .seq #[.int i tk, x'] } := (sb.2 _ (Nat.ne_of_gt hel)).trans hT
    have new : ObjOk X.prog X.w (upd H s.heap.objs.size (.tup [.int (i : Nat), x])) h'' s.heap.objs.size (.tup [.int (i : Nat), x]) :=
      ⟨by show 2 ≤ sizeLine; decide, [.int i tk, x'], .cons ⟨_, rfl⟩ (.cons ru .nil), ⟨_, hT2, rfl, _, rfl⟩⟩
    have I1 : Inv X pins σ (upd H s.heap.objs.size (.tup [.int (i : Nat), x])) { s with heap := h'', toks := tk + 1 } :=
      I.turnedNew (ch := [e, it]) (fun b ob hb q => (sb.2 b (fun z => hb (by simp [z]))).trans (hk b ob (fun z => hb (by simp [z])) (fun z => hb (by simp [z])) q)) hf (Nat.le_refl _) new
    refine ⟨.ref s.heap.objs.size, _, I1, rfl, ⟨_, x, rfl, I.hok.fresh (Nat.le_refl _), rfl, fun ys hy => by rw [I.tuple_inj hy hq]; exact hx⟩, ⟨⟨x', ?_⟩, hst'.1.at fun o q => (sb.2 it (Ne.symm hne)).trans q, hne⟩, fun b hb => ?_⟩
    · have e1 : ((i + 1 : Nat) : Int) = (i : Int) + 1 := by omega
      rw [e1]; exact he'
    · have hb' : b < s.heap.objs.size := by
        rcases (by simpa using hb : b = e ∨ b = it) with z | z
        · rw [z]; exact hel
        · rw [z]; exact hil
      rw [upd_ne (Nat.ne_of_lt hb')]
      exact (hf b hb).1
  done := by
    intro X hP hw hK hc i pins s σ H E I hf st hg
    subst hP hw hK
    obtain ⟨⟨old, he⟩, hit, hne⟩ := st
    obtain ⟨xs, hq, hx⟩ := hg
    obtain ⟨its, rv, p, hz⟩ := I.tuple hq
    obtain ⟨f0, f1, f2, f3, f4, f5⟩ := hf it (by simp)
    have hl := rv.length
    have ait : a ≠ it := fun z => by
      obtain ⟨o1, q1, c1, _⟩ := p
      obtain ⟨o2, q2, c2, _⟩ := hit
      rw [z] at q1
      rw [q1] at q2
      cases q2
      rw [c1] at c2
      exact absurd (Value.type.inj c2) (by decide)
    have en : its.toArray.size = i := by rw [List.size_toArray]; omega
    exact wpAny_pyNext_enum_endD (Draws.tuple (A := X.A.in1) (I.ok.hd hc) it a ait its.toArray) he ⟨by rw [en]; exact hit, p⟩ fun h' eb => ⟨rfl, I.turned (t' := s.toks) (fun b o hb q => eb b o hb q) f0 f1 f3 f4 f5⟩
  self := fun A i s Q E st h => let ⟨⟨_, he⟩, _⟩ := st; wpAny_pyIter_enum he h
/-- enumerate(x), x a list or a tuple -/
def iEnumA (K : PySem.W.Frag) (ta : TA) : TI := fun σ H R => ta σ H fun vs H1 => ∃ a, vs = [.ref a] ∧ (((∃ xs, SqL K H1 a xs) ∧ R (Ite K a) H1) ∨ ((∃ xs, SqT K H1 a xs) ∧ R (Itu K a) H1))
theorem pi_enumA {X : Cx} {e : Expr} {ta : TA} {p pos tpos : Pos} {elts : List Expr} {kk : Nat} (hg : Gl X "enumerate") (hm : X.mg "enumerate" = none) (ha : PA X [e] ta) (hs : starEach [e] X.env = [(false, eval e X.env)] := by rfl) :
    PI X (.Tuple elts kk tpos) (.Call (.Name "enumerate" p) [e] [] pos) (iEnumA X.K ta) := by
  refine ⟨fun pins s σ H R I h => ?_⟩
  refine Call_ (ld_blt I hg hm boot_enumerate (PyProof.Rows.callWith_type1 (thn (ha.run pos pins s σ H _ I h) fun us s1 ⟨vs, H1, I1, r1, a, ex, q1⟩ => ?_) hs rfl))
  subst ex
  cases r1 with
  | cons r rr =>
    cases rr
    cases r
    have fp : ∀ b ∈ [s1.heap.objs.size + 1, s1.heap.objs.size], FpOk X pins H1 b := fun b hb => by
      have hle : s1.heap.objs.size ≤ b := by
        rcases (by simpa using hb : b = s1.heap.objs.size + 1 ∨ b = s1.heap.objs.size) with z | z
        · rw [z]; exact Nat.le_add_right _ _
        · rw [z]; exact Nat.le_refl _
      exact I1.fpOk hle (I1.hok.fresh hle)
    rcases q1 with ⟨⟨xs, hq⟩, q⟩ | ⟨⟨xs, hq⟩, q⟩
    · obtain ⟨its, rv, p', hz⟩ := I1.list hq
      refine call_enumerate_list p'.isList fun h' he hit hsz hk => wpAny_pyIter_enum he ?_
      exact ⟨s1.heap.objs.size + 1, [s1.heap.objs.size + 1, s1.heap.objs.size], _, _, H1, rfl, I1.kept (t' := s1.toks) hk, turn_enum a (s1.heap.objs.size + 1) s1.heap.objs.size, ⟨⟨.none, he⟩, hit, Nat.succ_ne_self _⟩, fp, q⟩
    · obtain ⟨its, rv, p', hz⟩ := I1.tuple hq
      refine enum_call (begins_tuple a its.toArray) p' fun h' he hit hk => wpAny_pyIter_enum he ?_
      exact ⟨s1.heap.objs.size + 1, [s1.heap.objs.size + 1, s1.heap.objs.size], _, _, H1, rfl, I1.kept (t' := s1.toks) hk, turn_enumT a (s1.heap.objs.size + 1) s1.heap.objs.size, ⟨⟨.none, he⟩, ⟨_, hit, rfl, rfl⟩, Nat.succ_ne_self _⟩, fp, q⟩
/-! ### its mirror -/
def enm (xs : List D) : List D := xs.mapIdx fun i x => .tup [.int (i : Nat), x]
theorem enm_len (xs : List D) : (enm xs).length = xs.length := by simp [enm]
theorem enm_get {xs : List D} {i : Nat} {d : D} (h : (enm xs)[i]? = some d) : ∃ x, xs[i]? = some x ∧ d = .tup [.int (i : Nat), x] := by
  unfold enm at h
  rw [List.getElem?_mapIdx] at h
  cases e : xs[i]? with
  | none => rw [e] at h; cases h
  | some x => rw [e] at h; cases h; exact ⟨x, rfl, rfl⟩
def iEnm (a : ME (List D)) : ME Itm := fun env s => (a env s).bind fun x s => match x with
  | [.tup xs] => .ok (Itm.mk (enm xs) always) s
  | [.fl xs] => .ok (Itm.mk (enm xs) always) s
  | [.loc l] => match s[l]? with
    | some (.lst xs) => .ok (Itm.mk (enm xs) (fun s2 => s2[l]? = some (.lst xs))) s
    | _ => .no
  | _ => .no
section
variable {K : PySem.W.Frag} {m : List Addr} {H : Hp}
theorem enm_turn {m2 : List Addr} {H2 H3 : Hp} {s2 : Store} {v : V} {i : Nat} {x : D} {xs : List D} {vs : List V} (r2 : Rel K m2 H2 s2) (h : Reps K m2 H2 xs vs) (e : xs[i]? = some x) {T : Addr} {y : V} (ev : v = .ref T) (hT : H2 T = none) (h3 : H3 = upd H2 T (.tup [.int (i : Nat), y])) (hy : vs[i]? = some y) :
    Le K m2 H2 m2 H3 ∧ Rel K m2 H3 s2 ∧ Rep K m2 H3 (.tup [.int (i : Nat), x]) v := by
  subst ev h3
  obtain ⟨w, hw, rw'⟩ := h.get e
  rw [hy] at hw
  cases hw
  exact ⟨le_new hT, r2.tmp hT, rep_newtup hT (.cons (.int _) (.cons rw' .nil))⟩
theorem itr_enumL {l : Nat} {xs : List D} {a : Addr} (h : m[l]? = some a) : ItR K m H ⟨enm xs, fun s2 => s2[l]? = some (.lst xs)⟩ (Ite K a) := fun m2 H2 s2 l2 r2 g => by
  have g' : s2[l]? = some (.lst xs) := g
  obtain ⟨vs, h1, h2⟩ := r2.list (l2.get h) g'
  have hq : SqL K H2 a vs := .inl (.inl h1)
  refine ⟨fun i d e => ?_, ⟨vs, hq, by rw [← h2.length]; exact Nat.le_of_eq (enm_len xs).symm⟩⟩
  obtain ⟨x, hx, rfl⟩ := enm_get e
  obtain ⟨v, hv, rv⟩ := h2.get hx
  refine ⟨⟨vs, v, hq, hv⟩, fun w H3 y => ?_⟩
  obtain ⟨T, z, ev, hT, h3, y⟩ := y
  exact enm_turn r2 h2 hx ev hT h3 (y vs hq)
theorem itr_enumF {xs : List D} {vs : List V} {a : Addr} (h : FrL K H a vs) (p : Reps K m H xs vs) : ItR K m H ⟨enm xs, always⟩ (Ite K a) := fun m2 H2 s2 l2 r2 g => by
  have hq : SqL K H2 a vs := (l2.frl a vs h).sq
  have h2 := p.mono l2
  refine ⟨fun i d e => ?_, ⟨vs, hq, by rw [← h2.length]; exact Nat.le_of_eq (enm_len xs).symm⟩⟩
  obtain ⟨x, hx, rfl⟩ := enm_get e
  obtain ⟨v, hv, rv⟩ := h2.get hx
  refine ⟨⟨vs, v, hq, hv⟩, fun w H3 y => ?_⟩
  obtain ⟨T, z, ev, hT, h3, y⟩ := y
  exact enm_turn r2 h2 hx ev hT h3 (y vs hq)
theorem itr_enumT {xs : List D} {vs : List V} {a : Addr} (h : SqT K H a vs) (p : Reps K m H xs vs) : ItR K m H ⟨enm xs, always⟩ (Itu K a) := fun m2 H2 s2 l2 r2 g => by
  have hq : SqT K H2 a vs := l2.tup a vs h
  have h2 := p.mono l2
  refine ⟨fun i d e => ?_, ⟨vs, hq, by rw [← h2.length]; exact (enm_len xs).symm⟩⟩
  obtain ⟨x, hx, rfl⟩ := enm_get e
  obtain ⟨v, hv, rv⟩ := h2.get hx
  refine ⟨⟨vs, v, hq, hv⟩, fun w H3 y => ?_⟩
  obtain ⟨T, z, ev, hT, h3, y⟩ := y
  exact enm_turn r2 h2 hx ev hT h3 (y vs hq)
end
section
variable {X : Cx} {W : WX} {e : Expr} {p pos tpos : Pos} {elts : List Expr} {kk : Nat} {fs : ME (List D)}
theorem ci_enum (hg : Gl X "enumerate") (hm : X.mg "enumerate" = none) (ha : PA X [e] (Ta X.K X.mg W fs)) (hs : starEach [e] X.env = [(false, eval e X.env)] := by rfl) :
    PI X (.Tuple elts kk tpos) (.Call (.Name "enumerate" p) [e] [] pos) (Ti X.K X.mg W (iEnm fs)) := PI.imp (pi_enumA hg hm ha hs) fun σ H Rw h =>
  Tm.bind (k := fun _ (x : List D) s => match x with
  | [.tup xs] => R.ok (Itm.mk (enm xs) always) s
  | [.fl xs] => R.ok (Itm.mk (enm xs) always) s
  | [.loc l] => match s[l]? with
    | some (.lst xs) => R.ok (Itm.mk (enm xs) (fun s2 => s2[l]? = some (.lst xs))) s
    | _ => R.no
  | _ => R.no) h fun m1 H1 env x vs s1 r1 E1 p1 g1 => by
    split at g1
    · obtain ⟨v, rfl, h1⟩ := reps1 p1
      obtain ⟨a, vs, rfl, hq, rr⟩ := h1.sqT
      exact ⟨a, rfl, .inr ⟨⟨vs, hq⟩, g1 m1 H1 _ .refl r1 (itr_enumT hq rr)⟩⟩
    · obtain ⟨v, rfl, h1⟩ := reps1 p1
      cases h1 with
      | fl hq rr => exact ⟨_, rfl, .inl ⟨⟨_, hq.sq⟩, g1 m1 H1 _ .refl r1 (itr_enumF hq rr)⟩⟩
    · obtain ⟨v, rfl, h1⟩ := reps1 p1
      cases h1 with
      | loc hl =>
        split at g1
        · rename_i q
          obtain ⟨vs, h1, h2⟩ := r1.list hl q
          exact ⟨_, rfl, .inl ⟨⟨vs, .inl (.inl h1)⟩, g1 m1 H1 _ .refl r1 (itr_enumL hl)⟩⟩
        · exact g1.elim
    · exact g1.elim
end
/-! ### all, any of a list of bools -/
def blsOf : List D → Option (List Bool)
  | [] => some []
  | .bl i :: r => (blsOf r).map fun x => i :: x
  | _ :: _ => none
theorem blsOf_map (bs : List Bool) : blsOf (bs.map D.bl) = some bs := by
  induction bs with
  | nil => rfl
  | cons n ns ih => simp [blsOf, ih]
theorem bls_reps {K : PySem.W.Frag} {m : List Addr} {H : Hp} : ∀ {ds : List D} {vs : List V} {bs : List Bool}, Reps K m H ds vs → blsOf ds = some bs → vs = bs.map V.bl
  | [], _, _, .nil, e => by cases e; rfl
  | d :: ds, _, bs, .cons p r, e => by
    cases d with
    | bl i =>
      unfold blsOf at e
      cases q : blsOf ds with
      | none => rw [q] at e; cases e
      | some x => rw [q] at e; cases e; cases p; rw [List.map_cons, bls_reps r q]
    | _ => cases e
def dAll : List D → Store → Option (D × Store)
  | [x], s => (lstOf s x).bind fun xs => (blsOf xs).map fun bs => (.bl (bs.all id), s)
  | _, _ => none
def dAny : List D → Store → Option (D × Store)
  | [x], s => (lstOf s x).bind fun xs => (blsOf xs).map fun bs => (.bl (bs.any id), s)
  | _, _ => none
section
variable {K : PySem.W.Frag}
theorem fns_all : FnS K (rAll K) dAll := by
  intro mg W σ m H s xs ds Q r p g
  unfold dAll at g
  split at g
  · obtain ⟨v, rfl, h⟩ := reps1 p
    rename_i x
    cases q : lstOf s x with
    | none => rw [q] at g; exact g.elim
    | some ys =>
      rw [q, Option.bind_some] at g
      cases q2 : blsOf ys with
      | none => rw [q2] at g; exact g.elim
      | some bs =>
        rw [q2] at g
        obtain ⟨a, vs, rfl, hq, rr⟩ := lstOf_sq r h q
        have e := bls_reps rr q2
        subst e
        exact ⟨a, bs, rfl, hq, G.now (d := D.bl (bs.all id)) g r (.bl _)⟩
  · exact g.elim
theorem fns_any : FnS K (rAny K) dAny := by
  intro mg W σ m H s xs ds Q r p g
  unfold dAny at g
  split at g
  · obtain ⟨v, rfl, h⟩ := reps1 p
    rename_i x
    cases q : lstOf s x with
    | none => rw [q] at g; exact g.elim
    | some ys =>
      rw [q, Option.bind_some] at g
      cases q2 : blsOf ys with
      | none => rw [q2] at g; exact g.elim
      | some bs =>
        rw [q2] at g
        obtain ⟨a, vs, rfl, hq, rr⟩ := lstOf_sq r h q
        have e := bls_reps rr q2
        subst e
        exact ⟨a, bs, rfl, hq, G.now (d := D.bl (bs.any id)) g r (.bl _)⟩
  · exact g.elim
end
end Mi
namespace Mi
open PySem PySem.Spec PyProof.Rows L2
/-! ### dicts with ints and texts as keys -/
def rIxDic : R2 := fun x y H Q => ∃ a v, x = .ref a ∧ DGet H a y (some v) ∧ Q v H
theorem ix_dic {X : Cx} (hu : X.A.units + 64 < cLine) : IxR X rIxDic := by
  intro value slice pins s σ H x y v u Q I rx ry h hs
  obtain ⟨a, z, rfl, g, q⟩ := h
  cases rx
  exact tail_any (ops := [.ref a, u]) (dict_typeIs I g) PySem.F.slot_dict_getitem.lookup (d_getItem (by omega) I g ry fun w' s' I' r' => ⟨z, H, I', r', q⟩) hs
theorem ix_any {X : Cx} (hu : X.A.units + 64 < cLine) : IxR X (fun x y H Q => rIx X.K x y H Q ∨ rIxDic x y H Q) := ix_seq.or (ix_dic hu)
def rSetDic : TSet := fun x y z H Q => ∃ a H', x = .ref a ∧ DPut H a y z H' ∧ Q H'
theorem set_dic {X : Cx} (hu : X.A.units + 64 < cLine) : PSet X rSetDic := by
  intro pins s σ H o i v ov iv u Q I ro ri rv h
  obtain ⟨a, H', rfl, g, q⟩ := h
  cases ro
  exact d_setItem (by omega) I g ri rv fun s' I' => ⟨H', I', q⟩
theorem pset_or {X : Cx} {t t' : TSet} (h : PSet X t) (h' : PSet X t') : PSet X (fun x y z H Q => t x y z H Q ∨ t' x y z H Q) := by
  intro pins s σ H o i v ov iv u Q I ro ri rv q
  rcases q with q | q
  · exact h pins s σ H o i v ov iv u Q I ro ri rv q
  · exact h' pins s σ H o i v ov iv u Q I ro ri rv q
theorem set_any {X : Cx} (hu : X.A.units + 64 < cLine) : PSet X (fun x y z H Q => rSetL x y z H Q ∨ rSetDic x y z H Q) := pset_or set_list (set_dic hu)
/-! ### mirrors -/
def keyOf : D → Option Key
  | .int i => some (.inl i)
  | .str z => some (.inr z)
  | _ => none
theorem keyOf_rep {K : PySem.W.Frag} {m : List Addr} {H : Hp} {d : D} {v : V} {k : Key} (p : Rep K m H d v) (e : keyOf d = some k) : v = kV k := by
  cases p <;> first | (cases e; done) | (cases e; rfl)
def getD {κ : Type} [DecidableEq κ] (ks : List (κ × D)) (k : κ) : Option D := (ks.find? fun kv => decide (kv.1 = k)).map (·.2)
def putD {κ : Type} [DecidableEq κ] (ks : List (κ × D)) (k : κ) (v : D) : List (κ × D) :=
  if (ks.any fun kv => decide (kv.1 = k)) = true then ks.map (fun kv => if kv.1 = k then (kv.1, v) else kv) else ks ++ [(k, v)]
def dicOf (s : Store) : D → Option (Nat × List (Key × D))
  | .loc l => match s[l]? with
    | some (.dic ks) => some (l, ks)
    | _ => none
  | _ => none
/-- keys that are tuples of ints and texts -/
def keysOf : List D → Option (List Key)
  | [] => some []
  | x :: xs => (keyOf x).bind fun k => (keysOf xs).map fun r => k :: r
def keyT : D → Option (List Key)
  | .tup xs => keysOf xs
  | _ => none
def dctOf (s : Store) : D → Option (Nat × List (List Key × D))
  | .loc l => match s[l]? with
    | some (.dct ks) => some (l, ks)
    | _ => none
  | _ => none
theorem keysOf_rep {K : PySem.W.Frag} {m : List Addr} {H : Hp} : ∀ {ds : List D} {vs : List V} {ks : List Key}, Reps K m H ds vs → keysOf ds = some ks → vs = ks.map kV
  | _, _, _, .nil, e => by cases e; rfl
  | x :: xs, _, ks, .cons p r, e => by
    unfold keysOf at e
    cases q : keyOf x with
    | none => rw [q] at e; cases e
    | some k =>
      rw [q, Option.bind_some] at e
      cases q2 : keysOf xs with
      | none => rw [q2] at e; cases e
      | some r2 =>
        rw [q2] at e
        cases e
        rw [keyOf_rep p q, keysOf_rep r q2]
        rfl
theorem keyT_rep {K : PySem.W.Frag} {m : List Addr} {H : Hp} {d : D} {v : V} {k : List Key} (p : Rep K m H d v) (e : keyT d = some k) : ∃ b, v = .ref b ∧ H b = some (.tup (k.map kV)) := by
  cases d with
  | tup xs =>
    obtain ⟨a, vs, rfl, h, r⟩ := p.trk
    rw [keysOf_rep r e] at h
    exact ⟨a, rfl, h⟩
  | _ => cases e
/-- x[i], x a dict or a sequence -/
def dIxA (x i : D) (s : Store) : Option (D × Store) := match dicOf s x with
  | some (_, ks) => (keyOf i).bind fun k => (getD ks k).map fun d => (d, s)
  | none => match dctOf s x with
    | some (_, ks) => (keyT i).bind fun k => (getD ks k).map fun d => (d, s)
    | none => dIx x i s
section
variable {K : PySem.W.Frag} {m : List Addr} {H : Hp} {s : Store}
section
variable {κ : Type} [DecidableEq κ]
theorem repk_get {k : κ} : ∀ {ks : List (κ × D)} {vs : List (κ × V)} {d : D}, RepK K m H ks vs → getD ks k = some d → ∃ v, valV vs k = some v ∧ Rep K m H d v
  | _, _, _, .nil, e => by cases e
  | (q, x) :: ks, (_, v) :: vs, d, .cons p r, e => by
    by_cases c : q = k
    · subst c
      refine ⟨v, valV_pos rfl, ?_⟩
      simp [getD, List.find?_cons] at e
      subst e
      exact p
    · rw [valV_neg c]
      refine repk_get r ?_
      simpa [getD, List.find?_cons, c] using e
theorem repk_any {k : κ} : ∀ {ks : List (κ × D)} {vs : List (κ × V)}, RepK K m H ks vs → (ks.any fun kv => decide (kv.1 = k)) = (vs.any fun kv => decide (kv.1 = k))
  | _, _, .nil => rfl
  | (q, x) :: ks, (_, v) :: vs, .cons p r => by simp [repk_any r]
theorem repk_map {k : κ} {y : D} {w : V} (p : Rep K m H y w) : ∀ {ks : List (κ × D)} {vs : List (κ × V)}, RepK K m H ks vs → RepK K m H (ks.map fun kv => if kv.1 = k then (kv.1, y) else kv) (vs.map fun kv => if kv.1 = k then (kv.1, w) else kv)
  | _, _, .nil => .nil
  | (q, x) :: ks, (_, v) :: vs, .cons h r => by
    by_cases c : q = k
    · simp only [List.map_cons, c, if_true]
      exact .cons p (repk_map p r)
    · simp only [List.map_cons, c, if_false]
      exact .cons h (repk_map p r)
theorem repk_app {ks : List (κ × D)} {vs : List (κ × V)} {k : κ} {y : D} {w : V} (h : RepK K m H ks vs) (p : Rep K m H y w) : RepK K m H (ks ++ [(k, y)]) (vs ++ [(k, w)]) := by
  induction ks generalizing vs with
  | nil => cases h; exact .cons p .nil
  | cons a ks ih => cases h with | cons q r => exact .cons q (ih r)
theorem repk_put {ks : List (κ × D)} {vs : List (κ × V)} {k : κ} {y : D} {w : V} (h : RepK K m H ks vs) (p : Rep K m H y w) : RepK K m H (putD ks k y) (putK vs k w) := by
  unfold putD putK
  rw [repk_any h]
  split
  · exact repk_map p h
  · exact repk_app h p
theorem repk_len : ∀ {ks : List (κ × D)} {vs : List (κ × V)}, RepK K m H ks vs → ks.length = vs.length
  | _, _, .nil => rfl
  | _, _, .cons _ r => by simp [repk_len r]
end
theorem dicOf_at (r : Rel K m H s) {d : D} {v : V} {l : Nat} {ks : List (Key × D)} (p : Rep K m H d v) (e : dicOf s d = some (l, ks)) : ∃ a vs, d = .loc l ∧ v = .ref a ∧ m[l]? = some a ∧ H a = some (.dK vs) ∧ RepK K m H ks vs := by
  cases p with
  | @loc l' a h =>
    unfold dicOf at e
    cases q : s[l']? with
    | none => simp [q] at e
    | some c =>
      cases c with
      | lst _ => simp [q] at e
      | dct _ => simp [q] at e
      | dic ks' =>
        simp only [q] at e
        cases e
        obtain ⟨ws, h1, h2⟩ := r.at_ _ a _ h q
        exact ⟨a, ws, rfl, rfl, h, h1, h2⟩
  | _ => cases e
theorem dctOf_at (r : Rel K m H s) {d : D} {v : V} {l : Nat} {ks : List (List Key × D)} (p : Rep K m H d v) (e : dctOf s d = some (l, ks)) : ∃ a vs, d = .loc l ∧ v = .ref a ∧ m[l]? = some a ∧ H a = some (.dT vs) ∧ RepK K m H ks vs := by
  cases p with
  | @loc l' a h =>
    unfold dctOf at e
    cases q : s[l']? with
    | none => simp [q] at e
    | some c =>
      cases c with
      | lst _ => simp [q] at e
      | dic _ => simp [q] at e
      | dct ks' =>
        simp only [q] at e
        cases e
        obtain ⟨ws, h1, h2⟩ := r.at_ _ a _ h q
        exact ⟨a, ws, rfl, rfl, h, h1, h2⟩
  | _ => cases e
theorem ops_ixA : OpS K (fun x y H Q => rIx K x y H Q ∨ rIxDic x y H Q) dIxA := by
  intro mg W σ m H s x y dx dy Q r px py g
  unfold dIxA at g
  cases e : dicOf s dx with
  | none =>
    rw [e] at g
    simp only at g
    cases e0 : dctOf s dx with
    | none => rw [e0] at g; exact .inl (ops_ix r px py g)
    | some o =>
      obtain ⟨l, ks⟩ := o
      rw [e0] at g
      simp only at g
      cases e1 : keyT dy with
      | none => rw [e1] at g; exact g.elim
      | some k =>
        rw [e1, Option.bind_some] at g
        cases e2 : getD ks k with
        | none => rw [e2] at g; exact g.elim
        | some d =>
          rw [e2] at g
          obtain ⟨a, vs, _, rfl, _, h1, h2⟩ := dctOf_at r px e0
          obtain ⟨v, hv, pv⟩ := repk_get h2 e2
          obtain ⟨b, rfl, hb⟩ := keyT_rep py e1
          exact .inr ⟨a, v, rfl, hv ▸ DGet.t h1 hb, G.now (d := d) g r pv⟩
  | some o =>
    obtain ⟨l, ks⟩ := o
    rw [e] at g
    simp only at g
    cases e1 : keyOf dy with
    | none => rw [e1] at g; exact g.elim
    | some k =>
      rw [e1, Option.bind_some] at g
      cases e2 : getD ks k with
      | none => rw [e2] at g; exact g.elim
      | some d =>
        rw [e2] at g
        obtain ⟨a, vs, _, rfl, _, h1, h2⟩ := dicOf_at r px e
        obtain ⟨v, hv, pv⟩ := repk_get h2 e2
        rw [keyOf_rep py e1]
        exact .inr ⟨a, v, rfl, hv ▸ DGet.k h1, G.now (d := d) g r pv⟩
open Classical in
/-- o[i] = e, o a dict or a list -/
noncomputable def pAny (x y z : D) (s : Store) : Option Store := match dicOf s x with
  | some (l, ks) => (keyOf y).bind fun k => if ks.length < sizeLine then some (s.set l (.dic (putD ks k z))) else none
  | none => match dctOf s x with
    | some (l, ks) => (keyT y).bind fun k => if ks.length < sizeLine then some (s.set l (.dct (putD ks k z))) else none
    | none => pList x y z s
theorem puts_any : PutS K (fun x y z H Q => rSetL x y z H Q ∨ rSetDic x y z H Q) pAny := by
  intro m H s s' x y z dx dy dz Q r px py pz e q
  unfold pAny at e
  cases e0 : dicOf s dx with
  | none =>
    rw [e0] at e
    simp only at e
    cases e3 : dctOf s dx with
    | none => rw [e3] at e; exact .inl (puts_list r px py pz e q)
    | some o =>
      obtain ⟨l, ks⟩ := o
      rw [e3] at e
      simp only at e
      cases e1 : keyT dy with
      | none => rw [e1] at e; cases e
      | some k =>
        rw [e1, Option.bind_some] at e
        split at e
        · rename_i hz
          cases e
          obtain ⟨a, vs, rfl, rfl, hl, h1, h2⟩ := dctOf_at r px e3
          obtain ⟨b, rfl, hb⟩ := keyT_rep py e1
          have le := le_put (o := .dT (putK vs k z)) r (List.mem_of_getElem? hl)
          refine .inr ⟨a, _, rfl, DPut.t h1 hb (by rw [← repk_len h2]; exact hz), q _ le (r.put hl ⟨_, upd_same, ?_⟩)⟩
          have h3 := repk_put (k := k) h2 pz
          exact h3.mono le
        · cases e
  | some o =>
    obtain ⟨l, ks⟩ := o
    rw [e0] at e
    simp only at e
    cases e1 : keyOf dy with
    | none => rw [e1] at e; cases e
    | some k =>
      rw [e1, Option.bind_some] at e
      split at e
      · rename_i hz
        cases e
        obtain ⟨a, vs, rfl, rfl, hl, h1, h2⟩ := dicOf_at r px e0
        rw [keyOf_rep py e1]
        have le := le_put (o := .dK (putK vs k z)) r (List.mem_of_getElem? hl)
        refine .inr ⟨a, _, rfl, DPut.k h1 (by rw [← repk_len h2]; exact hz), q _ le (r.put hl ⟨_, upd_same, ?_⟩)⟩
        have h3 := repk_put (k := k) h2 pz
        exact h3.mono le
      · cases e
end
/-- {} -/
def eDict0 : ME D := fun _ s => .ok (.loc s.length) (s ++ [.dic []])
def eDict0T : ME D := fun _ s => .ok (.loc s.length) (s ++ [.dct []])
section
variable {X : Cx} {W : WX} {pos : Pos}
theorem ce_dict0T : PE X (.Dict [] [] pos) (Te X.K X.mg W eDict0T) := PE.imp pe_dnewT fun σ H Q ⟨m, env, s, r, E, g⟩ p hp =>
  g (m ++ [p]) _ _ (le_more r hp) (r.new hp ⟨[], upd_same, .nil⟩) (.loc (len_get r))
theorem ce_dict0 : PE X (.Dict [] [] pos) (Te X.K X.mg W eDict0) := PE.imp pe_dnewK fun σ H Q ⟨m, env, s, r, E, g⟩ p hp =>
  g (m ++ [p]) _ _ (le_more r hp) (r.new hp ⟨[], upd_same, .nil⟩) (.loc (len_get r))
end
end Mi
namespace Mi
open PySem PySem.Spec PyProof.Rows L2
/-! ### equations for simp -/
@[simp] theorem dIxA_tup (xs : List D) (i : D) (s : Store) : dIxA (.tup xs) i s = dIx (.tup xs) i s := rfl
@[simp] theorem dIxA_str (z : Str) (i : D) (s : Store) : dIxA (.str z) i s = dIx (.str z) i s := rfl
theorem dIxA_loc {s : Store} {l : Nat} {xs : List D} (h : s[l]? = some (.lst xs)) (i : Int) : dIxA (.loc l) (.int i) s = (L2.atI xs i).map fun d => (d, s) := by
  have e : dicOf s (.loc l) = none := by simp [dicOf, h]
  have e2 : dctOf s (.loc l) = none := by simp [dctOf, h]
  unfold dIxA
  rw [e]
  simp only
  rw [e2]
  exact dIx_loc h i
theorem dIxA_dct {s : Store} {l : Nat} {ks : List (List Key × D)} (h : s[l]? = some (.dct ks)) {i d : D} {k : List Key} (hk : keyT i = some k) (hd : getD ks k = some d) : dIxA (.loc l) i s = some (d, s) := by
  have e : dicOf s (.loc l) = none := by simp [dicOf, h]
  have e2 : dctOf s (.loc l) = some (l, ks) := by simp [dctOf, h]
  unfold dIxA
  rw [e]
  simp only
  rw [e2]
  simp [hk, hd]
theorem pAny_dct {s : Store} {l : Nat} {ks : List (List Key × D)} (h : s[l]? = some (.dct ks)) {i : D} {k : List Key} (hk : keyT i = some k) (hz : ks.length ≤ 1000000) (z : D) : pAny (.loc l) i z s = some (s.set l (.dct (putD ks k z))) := by
  have e : dicOf s (.loc l) = none := by simp [dicOf, h]
  have e2 : dctOf s (.loc l) = some (l, ks) := by simp [dctOf, h]
  have q : ks.length < sizeLine := by rw [sizeLine_eq]; omega
  unfold pAny
  rw [e]
  simp only
  rw [e2]
  simp only [hk, Option.bind_some, if_pos q]
@[simp] theorem eDict0T_eq (env : Sl) (s : Store) : eDict0T env s = .ok (.loc s.length) (s ++ [.dct []]) := rfl
theorem dIxA_dic {s : Store} {l : Nat} {ks : List (Key × D)} (h : s[l]? = some (.dic ks)) {i d : D} {k : Key} (hk : keyOf i = some k) (hd : getD ks k = some d) : dIxA (.loc l) i s = some (d, s) := by
  have e : dicOf s (.loc l) = some (l, ks) := by simp [dicOf, h]
  unfold dIxA
  rw [e]
  simp [hk, hd]
theorem pAny_loc {s : Store} {l : Nat} {xs : List D} (h : s[l]? = some (.lst xs)) (i z : D) : pAny (.loc l) i z s = pList (.loc l) i z s := by
  have e : dicOf s (.loc l) = none := by simp [dicOf, h]
  have e2 : dctOf s (.loc l) = none := by simp [dctOf, h]
  unfold pAny
  rw [e]
  simp only
  rw [e2]
theorem pAny_dic {s : Store} {l : Nat} {ks : List (Key × D)} (h : s[l]? = some (.dic ks)) {i : D} {k : Key} (hk : keyOf i = some k) (hz : ks.length ≤ 1000000) (z : D) : pAny (.loc l) i z s = some (s.set l (.dic (putD ks k z))) := by
  have e : dicOf s (.loc l) = some (l, ks) := by simp [dicOf, h]
  have q : ks.length < sizeLine := by rw [sizeLine_eq]; omega
  unfold pAny
  rw [e]
  simp only [hk, Option.bind_some, if_pos q]
@[simp] theorem eDict0_eq (env : Sl) (s : Store) : eDict0 env s = .ok (.loc s.length) (s ++ [.dic []]) := rfl
@[simp] theorem iEnm_eq (a : ME (List D)) (env : Sl) (s : Store) : iEnm a env s = (a env s).bind fun x s => match x with
  | [.tup xs] => .ok (Itm.mk (enm xs) always) s
  | [.fl xs] => .ok (Itm.mk (enm xs) always) s
  | [.loc l] => match s[l]? with
    | some (.lst xs) => .ok (Itm.mk (enm xs) (fun s2 => s2[l]? = some (.lst xs))) s
    | _ => .no
  | _ => .no := rfl
@[simp] theorem sRaise_eq (c : Str) (ns : List Str) (a : ME (List D)) (env : Sl) (s : Store) : sRaise c ns a env s = (a env s).then env fun xs s => if xs.length = ns.length then .ex ⟨c, (ns.zip xs).reverse⟩ env s else .no := rfl
theorem dAll_loc {s : Store} {l : Nat} {bs : List Bool} (h : s[l]? = some (.lst (bs.map D.bl))) : dAll [.loc l] s = some (.bl (bs.all id), s) := by simp [dAll, lstOf, h, blsOf_map]
theorem putD_get {κ : Type} [DecidableEq κ] (ks : List (κ × D)) (k : κ) (z : D) : getD (putD ks k z) k = some z := by
  unfold putD getD
  by_cases c : (ks.any fun kv => decide (kv.1 = k)) = true
  · rw [if_pos c]
    induction ks with
    | nil => simp at c
    | cons p ks ih =>
      by_cases q : p.1 = k
      · simp [q]
      · have c' : (ks.any fun kv => decide (kv.1 = k)) = true := by simpa [q] using c
        simpa [List.find?_cons, q] using ih c'
  · rw [if_neg c, List.find?_append]
    have n : ks.find? (fun kv => decide (kv.1 = k)) = none := List.find?_eq_none.mpr fun x hx h => c (List.any_eq_true.mpr ⟨x, hx, h⟩)
    rw [n]
    simp
theorem putD_other {κ : Type} [DecidableEq κ] {k k' : κ} (ne : k' ≠ k) (ks : List (κ × D)) (z : D) : getD (putD ks k z) k' = getD ks k' := by
  unfold putD getD
  by_cases c : (ks.any fun kv => decide (kv.1 = k)) = true
  · rw [if_pos c]
    clear c
    induction ks with
    | nil => rfl
    | cons p ks ih =>
      by_cases q : p.1 = k
      · have n : ¬ p.1 = k' := fun e => ne (e.symm.trans q)
        have n2 : ¬ k = k' := fun e => ne e.symm
        simpa [List.find?_cons, q, n, n2] using ih
      · by_cases q2 : p.1 = k'
        · simp [List.find?_cons, q, q2, ne]
        · simpa [List.find?_cons, q, q2] using ih
  · rw [if_neg c, List.find?_append]
    have n : ¬ k = k' := fun e => ne e.symm
    simp [n]
theorem putD_len {κ : Type} [DecidableEq κ] (ks : List (κ × D)) (k : κ) (z : D) : (putD ks k z).length ≤ ks.length + 1 := by
  unfold putD
  split <;> simp
end Mi
namespace Mi
open PySem PySem.Spec PyProof.Rows L2
/-! ### in, not in -/
theorem un65 {k : Nat} {A : Around} (r : Room k A) : A.units + 65 < cLine := by have := r.un; omega
def flatD : D → Bool
  | .non => true
  | .bl _ => true
  | .int _ => true
  | .str _ => true
  | _ => false
def eqD : D → D → Bool
  | .non, .non => true
  | .bl a, .bl b => a == b
  | .bl a, .int b => (if a then 1 else 0) == b
  | .int a, .bl b => a == (if b then 1 else 0)
  | .int a, .int b => a == b
  | .str a, .str b => a == b
  | _, _ => false
def inFlat (x : D) (xs : List D) : Option Bool := if flatD x = true ∧ xs.all flatD = true then some (xs.any fun z => eqD z x) else none
def inDeep (x y : D) (s : Store) : Option Bool := (py1 s x).bind fun a => (py1 s y).bind fun b => match b with
  | .list ds => if (SeqAt.shaped a && SeqAt.shaped (.list ds)) = true then some (ds.any fun z => PyData.eqv z a) else none
  | _ => none
/-- x in y -/
def dInB (x y : D) (s : Store) : Option Bool := match dicOf s y with
  | some (_, ks) => (keyOf x).map fun k => (getD ks k).isSome
  | none => match dctOf s y with
    | some (_, ks) => (keyT x).map fun k => (getD ks k).isSome
    | none => match y, x with
      | .str b, .str a => some (!(Builtin.Str.occurrences b a 0 b.length 1).isEmpty)
      | y, x => match (seqOf s y).bind (inFlat x) with
        | some c => some c
        | none => inDeep x y s
def dIn (x y : D) (s : Store) : Option (D × Store) := (dInB x y s).map fun b => (.bl b, s)
def dNotIn (x y : D) (s : Store) : Option (D × Store) := (dInB x y s).map fun b => (.bl !b, s)
def rDin : R2 := fun y x H Q => ∃ a o, x = .ref a ∧ DGet H a y o ∧ Q (.bl o.isSome) H
def rDnotin : R2 := fun y x H Q => ∃ a o, x = .ref a ∧ DGet H a y o ∧ Q (.bl (!o.isSome)) H
def rSin : R2 := fun x y H Q => ∃ i j, x = .str i ∧ y = .str j ∧ Q (.bl (!(Builtin.Str.occurrences j i 0 j.length 1).isEmpty)) H
def rSnotin : R2 := fun x y H Q => ∃ i j, x = .str i ∧ y = .str j ∧ Q (.bl (!(!(Builtin.Str.occurrences j i 0 j.length 1).isEmpty))) H
theorem op_din {X : Cx} (hu : X.A.units + 65 < cLine) : OpR X (compareOp .In) rDin := by
  intro pins s σ H x y v u Q I rx ry h
  obtain ⟨a, o, rfl, g, q⟩ := h
  cases ry
  exact d_in (by omega) I g rx fun s' I' => ⟨.bl o.isSome, H, I', rfl, q⟩
theorem op_dnotin {X : Cx} (hu : X.A.units + 65 < cLine) : OpR X (compareOp .NotIn) rDnotin := by
  intro pins s σ H x y v u Q I rx ry h
  obtain ⟨a, o, rfl, g, q⟩ := h
  cases ry
  exact d_notIn (by omega) I g rx fun s' I' => ⟨.bl (!o.isSome), H, I', rfl, q⟩
def rInA (K : PySem.W.Frag) : R2 := fun x y H Q => rIn K false x y H Q ∨ rDin x y H Q ∨ rSin x y H Q ∨ rInD K x y H Q
def rNotInA (K : PySem.W.Frag) : R2 := fun x y H Q => rIn K true x y H Q ∨ rDnotin x y H Q ∨ rSnotin x y H Q ∨ rNotInD K x y H Q
theorem opA_in {X : Cx} (hu : X.A.units + 65 < cLine) : OpR X (compareOp .In) (rInA X.K) := op_in_seq.or ((op_din hu).or (op_in_str.or (op_inD hu)))
theorem opA_notin {X : Cx} (hu : X.A.units + 65 < cLine) : OpR X (compareOp .NotIn) (rNotInA X.K) := op_notIn_seq.or ((op_dnotin hu).or (op_notin_str.or (op_notInD hu)))
section
variable {K : PySem.W.Frag} {m : List Addr} {H : Hp} {s : Store}
theorem flat_rep {d : D} {v : V} (p : Rep K m H d v) (h : flatD d = true) : flatV v = true := by
  cases p <;> first | rfl | cases h
theorem eqD_rep {d e : D} {v w : V} (p : Rep K m H d v) (q : Rep K m H e w) (h : flatD d = true) (h2 : flatD e = true) : eqV v w = eqD d e := by
  cases p <;> first | (cases h; done) | (cases q <;> first | (cases h2; done) | rfl)
theorem flat_reps : ∀ {xs : List D} {vs : List V}, Reps K m H xs vs → xs.all flatD = true → vs.all flatV = true
  | _, _, .nil, _ => rfl
  | _, _, .cons h r, e => by
    rw [List.all_cons, Bool.and_eq_true] at e
    rw [List.all_cons, Bool.and_eq_true]
    exact ⟨flat_rep h e.1, flat_reps r e.2⟩
theorem in_reps {x : D} {w : V} (p : Rep K m H x w) (hx : flatD x = true) : ∀ {xs : List D} {vs : List V}, Reps K m H xs vs → xs.all flatD = true → inV w vs = xs.any fun z => eqD z x
  | _, _, .nil, _ => rfl
  | _, _, .cons h r, e => by
    rw [List.all_cons, Bool.and_eq_true] at e
    rw [List.any_cons, ← in_reps p hx r e.2, ← eqD_rep h p e.1 hx]
    rfl
theorem repk_some {κ : Type} [DecidableEq κ] {k : κ} : ∀ {ks : List (κ × D)} {vs : List (κ × V)}, RepK K m H ks vs → (valV vs k).isSome = (getD ks k).isSome
  | _, _, .nil => rfl
  | (q, x) :: ks, (_, v) :: vs, .cons p r => by
    by_cases c : q = k
    · subst c
      rw [valV_pos rfl]
      simp [getD, List.find?_cons]
    · rw [valV_neg c, repk_some r]
      simp [getD, List.find?_cons, c]
theorem inB_cases (r : Rel K m H s) {dx dy : D} {x y : V} {b : Bool} (px : Rep K m H dx x) (py : Rep K m H dy y) (e : dInB dx dy s = some b) :
    (∃ p xs, y = .ref p ∧ (SqL K H p xs ∨ SqT K H p xs) ∧ flatV x = true ∧ xs.all flatV = true ∧ inV x xs = b) ∨ (∃ a o, y = .ref a ∧ DGet H a x o ∧ o.isSome = b) ∨
      (∃ i j, x = .str i ∧ y = .str j ∧ (!(Builtin.Str.occurrences j i 0 j.length 1).isEmpty) = b) ∨ ∃ d ds, Dp K H x d ∧ Dp K H y (.list ds) ∧ SeqAt.shaped d = true ∧ SeqAt.shaped (.list ds) = true ∧ (ds.any fun z => PyData.eqv z d) = b := by
  unfold dInB at e
  cases e0 : dicOf s dy with
  | some o =>
    obtain ⟨l, ks⟩ := o
    rw [e0] at e
    simp only at e
    cases e1 : keyOf dx with
    | none => rw [e1] at e; cases e
    | some k =>
      rw [e1] at e
      cases e
      obtain ⟨a, vs, _, rfl, _, h1, h2⟩ := dicOf_at r py e0
      rw [keyOf_rep px e1]
      exact .inr (.inl ⟨a, valV vs k, rfl, DGet.k h1, repk_some h2⟩)
  | none =>
    rw [e0] at e
    simp only at e
    cases e9 : dctOf s dy with
    | some o =>
      obtain ⟨l, ks⟩ := o
      rw [e9] at e
      simp only at e
      cases e1 : keyT dx with
      | none => rw [e1] at e; cases e
      | some k =>
        rw [e1] at e
        cases e
        obtain ⟨a, vs, _, rfl, _, h1, h2⟩ := dctOf_at r py e9
        obtain ⟨b, rfl, hb⟩ := keyT_rep px e1
        exact .inr (.inl ⟨a, valV vs k, rfl, DGet.t h1 hb, repk_some h2⟩)
    | none =>
     rw [e9] at e
     simp only at e
     split at e
     · cases px; cases py
       cases e
       exact .inr (.inr (.inl ⟨_, _, rfl, rfl, rfl⟩))
     · split at e
       · rename_i c hc
         cases e
         cases e2 : seqOf s dy with
         | none => rw [e2] at hc; cases hc
         | some xs =>
           rw [e2, Option.bind_some] at hc
           unfold inFlat at hc
           split at hc
           · rename_i hf
             cases hc
             obtain ⟨a, vs, rfl, h1, h2⟩ := seqOf_sq r py e2
             exact .inl ⟨a, vs, rfl, h1, flat_rep px hf.1, flat_reps h2 hf.2, in_reps px hf.1 h2 hf.2⟩
           · cases hc
       · unfold inDeep at e
         cases q1 : py1 s dx with
         | none => rw [q1] at e; cases e
         | some a =>
           cases q2 : py1 s dy with
           | none => rw [q1, q2] at e; cases e
           | some c =>
             rw [q1, q2] at e
             simp only [Option.bind_some] at e
             split at e
             · rename_i ds
               split at e
               · rename_i hs
                 rw [Bool.and_eq_true] at hs
                 cases e
                 exact .inr (.inr (.inr ⟨a, ds, py1_dp r px q1, py1_dp r py q2, hs.1, hs.2, rfl⟩))
               · cases e
             · cases e
theorem ops_in : OpS K (rInA K) dIn := by
  intro mg W σ m H s x y dx dy Q r px py g
  unfold dIn at g
  cases e : dInB dx dy s with
  | none => rw [e] at g; exact g.elim
  | some b =>
    rw [e] at g
    have q := g.now r (.bl b)
    rcases inB_cases r px py e with ⟨p, xs, h1, h2, h3, h4, h5⟩ | ⟨a, o, h1, h2, h3⟩ | ⟨i, j, h1, h2, h3⟩ | ⟨d, ds, h1, h2, h3, h4, h5⟩
    · exact .inl ⟨p, xs, h1, h2, h3, h4, by subst h5; exact q⟩
    · exact .inr (.inl ⟨a, o, h1, h2, by subst h3; exact q⟩)
    · exact .inr (.inr (.inl ⟨i, j, h1, h2, by subst h3; exact q⟩))
    · exact .inr (.inr (.inr ⟨d, ds, h1, h2, h3, h4, by subst h5; exact q⟩))
theorem ops_notin : OpS K (rNotInA K) dNotIn := by
  intro mg W σ m H s x y dx dy Q r px py g
  unfold dNotIn at g
  cases e : dInB dx dy s with
  | none => rw [e] at g; exact g.elim
  | some b =>
    rw [e] at g
    have q := g.now r (.bl (!b))
    rcases inB_cases r px py e with ⟨p, xs, h1, h2, h3, h4, h5⟩ | ⟨a, o, h1, h2, h3⟩ | ⟨i, j, h1, h2, h3⟩ | ⟨d, ds, h1, h2, h3, h4, h5⟩
    · exact .inl ⟨p, xs, h1, h2, h3, h4, by subst h5; exact q⟩
    · exact .inr (.inl ⟨a, o, h1, h2, by subst h3; exact q⟩)
    · exact .inr (.inr (.inl ⟨i, j, h1, h2, by subst h3; exact q⟩))
    · exact .inr (.inr (.inr ⟨d, ds, h1, h2, h3, h4, by subst h5; exact q⟩))
/-! ### str(i), str(z) -/
noncomputable instance (i : Int) : Decidable (i.natAbs.log2 < 1920) := Classical.propDecidable _
noncomputable def dStr : List D → Store → Option (D × Store)
  | [.int i], s => if i.natAbs.log2 < 1920 then some (.str (toString i), s) else none
  | [.str z], s => some (.str z, s)
  | _, _ => none
def rStr : List V → Hp → VK → Prop := fun xs H Q => (∃ i, xs = [.int i] ∧ i.natAbs.log2 < 1920 ∧ Q (.str (toString i)) H) ∨ ∃ a, xs = [.str a] ∧ Q (.str a) H
theorem call_strA {X : Cx} : CallR X (.type "str") rStr := call_str_int.or SkE.call_str_str
theorem fns_str : FnS K rStr dStr := by
  intro mg W σ m H s xs ds Q r p g
  unfold dStr at g
  split at g
  · rename_i i
    obtain ⟨v, rfl, h⟩ := reps1 p
    cases h
    split at g
    · rename_i hz
      exact .inl ⟨i, rfl, hz, g.now r (.str _)⟩
    · exact g.elim
  · rename_i z
    obtain ⟨v, rfl, h⟩ := reps1 p
    cases h
    exact .inr ⟨z, rfl, g.now r (.str _)⟩
  · exact g.elim
/-! ### xs.extend(ys), ys a list or a tuple -/
end
section
open PySem.AutoSeq1
theorem list_extend_tup (l : Addr) (items : Array Value) (n : Nat) (b : Addr) (items2 : Array Value) (n2 : Nat) (dd : Option Addr) (sl : Array (Option Value)) (hs0 : ¬(!items.isEmpty && Builtin.List.listTooLong (items.size + items2.size)) = true) (hs1 : items.size ≤ sizeLine) (hs2 : items.size + items2.size ≤ sizeLine + 1) :
    Meets (Builtin.«list.extend» ⟨[.ref l, .ref b], []⟩) (fun _ R s => s.heap.get? l = some { cls := .type "list", dict := none, data := .seq items n, slots := #[] } ∧ s.heap.get? b = some { cls := .type "tuple", dict := dd, data := .seq items2 n2, slots := sl } ∧ R (.ok (.ret Value.none)) { s with heap := s.heap.update l (Obj.mapSeq fun x => x ++ items2), toks := s.toks }) :=
  .of_wp fun prog w A R s h => by
    obtain ⟨hp, g, d, tk, os⟩ := s; obtain ⟨hl, hb, h⟩ := h; have f1 := PySem.AutoSeq1.idx_int; have f2 := PySem.AutoSeq1.sub_tuple_tuple; have f3 := PySem.AutoSeq1.sub_list_list; have f4 := PySem.AutoSeq1.sub_tuple_list; have f5 := PySem.AutoSeq1.sub_list_tuple;
    have hz' : (items ++ items2).size ≤ sizeLine + 1 := by rw [Array.size_append]; exact hs2
    wp_walk using (wpAny_updateSeq hl rfl (hz := hs1) (_hz' := hz')), wpAny_loadPart' hl, wpAny_loadPart' hb; exact ⟨_, rfl, h⟩
end
def rExtT (K : PySem.W.Frag) : V → List V → Hp → VK → Prop := fun x vs H Q => ∃ l b xs zs, x = .ref l ∧ vs = [.ref b] ∧ H l = some (.lst xs) ∧ SqT K H b zs ∧ xs.length + zs.length ≤ sizeLine ∧ Q .non (upd H l (.lst (xs ++ zs)))
theorem mt_extT {X : Cx} : MtR X "list.extend" (rExtT X.K) := by
  intro pins s σ H x vs v us Q I rx rv h
  obtain ⟨l, b, xs, zs, rfl, rfl, hH, hB, hz, q⟩ := h
  cases rx
  obtain ⟨u, rfl, ru⟩ := rv.one
  cases ru
  obtain ⟨z, its, n, r, hl, e⟩ := I.lstM hH
  obtain ⟨its2, r2, ⟨⟨cls, dd, data, sl⟩, e2, hc, n2, hd⟩, hl2⟩ := I.tuple hB
  simp only at hc hd
  subst hc hd
  have hl3 := r2.length
  have hsz : its.toArray.size + its2.toArray.size ≤ sizeLine := by rw [List.size_toArray, List.size_toArray]; omega
  have hlong : ¬ (!its.toArray.isEmpty && Builtin.List.listTooLong (its.toArray.size + its2.toArray.size)) = true := by
    rw [notLongL hsz, Bool.and_false]
    exact Bool.false_ne_true
  refine call_meets F.slot_list_extend ⟨_, e, rfl⟩ F.entry_list_extend (F.args_list_extend_2 _ _)
    (list_extend_tup l its.toArray n b its2.toArray n2 dd sl hlong (by rw [List.size_toArray]; omega) (by omega)) ⟨e, e2, ?_⟩
  refine ⟨.non, _, I.lset (its' := its ++ its2) hH e (by simp) (r.append r2) ?_, rfl, q⟩
  rw [List.length_append]
  omega
theorem MtR.or' {X : Cx} {id : String} {r r' : V → List V → Hp → VK → Prop} (h : MtR X id r) (h' : MtR X id r') : MtR X id (fun x vs H Q => r x vs H Q ∨ r' x vs H Q) := by
  intro pins s σ H x vs v us Q I rx rv q
  rcases q with q | q
  · exact h pins s σ H x vs v us Q I rx rv q
  · exact h' pins s σ H x vs v us Q I rx rv q
def rExtA (K : PySem.W.Frag) : V → List V → Hp → VK → Prop := fun x vs H Q => rExtend x vs H Q ∨ rExtT K x vs H Q
theorem mt_extA {X : Cx} : MtR X "list.extend" (rExtA X.K) := MtR.or' mt_extend mt_extT
noncomputable def dExtend (x : D) (ys : List D) (s : Store) : Option (D × Store) := match x, ys with
  | .loc l, [.loc k] => match s[l]?, s[k]? with
    | some (.lst xs), some (.lst zs) => if xs.length + zs.length ≤ sizeLine then some (.non, s.set l (.lst (xs ++ zs))) else none
    | _, _ => none
  | .loc l, [.tup zs] => match s[l]? with
    | some (.lst xs) => if xs.length + zs.length ≤ sizeLine then some (.non, s.set l (.lst (xs ++ zs))) else none
    | _ => none
  | _, _ => none
section
variable {K : PySem.W.Frag}
theorem mts_extend : MtS K (rExtA K) dExtend := by
  intro mg W σ m H s x d xs ds Q r p ps g
  unfold dExtend at g
  split at g
  · rename_i l k
    obtain ⟨w, rfl, h⟩ := reps1 ps
    cases p with
    | loc hl =>
      cases h with
      | loc hk =>
        split at g
        · rename_i ys zs q q2
          split at g
          · rename_i hz
            obtain ⟨vs, h1, h2⟩ := r.list hl q
            obtain ⟨ws, h3, h4⟩ := r.list hk q2
            obtain ⟨le, r2⟩ := le_setlist r hl (h2.append h4)
            exact .inl ⟨_, _, vs, ws, rfl, rfl, h1, h3, by rw [← h2.length, ← h4.length]; exact hz, g m _ _ le r2 .non⟩
          · exact g.elim
        · exact g.elim
  · rename_i l zs
    obtain ⟨w, rfl, h⟩ := reps1 ps
    cases p with
    | loc hl =>
      obtain ⟨a, ws, rfl, h3, h4⟩ := h.sqT
      split at g
      · rename_i ys q
        split at g
        · rename_i hz
          obtain ⟨vs, h1, h2⟩ := r.list hl q
          obtain ⟨le, r2⟩ := le_setlist r hl (h2.append h4)
          exact .inr ⟨_, _, vs, ws, rfl, rfl, h1, h3, by rw [← h2.length, ← h4.length]; exact hz, g m _ _ le r2 .non⟩
        · exact g.elim
      · exact g.elim
  · exact g.elim
/-! ### xs.pop(i), xs.insert(i, x) -/
noncomputable def dPopX (x : D) (ys : List D) (s : Store) : Option (D × Store) := match x, ys with
  | .loc l, [.int i] => match s[l]? with
    | some (.lst xs) => if -(2 ^ 63) ≤ i ∧ i < 2 ^ 63 then (seqIndex? i xs.length).bind fun k => (xs[k]?).map fun y => (y, s.set l (.lst (xs.eraseIdx k))) else none
    | _ => none
  | _, _ => none
theorem mts_popX : MtS K rPopAt dPopX := by
  intro mg W σ m H s x d xs ds Q r p ps g
  unfold dPopX at g
  split at g
  · rename_i l i
    obtain ⟨w, rfl, h⟩ := reps1 ps
    cases h
    cases p with
    | loc hl =>
      split at g
      · rename_i ys q
        split at g
        · rename_i hz
          cases q1 : seqIndex? i ys.length with
          | none => rw [q1] at g; exact g.elim
          | some k =>
            rw [q1, Option.bind_some] at g
            cases q2 : ys[k]? with
            | none => rw [q2] at g; exact g.elim
            | some y =>
              rw [q2] at g
              obtain ⟨vs, h1, h2⟩ := r.list hl q
              obtain ⟨v, hv, rv⟩ := h2.get q2
              obtain ⟨le, r2⟩ := le_setlist r hl (h2.erase k)
              exact ⟨_, vs, i, k, v, rfl, rfl, h1, hz.1, hz.2, by rw [← h2.length]; exact q1, hv, g m _ _ le r2 (rv.mono le)⟩
        · exact g.elim
      · exact g.elim
  · exact g.elim
def rIns : V → List V → Hp → VK → Prop := fun x vs H Q => ∃ (l : Addr) (xs : List V) (i : Int) (y : V), x = .ref l ∧ vs = [.int i, y] ∧ H l = some (.lst xs) ∧ xs.length < sizeLine ∧ 0 ≤ i ∧ i < 2 ^ 63 ∧
    Q .non (upd H l (.lst (xs.take i.toNat ++ [y] ++ xs.drop i.toNat)))
noncomputable def dInsert (x : D) (ys : List D) (s : Store) : Option (D × Store) := match x, ys with
  | .loc l, [.int i, y] => match s[l]? with
    | some (.lst xs) => if xs.length < sizeLine ∧ 0 ≤ i ∧ i < 2 ^ 63 then some (.non, s.set l (.lst (xs.take i.toNat ++ [y] ++ xs.drop i.toNat))) else none
    | _ => none
  | _, _ => none
theorem mts_insert : MtS K rIns dInsert := by
  intro mg W σ m H s x d xs ds Q r p ps g
  unfold dInsert at g
  split at g
  · rename_i l i y
    obtain ⟨w, w2, rfl, h, hy⟩ := reps2 ps
    cases h
    cases p with
    | loc hl =>
      split at g
      · rename_i ys q
        split at g
        · rename_i hz
          obtain ⟨vs, h1, h2⟩ := r.list hl q
          obtain ⟨le, r2⟩ := le_setlist r hl (((h2.take i.toNat).append (.cons hy .nil)).append (h2.drop i.toNat))
          exact ⟨_, vs, i, w2, rfl, rfl, h1, by rw [← h2.length]; exact hz.1, hz.2.1, hz.2.2, g m _ _ le r2 .non⟩
        · exact g.elim
      · exact g.elim
  · exact g.elim
/-! ### xs.index(x): items of a list -/
noncomputable def dIndex (x : D) (ys : List D) (s : Store) : Option (D × Store) := match ys with
  | [y] => (lstOf s x).bind fun xs => if flatD y = true ∧ xs.all flatD = true then (xs.findIdx? fun z => eqD z y).map fun j => (.int (j : Nat), s) else none
  | _ => none
theorem mts_index : MtS K (rIndex K) dIndex := by
  intro mg W σ m H s x d xs ds Q r p ps g
  unfold dIndex at g
  split at g
  · rename_i y
    obtain ⟨w, rfl, h⟩ := reps1 ps
    cases e : lstOf s d with
    | none => rw [e] at g; exact g.elim
    | some zs =>
      rw [e, Option.bind_some] at g
      split at g
      · rename_i hf
        cases q : zs.findIdx? fun z => eqD z y with
        | none => rw [q] at g; exact g.elim
        | some j =>
          rw [q] at g
          obtain ⟨a, vs, rfl, h1, h2⟩ := lstOf_sq r p e
          obtain ⟨hj, q1, q2⟩ := List.findIdx?_eq_some_iff_getElem.mp q
          have fl : ∀ i (hi : i < zs.length), flatD zs[i] = true := fun i hi => List.all_eq_true.mp hf.2 _ (List.getElem_mem hi)
          obtain ⟨v, hv, rv⟩ := h2.get (List.getElem?_eq_getElem hj)
          refine ⟨a, vs, w, j, v, rfl, rfl, h1, flat_rep h hf.1, flat_reps h2 hf.2, hv, by rw [eqD_rep rv h (fl j hj) hf.1]; exact q1, fun i z hi hz => ?_, g.now r (.int _)⟩
          have hi' : i < zs.length := by omega
          obtain ⟨v', hv', rv'⟩ := h2.get (List.getElem?_eq_getElem hi')
          rw [hz] at hv'
          cases hv'
          rw [eqD_rep rv' h (fl i hi') hf.1]
          simpa using q2 i hi
      · exact g.elim
  · exact g.elim
end
/-! ### equations for simp -/
theorem any_str (x : Str) (xs : List Str) : ((xs.map D.str).any fun z => eqD z (.str x)) = decide (x ∈ xs) := by
  rw [List.any_map, Bool.eq_iff_iff, List.any_eq_true, decide_eq_true_iff]
  exact ⟨fun ⟨z, h, e⟩ => by simp [eqD] at e; subst e; exact h, fun h => ⟨x, h, by simp [eqD]⟩⟩
theorem any_int (x : Int) (xs : List Int) : ((xs.map D.int).any fun z => eqD z (.int x)) = decide (x ∈ xs) := by
  rw [List.any_map, Bool.eq_iff_iff, List.any_eq_true, decide_eq_true_iff]
  exact ⟨fun ⟨z, h, e⟩ => by simp [eqD] at e; subst e; exact h, fun h => ⟨x, h, by simp [eqD]⟩⟩
theorem flat_str (xs : List Str) : (xs.map D.str).all flatD = true := by simp [flatD]
theorem flat_int (xs : List Int) : (xs.map D.int).all flatD = true := by simp [flatD]
theorem dInB_tupS (x : Str) (xs : List Str) (s : Store) : dInB (.str x) (.tup (xs.map D.str)) s = some (decide (x ∈ xs)) := by
  have e : inFlat (.str x) (xs.map D.str) = some (decide (x ∈ xs)) := by
    unfold inFlat
    rw [if_pos ⟨rfl, flat_str xs⟩, any_str]
  simp [dInB, dicOf, dctOf, seqOf, e]
theorem dInB_tupI (x : Int) (xs : List Int) (s : Store) : dInB (.int x) (.tup (xs.map D.int)) s = some (decide (x ∈ xs)) := by
  have e : inFlat (.int x) (xs.map D.int) = some (decide (x ∈ xs)) := by
    unfold inFlat
    rw [if_pos ⟨rfl, flat_int xs⟩, any_int]
  simp [dInB, dicOf, dctOf, seqOf, e]
theorem dInB_locS {l : Nat} {xs : List Str} {s : Store} (h : s[l]? = some (.lst (xs.map D.str))) (x : Str) : dInB (.str x) (.loc l) s = some (decide (x ∈ xs)) := by
  have e : inFlat (.str x) (xs.map D.str) = some (decide (x ∈ xs)) := by
    unfold inFlat
    rw [if_pos ⟨rfl, flat_str xs⟩, any_str]
  simp [dInB, dicOf, dctOf, seqOf, lstOf, h, e]
theorem dInB_locI {l : Nat} {xs : List Int} {s : Store} (h : s[l]? = some (.lst (xs.map D.int))) (x : Int) : dInB (.int x) (.loc l) s = some (decide (x ∈ xs)) := by
  have e : inFlat (.int x) (xs.map D.int) = some (decide (x ∈ xs)) := by
    unfold inFlat
    rw [if_pos ⟨rfl, flat_int xs⟩, any_int]
  simp [dInB, dicOf, dctOf, seqOf, lstOf, h, e]
theorem dInB_dct {s : Store} {l : Nat} {ks : List (List Key × D)} (h : s[l]? = some (.dct ks)) {x : D} {k : List Key} (hk : keyT x = some k) : dInB x (.loc l) s = some (getD ks k).isSome := by
  have e : dicOf s (.loc l) = none := by simp [dicOf, h]
  have e2 : dctOf s (.loc l) = some (l, ks) := by simp [dctOf, h]
  unfold dInB
  rw [e]
  simp only
  rw [e2]
  simp [hk]
theorem dInB_dic {s : Store} {l : Nat} {ks : List (Key × D)} (h : s[l]? = some (.dic ks)) {x : D} {k : Key} (hk : keyOf x = some k) : dInB x (.loc l) s = some (getD ks k).isSome := by
  have e : dicOf s (.loc l) = some (l, ks) := by simp [dicOf, h]
  unfold dInB
  rw [e]
  simp [hk]
theorem dIn_of {x y : D} {s : Store} {b : Bool} (h : dInB x y s = some b) : dIn x y s = some (.bl b, s) := by simp [dIn, h]
theorem dNotIn_of {x y : D} {s : Store} {b : Bool} (h : dInB x y s = some b) : dNotIn x y s = some (.bl !b, s) := by simp [dNotIn, h]
theorem dExtend_tup {s : Store} {l : Nat} {xs : List D} (h : s[l]? = some (.lst xs)) (zs : List D) (hz : xs.length + zs.length ≤ 1000000) : dExtend (.loc l) [.tup zs] s = some (.non, s.set l (.lst (xs ++ zs))) := by
  have q : xs.length + zs.length ≤ sizeLine := by rw [sizeLine_eq]; omega
  simp only [dExtend, h]
  rw [if_pos q]
/-! ### loops by place -/
theorem forL_at {gd : Store → Prop} {g : D → Sl → Option Sl} {b : MS} (xs : List D) (I : Nat → Sl → Store → Prop) (Q : RS → Prop) (hg : ∀ i env s, I i env s → gd s)
    (hs : ∀ i d env s, xs[i]? = some d → I i env s → Turns (I (i + 1)) Q (turn g b d env s)) (he : ∀ env s, I xs.length env s → Q (.nx env s)) {env : Sl} {s : Store} (h : I 0 env s) : Q (forL gd g b xs env s) := by
  refine forL_rule (fun ys env s => ∃ i, i ≤ xs.length ∧ ys = xs.drop i ∧ I i env s) Q (fun ys env s ⟨i, hi, _, q⟩ => hg i env s q) (fun x ys env s ⟨i, hi, e, q⟩ => ?_) (fun env s ⟨i, hi, e, q⟩ => ?_) ⟨0, Nat.zero_le _, rfl, h⟩
  · have hx : xs[i]? = some x := by
      have := congrArg (fun l : List D => l[0]?) e
      simpa using this.symm
    have hy : ys = xs.drop (i + 1) := by
      have := congrArg List.tail e
      simpa [List.tail_drop] using this
    have hlt := (List.getElem?_eq_some_iff.mp hx).1
    have t1 := hs i x env s hx q
    cases hb : turn g b x env s with
    | nx env2 s2 => rw [hb] at t1; exact ⟨i + 1, hlt, hy, t1⟩
    | ct env2 s2 => rw [hb] at t1; exact ⟨i + 1, hlt, hy, t1⟩
    | bk env2 s2 => rw [hb] at t1; exact t1
    | rt d s2 => rw [hb] at t1; exact t1
    | ex x env2 s2 => rw [hb] at t1; exact t1
    | no => rw [hb] at t1; exact t1
  · have : i = xs.length := by
      have := congrArg List.length e
      simp at this
      omega
    subst this
    exact he env s q
theorem forL_atT {gd : Store → Prop} {g : D → Sl → Option Sl} {b : MS} (xs : List D) (I : Nat → Sl → Store → Prop) (hg : ∀ i env s, I i env s → gd s)
    (hs : ∀ i d env s, xs[i]? = some d → I i env s → Turns (I (i + 1)) (fun _ => False) (turn g b d env s)) {env : Sl} {s : Store} (h : I 0 env s) : ∃ env' s', forL gd g b xs env s = .nx env' s' ∧ I xs.length env' s' :=
  forL_at xs I (fun r => ∃ env' s', r = .nx env' s' ∧ I xs.length env' s') hg (fun i d env s hi h => by
    have z := hs i d env s hi h
    cases q : turn g b d env s with
    | nx env2 s2 => rw [q] at z; exact z
    | ct env2 s2 => rw [q] at z; exact z
    | bk env2 s2 => rw [q] at z; exact z.elim
    | rt d s2 => rw [q] at z; exact z.elim
    | ex e env2 s2 => rw [q] at z; exact z.elim
    | no => rw [q] at z; exact z.elim) (fun env s h => ⟨env, s, rfl, h⟩) h
/-- a loop of yes-no turns: it goes on, or it returns -/
theorem forL_find {gd : Store → Prop} {g : D → Sl → Option Sl} {b : MS} (xs : List D) (I : Nat → Sl → Store → Prop) (ok : Nat → Bool) (out : Nat → D) (hg : ∀ i env s, I i env s → gd s)
    (hs : ∀ i d env s, xs[i]? = some d → I i env s → if ok i = true then Turns (I (i + 1)) (fun _ => False) (turn g b d env s) else ∃ s', turn g b d env s = .rt (out i) s' ∧ ∃ env', I i env' s') {env : Sl} {s : Store} (h : I 0 env s) :
    match (List.range xs.length).find? (fun i => !ok i) with
    | none => ∃ env' s', forL gd g b xs env s = .nx env' s' ∧ I xs.length env' s'
    | some i => ∃ s' env', forL gd g b xs env s = .rt (out i) s' ∧ I i env' s' := by
  have key : ∀ n, n ≤ xs.length → (∀ j, j < n → ok j = true) → ∀ env s, I n env s → match (List.range' n (xs.length - n)).find? (fun i => !ok i) with
      | none => ∃ env' s', forL gd g b (xs.drop n) env s = .nx env' s' ∧ I xs.length env' s'
      | some i => ∃ s' env', forL gd g b (xs.drop n) env s = .rt (out i) s' ∧ I i env' s' := by
    intro n
    induction hk : xs.length - n generalizing n with
    | zero =>
      intro hn _ env s hI
      have : n = xs.length := by omega
      subst this
      simp
      rw [forL_nil env s gd (hg _ _ _ hI)]
      exact ⟨_, _, rfl, hI⟩
    | succ k ih =>
      intro hn hall env s hI
      have hlt : n < xs.length := by omega
      rw [List.drop_eq_getElem_cons hlt, forL_cons env s gd (hg _ _ _ hI), List.range'_succ]
      have z := hs n xs[n] env s (by simp [hlt]) hI
      unfold turn at z
      by_cases c : ok n = true
      · rw [if_pos c] at z
        simp only [List.find?_cons, c, Bool.not_true]
        cases e1 : g xs[n] env with
        | none => rw [e1] at z; exact z.elim
        | some env1 =>
          rw [e1] at z
          dsimp only at z ⊢
          have hall' : ∀ j, j < n + 1 → ok j = true := fun j hj => by
            rcases Nat.lt_or_ge j n with w | w
            · exact hall j w
            · have : j = n := by omega
              rw [this]; exact c
          cases q : b env1 s with
          | nx env2 s2 => rw [q] at z; exact ih (n + 1) (by omega) hlt hall' env2 s2 z
          | ct env2 s2 => rw [q] at z; exact ih (n + 1) (by omega) hlt hall' env2 s2 z
          | bk env2 s2 => rw [q] at z; exact z.elim
          | rt d s2 => rw [q] at z; exact z.elim
          | ex e env2 s2 => rw [q] at z; exact z.elim
          | no => rw [q] at z; exact z.elim
      · rw [if_neg c] at z
        obtain ⟨s', h1, env', h2⟩ := z
        have c' : ok n = false := by simpa using c
        simp only [List.find?_cons, c', Bool.not_false]
        cases e1 : g xs[n] env with
        | none => rw [e1] at h1; cases h1
        | some env1 =>
          rw [e1] at h1
          dsimp only at h1 ⊢
          rw [h1]
          exact ⟨s', env', rfl, h2⟩
  have := key 0 (Nat.zero_le _) (fun j hj => absurd hj (Nat.not_lt_zero j)) env s h
  rw [Nat.sub_zero, ← List.range_eq_range', List.drop_zero] at this
  exact this
/-- range(i, j) -/
def rng2 (lo : Int) (n : Nat) : List D := (List.range n).map fun k => .int (lo + (k : Nat))
theorem rng2_get {lo : Int} {n i : Nat} {d : D} (h : (rng2 lo n)[i]? = some d) : i < n ∧ d = .int (lo + (i : Nat)) := by
  unfold rng2 at h
  rw [List.getElem?_map] at h
  cases e : (List.range n)[i]? with
  | none => rw [e] at h; cases h
  | some k =>
    rw [e] at h
    cases h
    obtain ⟨hl, he⟩ := List.getElem?_eq_some_iff.mp e
    simp at hl he
    exact ⟨hl, by rw [he]⟩
theorem rng2_len (lo : Int) (n : Nat) : (rng2 lo n).length = n := by simp [rng2]
theorem range2_int (i j : Int) (s : Store) (h0 : 0 ≤ i) (h1 : i ≤ 1000000000) (h2 : 0 ≤ j) (h3 : j ≤ 1000000000) : rangeOf2 [.int i, .int j] s = .ok (Itm.mk (rng2 i (j - i).toNat) always) s := rangeOf2_int s i j h0 h1 h2 h3
theorem rng_get {n i : Nat} {d : D} (h : (rng n)[i]? = some d) : i < n ∧ d = .int (i : Nat) := by
  obtain ⟨a, b⟩ := rng2_get (lo := 0) (n := n) h
  exact ⟨a, by rw [b, Int.zero_add]⟩
theorem rng_len (n : Nat) : (rng n).length = n := by simp [rng]
theorem map_get {α : Type} {f : α → D} {xs : List α} {i : Nat} {d : D} (h : (xs.map f)[i]? = some d) : ∃ x, xs[i]? = some x ∧ d = f x := by
  rw [List.getElem?_map] at h
  cases e : xs[i]? with
  | none => rw [e] at h; cases h
  | some x => rw [e] at h; cases h; exact ⟨x, rfl, rfl⟩
/-- a loop that looks for one that fails, and returns r there -/
theorem forL_all {α : Type} {gd : Store → Prop} {g : D → Sl → Option Sl} {b : MS} (f : α → D) (as : List α) (I : Sl → Prop) (s : Store) (ok : α → Bool) (r : D) (hg : gd s)
    (hs : ∀ a ∈ as, ∀ env, I env → if ok a = true then ∃ env', turn g b (f a) env s = .nx env' s ∧ I env' else turn g b (f a) env s = .rt r s) {env : Sl} (h : I env) :
    if as.all ok = true then ∃ env', forL gd g b (as.map f) env s = .nx env' s ∧ I env' else forL gd g b (as.map f) env s = .rt r s := by
  induction as generalizing env with
  | nil =>
    rw [List.map_nil, forL_nil env s gd hg]
    exact ⟨_, rfl, h⟩
  | cons a as ih =>
    rw [List.map_cons, forL_cons env s gd hg]
    have z := hs a (List.mem_cons_self ..) env h
    unfold turn at z
    by_cases c : ok a = true
    · rw [if_pos c] at z
      obtain ⟨env', z1, z2⟩ := z
      have q := ih (fun a' ha' => hs a' (List.mem_cons_of_mem _ ha')) z2
      cases e1 : g (f a) env with
      | none => rw [e1] at z1; cases z1
      | some env1 =>
        rw [e1] at z1
        dsimp only at z1 ⊢
        rw [z1]
        simpa [c] using q
    · rw [if_neg c] at z
      have c' : ok a = false := by simpa using c
      cases e1 : g (f a) env with
      | none => rw [e1] at z; cases z
      | some env1 =>
        rw [e1] at z
        dsimp only at z ⊢
        rw [z]
        simp [c']
theorem app_new (s : Store) (xs : List D) (y : D) (h : xs.length ≤ 1000000) : dAppend (.loc s.length) [y] (s ++ [.lst xs]) = some (.non, s ++ [.lst (xs ++ [y])]) := by
  have q := dAppend_loc (get_new s (.lst xs)) h y
  rw [q]
  simp
theorem ty_new (s : Store) (xs : List D) : tyOk "list" (s ++ [.lst xs]) (.loc s.length) = true := tyOk_list (get_new s (.lst xs))
theorem tyN_isi {s : Store} {d : D} {t : String} (h : tyN s d = some t) (T : String) : dIsi T d s = (kitB t T).map fun b => (.bl b, s) := by simp [h]
end Mi
namespace Mi
open PySem PySem.Spec PyProof.Rows L2
/-! ### more rules for mirrors -/
theorem tryAs_ex {i : Nat} {cs : List Str} {body : MS} {suite : Nat × Nat → MS} {env env2 : Sl} {s s2 : Store} {e : Ex} {r : RS} (h : body env s = .ex e env2 s2) (h1 : e.cls ∈ cs) (h2 : e.fs ≠ [])
    (h3 : ∀ g : Nat × Nat, clr i (suite g (env2.set i (some (.exv g.1 g.2 e.cls e.fs))) s2) = r) : sTryAs i cs body suite env s = r := by
  unfold sTryAs
  rw [h]
  simp only
  rw [if_pos ⟨h1, h2, fun g => by rw [h3 g]; exact (h3 (0, 0)).symm⟩]
  exact h3 (0, 0)
/-- what stood before stands, and something new behind it -/
def Ext (s s' : Store) : Prop := ∃ r, s' = s ++ r
theorem Ext.refl (s : Store) : Ext s s := ⟨[], by simp⟩
theorem Ext.mk (s r : Store) : Ext s (s ++ r) := ⟨r, rfl⟩
theorem Ext.trans {a b c : Store} (h : Ext a b) (k : Ext b c) : Ext a c := by
  obtain ⟨r, rfl⟩ := h
  obtain ⟨t, rfl⟩ := k
  exact ⟨r ++ t, by simp⟩
theorem Ext.get {a b : Store} (h : Ext a b) {l : Nat} {c : Cell} (e : a[l]? = some c) : b[l]? = some c := by
  obtain ⟨r, rfl⟩ := h
  rw [List.getElem?_append_left (lt_of_get e)]
  exact e
theorem Ext.le {a b : Store} (h : Ext a b) : a.length ≤ b.length := by
  obtain ⟨r, rfl⟩ := h
  simp
/-- an item of a tuple or a list, by place -/
theorem ix_map {α : Type} {f : α → D} {xs : List α} {i : Int} (h0 : 0 ≤ i) (h1 : i < xs.length) : ∃ a, a ∈ xs ∧ xs[i.toNat]? = some a ∧ ∀ s, dIx (.tup (xs.map f)) (.int i) s = some (f a, s) := by
  obtain ⟨n, rfl⟩ := Int.eq_ofNat_of_zero_le h0
  have hn : n < xs.length := by omega
  refine ⟨xs[n], List.getElem_mem _, by simp [hn], fun s => ?_⟩
  rw [dIx_tup, atI_ofNat _ _ (f xs[n]) (by simp [hn])]
  rfl
theorem ixL_map {α : Type} {f : α → D} {xs : List α} {s : Store} {l : Nat} (h : s[l]? = some (.lst (xs.map f))) {i : Int} (h0 : 0 ≤ i) (h1 : i < xs.length) : ∃ a, a ∈ xs ∧ xs[i.toNat]? = some a ∧ dIx (.loc l) (.int i) s = some (f a, s) := by
  obtain ⟨n, rfl⟩ := Int.eq_ofNat_of_zero_le h0
  have hn : n < xs.length := by omega
  refine ⟨xs[n], List.getElem_mem _, by simp [hn], ?_⟩
  rw [dIx_loc h, L2.atI_nat (v := f xs[n]) (by simp [hn])]
  rfl
theorem ix_mem {xs : List D} {i : Int} (h0 : 0 ≤ i) (h1 : i < xs.length) : ∃ a, a ∈ xs ∧ ∀ s, dIx (.tup xs) (.int i) s = some (a, s) := by
  obtain ⟨n, rfl⟩ := Int.eq_ofNat_of_zero_le h0
  have hn : n < xs.length := by omega
  refine ⟨xs[n], List.getElem_mem _, fun s => ?_⟩
  rw [dIx_tup, atI_ofNat _ _ xs[n] (by simp [hn])]
  rfl
theorem ixL_mem {xs : List D} {s : Store} {l : Nat} (h : s[l]? = some (.lst xs)) {i : Int} (h0 : 0 ≤ i) (h1 : i < xs.length) : ∃ a, a ∈ xs ∧ dIx (.loc l) (.int i) s = some (a, s) := by
  obtain ⟨n, rfl⟩ := Int.eq_ofNat_of_zero_le h0
  have hn : n < xs.length := by omega
  refine ⟨xs[n], List.getElem_mem _, ?_⟩
  rw [dIx_loc h, L2.atI_nat (v := xs[n]) (by simp [hn])]
  rfl
theorem dAdd_s {a b : Str} (h : a.length + b.length ≤ 1000000) (s : Store) : dAdd (.str a) (.str b) s = some (.str (a ++ b), s) := by
  have q := le_line h
  simp only [dAdd, q, if_true]
theorem cutS1 (ws : List Str) {k : Nat} (h : k ≤ ws.length) : cutD (ws.map D.str) none (some (k : Int)) = (ws.take k).map D.str := by
  unfold cutD
  rw [HT.sIx_none, HT.sIx_nat]
  simp [Nat.min_eq_left h]
theorem cutS2 (ws : List Str) {k : Nat} (h : k + 1 ≤ ws.length) : cutD (ws.map D.str) (some ((k : Int) + 1)) none = (ws.drop (k + 1)).map D.str := by
  unfold cutD
  rw [HT.sIx_none, show ((k : Int) + 1) = ((k + 1 : Nat) : Int) by omega, HT.sIx_nat, List.length_map, Nat.min_eq_left h, ← List.map_drop]
  rw [List.take_of_length_le (by simp)]
theorem sort_strs (A : List Str) : sortOk (A.map D.str) ∧ ∃ M : List Str, sortD (A.map D.str) = M.map D.str ∧ M.length = A.length ∧ M.Perm A := by
  refine ⟨⟨fun d hd => ?_, ?_, ?_⟩, A.mergeSort fun x y => PySem.W.dataLe false pyD (D.str x) (D.str y), ?_, List.length_mergeSort _, List.mergeSort_perm _ _⟩
  · obtain ⟨x, _, rfl⟩ := List.mem_map.mp hd
    exact ⟨rfl, by show PyData.depth (.str x) ≤ 60; simp [PyData.depth]⟩
  · rw [List.map_map]
    exact PySem.W.AllAlike.of (enc := fun x => pyD (D.str x)) fun x y => by show PySem.W.alike (.str x) (.str y) = true; simp [PySem.W.alike]
  · rw [List.map_map]
    exact PySem.W.Sortable.others (enc := fun x => pyD (D.str x)) fun x => ⟨by show PyData.str x ≠ .none; simp, fun xs => by show PyData.str x ≠ .tuple xs; simp⟩
  · unfold sortD
    rw [List.map_mergeSort (r := fun x y : Str => PySem.W.dataLe false pyD (D.str x) (D.str y)) (s := PySem.W.dataLe false pyD) fun _ _ _ _ => rfl]
/-- a comprehension by place -/
theorem lcL_at {gd : Store → Prop} {g : D → Sl → Option Sl} {t : ME Bool} {e : ME D} {env : Sl} (xs : List D) (I : Nat → List D → Store → Prop) (hg : ∀ i acc s, I i acc s → gd s)
    (hs : ∀ i d acc s, xs[i]? = some d → I i acc s → Kept (I (i + 1)) acc (pick g t e d env s)) {acc : List D} {s : Store} (h : I 0 acc s) : ∃ acc' s', lcL gd g t e env xs acc s = .ok acc' s' ∧ I xs.length acc' s' := by
  obtain ⟨acc', s', h1, i, hi, e, h2⟩ := lcL_thru (gd := gd) (g := g) (t := t) (e := e) (env := env) (fun ys acc s => ∃ i, i ≤ xs.length ∧ ys = xs.drop i ∧ I i acc s) (fun _ acc s ⟨i, hi, _, q⟩ => hg i acc s q) (fun x ys acc s ⟨i, hi, e, q⟩ => by
    have hx : xs[i]? = some x := by
      have := congrArg (fun l : List D => l[0]?) e
      simpa using this.symm
    have hy : ys = xs.drop (i + 1) := by
      have := congrArg List.tail e
      simpa [List.tail_drop] using this
    have hlt := (List.getElem?_eq_some_iff.mp hx).1
    have z := hs i x acc s hx q
    cases hp : pick g t _ x env s with
    | no => rw [hp] at z; exact z
    | ex x s => rw [hp] at z; exact z
    | ok o s2 =>
      rw [hp] at z
      cases o with
      | none => exact ⟨i + 1, hlt, hy, z⟩
      | some y => exact ⟨z.1, i + 1, hlt, hy, z.2⟩) (xs := xs) ⟨0, Nat.zero_le _, rfl, h⟩
  have : i = xs.length := by
    have := congrArg List.length e
    simp at this
    omega
  subst this
  exact ⟨acc', s', h1, h2⟩
/-! ### statement by statement -/
section
variable {P : RS → Prop} {i : Nat} {a : ME D} {t : ME Bool} {f g r : MS} {env env2 : Sl} {s s' s2 : Store} {d : D}
theorem st_set (h : a env s = .ok d s') (k : P (r (env.set i (some d)) s')) : P (sSeq (sSet i a) r env s) := by
  show P (RS.bind ((a env s).then env fun d s => .nx (env.set i (some d)) s) r)
  rw [h]
  exact k
theorem st_no (h : t env s = .ok false s') (k : P (r env s')) : P (sSeq (sIf t f sNil) r env s) := by
  show P (RS.bind ((t env s).then env fun b s => if b then f env s else sNil env s) r)
  rw [h]
  exact k
theorem st_else (h : t env s = .ok false s') (h2 : g env s' = .nx env2 s2) (k : P (r env2 s2)) : P (sSeq (sIf t f g) r env s) := by
  show P (RS.bind ((t env s).then env fun b s => if b then f env s else g env s) r)
  rw [h]
  show P (RS.bind (g env s') r)
  rw [h2]
  exact k
theorem st_yes (h : t env s = .ok true s') (h2 : f env s' = .nx env2 s2) (k : P (r env2 s2)) : P (sSeq (sIf t f g) r env s) := by
  show P (RS.bind ((t env s).then env fun b s => if b then f env s else g env s) r)
  rw [h]
  show P (RS.bind (f env s') r)
  rw [h2]
  exact k
theorem st_out (h : t env s = .ok true s') (h2 : f env s' = .rt d s2) (k : P (.rt d s2)) : P (sSeq (sIf t f g) r env s) := by
  show P (RS.bind ((t env s).then env fun b s => if b then f env s else g env s) r)
  rw [h]
  show P (RS.bind (f env s') r)
  rw [h2]
  exact k
theorem st_for {it : ME Itm} {x : Itm} {gt : D → Sl → Option Sl} {b : MS} (h : it env s = .ok x s') (h2 : forL x.guard gt b x.xs env s' = .nx env2 s2) (k : P (r env2 s2)) : P (sSeq (sFor it gt b) r env s) := by
  show P (RS.bind ((it env s).then env fun i s => forL i.guard gt b i.xs env s) r)
  rw [h]
  show P (RS.bind (forL x.guard gt b x.xs env s') r)
  rw [h2]
  exact k
theorem st_expr (h : a env s = .ok d s') (k : P (r env s')) : P (sSeq (sExpr a) r env s) := by
  show P (RS.bind ((a env s).then env fun _ s => .nx env s) r)
  rw [h]
  exact k
theorem st_ret (h : a env s = .ok d s') (k : P (.rt d s')) : P (sRet a env s) := by
  show P ((a env s).then env fun d s => .rt d s)
  rw [h]
  exact k
/-- it returns True -/
def Yes (r : RS) : Prop := ∃ s, r = .rt (.bl true) s
theorem Yes.fn {N n : Nat} {b : MS} {ds : List D} {s : Store} (h : Yes (b (ds.map some ++ List.replicate (N - n) none) s)) : ∃ s', fnM N n b ds s = .ok (.bl true) s' := by
  obtain ⟨s', e⟩ := h
  exact ⟨s', by rw [fnM_eq, e]⟩
end
end Mi
namespace Mi
open PySem PySem.Spec PyProof.Rows L2
/-! ### dict comprehensions -/
section
variable {K : PySem.W.Frag} {mg : Str → Option Value} {m m1 m2 : List Addr} {H H1 H2 : Hp} {s : Store} {p : Addr}
theorem lw_sideD {vs ws : List (Key × V)} (h : H p = some (.dK vs)) : Lw K m H m (upd H p (HO.dK ws)) :=
  ⟨⟨[], by simp⟩, fun b xs q => by
    rcases q with (q | ⟨ob, q⟩) | q
    · exact .inl (.inl (by rw [upd_ne (fun z => by subst z; rw [h] at q; cases q)]; exact q))
    · exact .inl (.inr ⟨ob, by rw [upd_ne (fun z => by subst z; rw [h] at q; cases q)]; exact q⟩)
    · exact .inr q, fun b xs q => by
    rcases q with ⟨ob, q⟩ | q
    · exact .inl ⟨ob, by rw [upd_ne (fun z => by subst z; rw [h] at q; cases q)]; exact q⟩
    · exact .inr q, fun b vfs q n => ⟨by rw [upd_ne (fun z => by subst z; rw [h] at q; cases q)]; exact q, n⟩, fun b xs q => by rw [upd_ne (fun z => by subst z; rw [h] at q; cases q)]; exact q⟩
theorem Rel.sideD (r : Rel K m H s) {vs ws : List (Key × V)} (h : H p = some (.dK vs)) (n : p ∉ m) : Rel K m (upd H p (HO.dK ws)) s :=
  ⟨r.len, r.nd, fun l a c h1 h2 => (r.at_ l a c h1 h2).monoW (lw_sideD h) (upd_ne fun z => by subst z; exact n (List.mem_of_getElem? h1))⟩
theorem Le.sideD (e : Le K m H m1 H1) {vs ws : List (Key × V)} (h0 : H p = none) (h : H1 p = some (.dK vs)) : Le K m H m1 (upd H1 p (HO.dK ws)) :=
  ⟨e.pre, fun a xs q => (lw_sideD (m := m1) h).tup a xs (e.tup a xs q), fun a xs q => (lw_sideD (m := m1) h).frl a xs (e.frl a xs q), fun b o q n => by
    rw [upd_ne (fun z => by subst z; rw [h0] at q; cases q)]; exact e.fr b o q n, e.nw, fun a xs q => (lw_sideD (K := K) (m := m1) h).trk a xs (e.trk a xs q)⟩
theorem lw_adoptD {vs : List (Key × V)} (h : H p = some (.dK vs)) : Lw K m H (m ++ [p]) H := ⟨⟨[p], rfl⟩, fun _ _ q => q, fun _ _ q => q, fun b vfs q n => ⟨q, fun z => by
    rcases List.mem_append.mp z with z | z
    · exact n z
    · rw [List.mem_singleton.mp z, h] at q; cases q⟩, fun _ _ q => q⟩
theorem Rel.adoptD (r : Rel K m H s) {xs : List (Key × D)} {vs : List (Key × V)} (n : p ∉ m) (h : H p = some (.dK vs)) (q : RepK K m H xs vs) : Rel K (m ++ [p]) H (s ++ [Cell.dic xs]) := by
  refine ⟨by simp [r.len], ?_, fun j b d h1 h2 => ?_⟩
  · rw [List.nodup_append]
    exact ⟨r.nd, by simp, fun x hx y hy => by rw [List.mem_singleton.mp hy]; exact fun z => n (z ▸ hx)⟩
  · rcases Nat.lt_or_ge j m.length with w | w
    · rw [List.getElem?_append_left w] at h1
      rw [List.getElem?_append_left (by rw [← r.len]; exact w)] at h2
      exact (r.at_ j b d h1 h2).monoW (lw_adoptD h) rfl
    · rw [List.getElem?_append_right w] at h1
      rw [List.getElem?_append_right (by rw [← r.len]; exact w), ← r.len] at h2
      cases hk : j - m.length with
      | zero =>
        rw [hk] at h1 h2
        simp at h1 h2
        subst h1; subst h2
        exact ⟨vs, h, q.monoW (lw_adoptD h)⟩
      | succ n => rw [hk] at h1; simp at h1
end
open Classical in
noncomputable def dcL (guard : Store → Prop) (g : D → Sl → Option Sl) (t : ME Bool) (ek ev : ME D) (env : Sl) : List D → List (Key × D) → Store → R (List (Key × D))
  | [], acc, s => if guard s then .ok acc s else .no
  | x :: xs, acc, s => if guard s then (match g x env with
    | none => .no
    | some env1 => match t env1 s with
      | .ok b s1 => if b then (match ek env1 s1 with
        | .ok y s2 => match ev env1 s2 with
          | .ok z s3 => match keyOf y with
            | some k => if acc.length < sizeLine then dcL guard g t ek ev env xs (putD acc k z) s3 else .no
            | none => .no
          | _ => .no
        | _ => .no) else dcL guard g t ek ev env xs acc s1
      | _ => .no) else .no
/-- {k: v for target in iter if ..} -/
noncomputable def eDc (it : ME Itm) (vs : List Nat) (g : D → Sl → Option Sl) (t : ME Bool) (ek ev : ME D) : ME D := fun env s => (it env s).bind fun i s => (dcL i.guard g t ek ev (wipeE env vs) i.xs [] s).bind fun acc s => .ok (.loc s.length) (s ++ [.dic acc])
section
variable {X : Cx} {W : WX}
theorem dc_run {fi : ME Itm} {vs : List Nat} {gt : D → Sl → Option Sl} {ft : ME Bool} {fk fv : ME D} : ∀ σ H Q, Te X.K X.mg W (eDc fi vs gt ft fk fv) σ H Q →
    tDc (Ti X.K X.mg W fi) (GTm X.K vs gt) (Tt X.K X.mg WF ft) (Te X.K X.mg WF fk) (Te X.K X.mg WF fv) vs σ H Q := fun σ H Q h =>
  Tm.bind (k := fun env (i : Itm) s => (dcL i.guard gt ft fk fv (wipeE env vs) i.xs [] s).bind fun acc s => R.ok (D.loc s.length) (s ++ [Cell.dic acc])) h fun m1 H1 env it J s1 r1 E1 p1 g1 => by
    intro P hP
    refine ⟨fun i k H => k = it.xs.length - i ∧ i ≤ it.xs.length ∧ ∃ m2 s2 acc accV, Le X.K m1 H1 m2 H ∧ Rel X.K m2 H s2 ∧ H P = some (.dK accV) ∧ P ∉ m2 ∧ RepK X.K m2 H acc accV ∧
        G X.K X.mg (Rep X.K) W σ m1 H1 Q ((dcL it.guard gt ft fk fv (wipeE env vs) (it.xs.drop i) acc s2).bind fun acc s => R.ok (D.loc s.length) (s ++ [Cell.dic acc])),
      ⟨it.xs.length, by simp, Nat.zero_le _, m1, s1, [], [], le_new hP, r1.tmp hP, upd_same, r1.new_notin hP, .nil, g1⟩, ?_⟩
    rintro i k H2 ⟨rfl, hi, m2, s2, acc, accV, l2, r2, hD, nD, pA, g2⟩
    by_cases hlt : i < it.xs.length
    · have hx : it.xs[i]? = some it.xs[i] := by simp [hlt]
      have hd : it.xs.drop i = it.xs[i] :: it.xs.drop (i + 1) := List.drop_eq_getElem_cons hlt
      rw [hd] at g2
      unfold dcL at g2
      by_cases hgd : it.guard s2
      · simp only [hgd, if_true] at g2
        obtain ⟨hall, _⟩ := p1 m2 H2 s2 l2 r2 hgd
        obtain ⟨hgo, hy⟩ := hall i _ hx
        refine .inr ⟨hgo, fun H' => ∃ m2 s2 acc accV, Le X.K m1 H1 m2 H' ∧ Rel X.K m2 H' s2 ∧ H' P = some (.dK accV) ∧ P ∉ m2 ∧ RepK X.K m2 H' acc accV ∧
          G X.K X.mg (Rep X.K) W σ m1 H1 Q ((dcL it.guard gt ft fk fv (wipeE env vs) (it.xs.drop (i + 1)) acc s2).bind fun acc s => R.ok (D.loc s.length) (s ++ [Cell.dic acc])),
          fun H' q => ⟨it.xs.length - (i + 1), by omega, rfl, hlt, q⟩, fun v H3 y => ?_⟩
        obtain ⟨l3, r3, p3⟩ := hy v H3 y
        cases q : gt it.xs[i] (wipeE env vs) with
        | none => simp only [q] at g2; exact g2.elim
        | some env3 =>
          simp only [q] at g2
          have l13 := l2.trans l3
          have hD3 := l3.fr P _ hD nD
          refine ⟨m2, wipeE env vs, s2, it.xs[i], env3, r3, relE_wipe (E1.mono l13) vs, p3, q, fun σ4 E4 k4 n4 => ⟨by rw [wipe_congr n4 k4, wipe_wipe], m2, env3, s2, r3, E4, ?_⟩⟩
          cases ht : ft env3 s2 with
          | no => rw [ht] at g2; exact g2.elim
          | ex x s4 => rw [ht] at g2; exact g2.elim
          | ok b s4 =>
            simp only [ht] at g2
            intro m5 H5 b' l5 r5 eb
            cases (show b = b' from eb)
            have hD5 := l5.fr P _ hD3 nD
            have nD5 : P ∉ m5 := fun z => by
              rcases l5.nw P z with w | w
              · exact nD w
              · rw [hD3] at w; cases w
            have l15 := l13.trans l5
            cases b with
            | false =>
              refine iteF ⟨m5, s4, acc, accV, l15, r5, hD5, nD5, (pA.mono l3).mono l5, ?_⟩
              simpa using g2
            | true =>
              simp only [if_true] at g2
              refine iteT ⟨m5, env3, s4, r5, E4.mono l5, ?_⟩
              cases he : fk env3 s4 with
              | no => rw [he] at g2; exact g2.elim
              | ex x s6 => rw [he] at g2; exact g2.elim
              | ok y s6 =>
                simp only [he] at g2
                intro m7 H7 yv l7 r7 p7
                have hD7 := l7.fr P _ hD5 nD5
                have nD7 : P ∉ m7 := fun z => by
                  rcases l7.nw P z with w | w
                  · exact nD5 w
                  · rw [hD5] at w; cases w
                refine ⟨m7, env3, s6, r7, (E4.mono l5).mono l7, ?_⟩
                cases hv : fv env3 s6 with
                | no => rw [hv] at g2; exact g2.elim
                | ex x s8 => rw [hv] at g2; exact g2.elim
                | ok z s8 =>
                  simp only [hv] at g2
                  intro m9 H9 zv l9 r9 p9
                  have hD9 := l9.fr P _ hD7 nD7
                  have nD9 : P ∉ m9 := fun z => by
                    rcases l9.nw P z with w | w
                    · exact nD7 w
                    · rw [hD7] at w; cases w
                  cases hk : keyOf y with
                  | none => simp only [hk] at g2; exact g2.elim
                  | some k =>
                    simp only [hk] at g2
                    by_cases hz : acc.length < sizeLine
                    · simp only [hz, if_true] at g2
                      have pA9 := (((pA.mono l3).mono l5).mono l7).mono l9
                      have pP := (repk_put (k := k) pA9 p9).monoW (lw_sideD (m := m9) (ws := putK accV k zv) hD9)
                      exact ⟨accV, k, keyOf_rep p7 hk, hD9, by rw [← repk_len pA]; exact hz, m9, s8, putD acc k z, putK accV k zv, ((l15.trans l7).trans l9).sideD hP hD9, r9.sideD hD9 nD9, upd_same, nD9, pP, g2⟩
                    · simp only [hz, if_false] at g2
                      exact g2.elim
      · simp only [hgd, if_false] at g2
        exact g2.elim
    · have e : i = it.xs.length := by omega
      subst e
      rw [List.drop_length] at g2
      unfold dcL at g2
      by_cases hgd : it.guard s2
      · simp only [hgd, if_true] at g2
        refine .inl ⟨(p1 m2 H2 s2 l2 r2 hgd).2, ?_⟩
        exact g2 (m2 ++ [P]) H2 (.ref P) (l2.adopt hP) (r2.adoptD nD hD pA) (.loc (len_get r2))
      · simp only [hgd, if_false] at g2
        exact g2.elim
variable {ek ev tg iter c : Expr} {ifs : List Expr} {scope : Scope} {own : List (Str × Nat)} {pos : Pos} {fi : ME Itm} {gt : D → Sl → Option Sl} {ft : ME Bool} {fk fv : ME D}
theorem ce_dc (hc : X.calm = true) (hN : X.N.Nodup) (hi : PI X tg iter (Ti X.K X.mg W fi)) (ok : BlkOk X.N X.env.scope scope own)
    (hg : ∀ (s : Shared) (H : Hp) (C : Addr) (cl : List (Str × Addr)) (fp : List Addr), PG (X.blk s H scope (compEnvC scope cl C X.env) fp) tg (GTm X.K (own.map (·.2)) gt)) (ht : ∀ (s : Shared) (H : Hp) (C : Addr) (cl : List (Str × Addr)) (fp : List Addr), PTs (X.blk s H scope (compEnvC scope cl C X.env) fp) ifs (Tt X.K X.mg WF ft))
    (hk : ∀ (s : Shared) (H : Hp) (C : Addr) (cl : List (Str × Addr)) (fp : List Addr), PE (X.blk s H scope (compEnvC scope cl C X.env) fp) ek (Te X.K X.mg WF fk))
    (he : ∀ (s : Shared) (H : Hp) (C : Addr) (cl : List (Str × Addr)) (fp : List Addr), PE (X.blk s H scope (compEnvC scope cl C X.env) fp) ev (Te X.K X.mg WF fv)) (hs : ∀ x, foldedSetIterable iter X.env x = pure x := by intro _; rfl) :
    PE X (.DictComp ek ev [⟨tg, iter, ifs, 0⟩] scope pos) (Te X.K X.mg W (eDc fi (own.map (·.2)) gt ft fk fv)) := PE.imp (pe_dc hc hN hi ok hg ht hk he hs) dc_run
end
/-! ### name = {k: v for ..} on one line -/
section
variable {X : Cx} {W : WX} {kx vx tg iter : Expr} {ifs : List Expr} {sc : Scope} {own : List (Str × Nat)} {cp sp np : Pos} {z : Str} {l : Nat}
theorem sw_dict {env : Env} {gs : List Comprehension} (kind : env.scope.kind = .function) (there : env.scope.names.lookup z = some .local) (line : (np.line == cp.line) = true)
    (none_own : (sc.names.any fun (n, k) => n == z && (k == .local || k == .cell)) = false) : swapsWith (.DictComp kx vx gs sc cp) (some (.Name z np)) l env = pure true := by
  have q1 : env.kindOf z = some .local := there
  have q2 : env.blockKind = .function := by
    unfold Env.blockKind
    rw [kind]
    rfl
  unfold swapsWith
  simp only [q2, q1, none_own, Expr.pos, line]
  rfl
theorem cs_setDc {i : Nat} {fi : ME Itm} {gt : D → Sl → Option Sl} {ft : ME Bool} {fk fv : ME D} (calm : X.calm = true) (nd : X.N.Nodup) (at_ : X.N[i]? = some z) (there : X.env.scope.names.lookup z = some .local)
    (swaps : swapsWith (.DictComp kx vx [⟨tg, iter, ifs, 0⟩] sc cp) (some (.Name z np)) sp.line X.env = pure true) (pi : PI X tg iter (Ti X.K X.mg W fi)) (ok : BlkOk X.N X.env.scope sc own)
    (pg : ∀ (s : Shared) (H : Hp) (C : Addr) (cl : List (Str × Addr)) (fp : List Addr), PG (X.blk s H sc (compEnvC sc cl C X.env) fp) tg (GTm X.K (own.map (·.2)) gt))
    (pt : ∀ (s : Shared) (H : Hp) (C : Addr) (cl : List (Str × Addr)) (fp : List Addr), PTs (X.blk s H sc (compEnvC sc cl C X.env) fp) ifs (Tt X.K X.mg WF ft))
    (pk : ∀ (s : Shared) (H : Hp) (C : Addr) (cl : List (Str × Addr)) (fp : List Addr), PE (X.blk s H sc (compEnvC sc cl C X.env) fp) kx (Te X.K X.mg WF fk))
    (pv : ∀ (s : Shared) (H : Hp) (C : Addr) (cl : List (Str × Addr)) (fp : List Addr), PE (X.blk s H sc (compEnvC sc cl C X.env) fp) vx (Te X.K X.mg WF fv)) (folds : ∀ x, foldedSetIterable iter X.env x = pure x := by intro _; rfl) :
    PS X (.Assign [.Name z np] (.DictComp kx vx [⟨tg, iter, ifs, 0⟩] sc cp) sp) (Ts X.K X.mg W (sSet i (eDc fi (own.map (·.2)) gt ft fk fv))) := by
  constructor
  intro pins s σ H Dn I told
  rw [exec_Assign_Name_used _ _ _ _ swaps]
  apply wpAny_bind
  apply wpAny_standAt
  apply wpAny_bind
  show wpAny _ X.A (do
    let _ ← comprehension (.DictComp kx vx [⟨tg, iter, ifs, 0⟩] sc cp) sc X.env (firstIterPos [⟨tg, iter, ifs, 0⟩] cp) newDict false (eval iter X.env) (some (assign (.Name z np) X.env))) _ _ s
  have asked : tDc (Ti X.K X.mg W fi) (GTm X.K (own.map (·.2)) gt) (Tt X.K X.mg WF ft) (Te X.K X.mg WF fk) (Te X.K X.mg WF fv) (own.map (·.2)) σ H (fun x H1 => gName i x σ H1 Dn.nx) :=
    dc_run σ H _ (Ts.ofE (k := fun env d s => RS.nx (env.set i (some d)) s) told fun m1 H1 env d v s1 r1 E1 p1 g1 => g1 m1 _ H1 .refl r1 (relE_set E1 p1 i))
  apply wpAny_bind
  refine thn (dc_core (Qf := fun _ t => L2.SP X pins Dn .next t) calm nd I pi ok pg pt pk pv folds asked ?_) (fun _ _ q => wpAny_pure (wpAny_pure q))
  intro L C t m H2 I2 q ns fpok
  show wpAny _ _ (assign (.Name z np) X.env (.ref L)) _ _ _
  apply wpAny_assign_Name
  refine store_ok2 (v := V.ref L) I2 nd at_ (.inl there) rfl ?_ (.inr there)
  rintro t2 I3 ⟨a, but, where_⟩
  obtain ⟨g0, g1, g2, g3, g4, g5⟩ := fpok
  have away : C ≠ a := where_.elim (fun e => e.symm ▸ g1) (fun e w => g4 z a e w.symm)
  refine ⟨m, ns.sameBut but away, fun h4 but2 => ?_⟩
  exact ⟨_, H2, I3.turned (t' := t2.toks) (fun b o nb e => (but2.2 b nb).trans e) g0 g1 g3 g4 g5, q⟩
end
/-! ### x[i], x a text besides -/
def dIxZ (x i : D) (s : Store) : Option (D × Store) := match x, i with
  | .str z, .int j => if z.length ≤ 1000000 then (L2.atI z.cps.toList j).map fun c => (.str ⟨#[c]⟩, s) else none
  | .str _, _ => none
  | x, i => dIxA x i s
def rIxZ (K : PySem.W.Frag) : R2 := fun x y H Q => (rIx K x y H Q ∨ rIxDic x y H Q) ∨ rIxS x y H Q
theorem ix_Z {X : Cx} (hu : X.A.units + 64 < cLine) : IxR X (rIxZ X.K) := (ix_any hu).or ix_str
section
variable {K : PySem.W.Frag}
theorem ops_ixZ : OpS K (rIxZ K) dIxZ := by
  intro mg W σ m H s x y dx dy Q r px py g
  by_cases hz : ∃ z, dx = .str z
  · obtain ⟨z, rfl⟩ := hz
    cases px
    cases dy with
    | int j =>
      cases py
      by_cases hl : z.length ≤ 1000000
      · cases e : L2.atI z.cps.toList j with
        | none => simp [dIxZ, hl, e] at g; exact g.elim
        | some c =>
          have g' : G K mg (Rep K) W σ m H Q (.ok (.str ⟨#[c]⟩) s) := by simpa [dIxZ, hl, e] using g
          exact .inr ⟨z, j, c, rfl, rfl, le_line hl, e, g'.now r (.str _)⟩
      · simp [dIxZ, hl] at g; exact g.elim
    | _ => exact g.elim
  · have e : dIxZ dx dy s = dIxA dx dy s := by
      cases dx <;> first | rfl | exact (hz ⟨_, rfl⟩).elim
    rw [e] at g
    exact .inl (ops_ixA r px py g)
theorem dIxZ_tup (xs : List D) (i : D) (s : Store) : dIxZ (.tup xs) i s = dIx (.tup xs) i s := by cases i <;> rfl
theorem dIxZ_locA (l : Nat) (i : D) (s : Store) : dIxZ (.loc l) i s = dIxA (.loc l) i s := by cases i <;> rfl
theorem dIxZ_loc {s : Store} {l : Nat} {xs : List D} (h : s[l]? = some (.lst xs)) (i : Int) : dIxZ (.loc l) (.int i) s = dIx (.loc l) (.int i) s := by
  rw [dIxZ_locA, dIxA_loc h, dIx_loc h]
theorem dIxZ_str {z : Str} (h : z.length ≤ 1000000) (j : Int) (s : Store) : dIxZ (.str z) (.int j) s = (L2.atI z.cps.toList j).map fun c => (.str ⟨#[c]⟩, s) := by
  show (if z.length ≤ 1000000 then _ else none) = _
  rw [if_pos h]
/-! ### [x] * n -/
noncomputable def dRep (x y : D) (s : Store) : Option (D × Store) := match x, y with
  | .loc l, .int k => match s[l]? with
    | some (.lst xs) => if -(2 ^ 63) ≤ k ∧ k < 2 ^ 63 ∧ xs.length * k.toNat ≤ sizeLine then some (.loc s.length, s ++ [.lst (List.replicate k.toNat xs).flatten]) else none
    | _ => none
  | _, _ => none
theorem reps_rep {m : List Addr} {H : Hp} {xs : List D} {vs : List V} (p : Reps K m H xs vs) : ∀ n, Reps K m H (List.replicate n xs).flatten (List.replicate n vs).flatten
  | 0 => .nil
  | n + 1 => by
    rw [List.replicate_succ, List.replicate_succ, List.flatten_cons, List.flatten_cons]
    exact p.append (reps_rep p n)
theorem ops_rep : OpS K rRep dRep := by
  intro mg W σ m H s x y dx dy Q r px py g
  unfold dRep at g
  split at g
  · rename_i l k
    cases py
    cases px with
    | loc hl =>
      split at g
      · rename_i xs q
        split at g
        · rename_i hz
          obtain ⟨vs, h1, h2⟩ := r.list hl q
          refine ⟨_, k, vs, rfl, rfl, h1, hz.1, hz.2.1, by rw [← h2.length]; exact hz.2.2, fun p hp => ?_⟩
          exact g (m ++ [p]) _ _ (le_more r hp) (rel_newlist r hp (reps_rep h2 k.toNat)) (.loc (len_get r))
        · exact g.elim
      · exact g.elim
  · exact g.elim
/-! ### t.index(z), a tuple of texts -/
def strsOf : List D → Option (List Str)
  | [] => some []
  | .str z :: r => (strsOf r).map fun q => z :: q
  | _ => none
theorem strsOf_map (zs : List Str) : strsOf (zs.map D.str) = some zs := by
  induction zs with
  | nil => rfl
  | cons z zs ih => simp [strsOf, ih]
theorem strs_reps {m : List Addr} {H : Hp} : ∀ {ds : List D} {vs : List V} {zs : List Str}, Reps K m H ds vs → strsOf ds = some zs → vs = zs.map V.str
  | [], _, _, .nil, e => by cases e; rfl
  | d :: ds, _, zs, .cons h r, e => by
    cases d with
    | str z =>
      cases h
      simp only [strsOf] at e
      cases q : strsOf ds with
      | none => rw [q] at e; cases e
      | some w =>
        rw [q] at e
        cases e
        rw [List.map_cons, strs_reps r q]
    | _ => cases e
def rTix (K : PySem.W.Frag) : V → List V → Hp → VK → Prop := fun x xs H Q => ∃ p, ∃ ys : List Str, ∃ z j, x = .ref p ∧ xs = [.str z] ∧ SqT K H p (ys.map V.str) ∧ ys[j]? = some z ∧ (∀ m, m < j → ys[m]? ≠ some z) ∧ Q (.int (j : Nat)) H
theorem mt_tix {X : Cx} : MtR X "tuple.index" (rTix X.K) := mt_tup_index
def dTix (x : D) (ys : List D) (s : Store) : Option (D × Store) := match x, ys with
  | .tup xs, [.str z] => (strsOf xs).bind fun zs => (zs.findIdx? fun w => decide (w = z)).map fun j => (.int (j : Nat), s)
  | _, _ => none
theorem mts_tix : MtS K (rTix K) dTix := by
  intro mg W σ m H s x d xs ds Q r p ps g
  unfold dTix at g
  split at g
  · rename_i ys z
    obtain ⟨w, rfl, h⟩ := reps1 ps
    cases h
    obtain ⟨a, vs, rfl, h1, h2⟩ := p.sqT
    cases e : strsOf ys with
    | none => rw [e] at g; exact g.elim
    | some zs =>
      rw [e, Option.bind_some] at g
      cases q : zs.findIdx? fun w => decide (w = z) with
      | none => rw [q] at g; exact g.elim
      | some j =>
        rw [q] at g
        obtain ⟨hj, q1, q2⟩ := List.findIdx?_eq_some_iff_getElem.mp q
        have ev := strs_reps h2 e
        subst ev
        have hz : zs[j] = z := of_decide_eq_true q1
        refine ⟨a, zs, z, j, rfl, rfl, h1, by rw [List.getElem?_eq_getElem hj, hz], fun i hi w => ?_, g.now r (.int _)⟩
        have hi' : i < zs.length := by omega
        rw [List.getElem?_eq_getElem hi'] at w
        have := q2 i hi
        simp only [decide_eq_true_eq] at this
        exact this (Option.some.inj w)
  · exact g.elim
end
/-! ### list(d), d a dict -/
def keyD : Key → D
  | .inl i => .int i
  | .inr z => .str z
def rListA (K : PySem.W.Frag) : List V → Hp → VK → Prop := fun xs H Q => (∃ p ys, xs = [.ref p] ∧ (SqL K H p ys ∨ SqT K H p ys) ∧ ∀ l, H l = none → Q (.ref l) (upd H l (.lst ys))) ∨
  (∃ d kvs, xs = [V.ref d] ∧ Rd H d (.dT kvs) ∧ ∀ p bs, H p = none → IsKeys H kvs bs → Q (.ref p) (upd H p (.lst (bs.map V.ref)))) ∨
  ∃ (a : Addr) (kvs : List (Key × V)), xs = [.ref a] ∧ Rd H a (.dK kvs) ∧ ∀ p, H p = none → Q (.ref p) (upd H p (.lst (kvs.map fun kv => kV kv.1)))
theorem call_listA {X : Cx} (hc : X.calm = true) : CallR X (.type "list") (rListA X.K) := call_list_of.or ((call_list_dT hc).or (call_listD hc))
def dListA (ds : List D) (s : Store) : Option (D × Store) := match ds with
  | [x] => match dicOf s x with
    | some (_, ks) => some (.loc s.length, s ++ [.lst (ks.map fun kv => keyD kv.1)])
    | none => match dctOf s x with
      | some (_, ks) => some (.loc s.length, s ++ [.lst (ks.map fun kv => .tup (kv.1.map keyD))])
      | none => dList [x] s
  | _ => none
section
variable {K : PySem.W.Frag} {m : List Addr} {H : Hp}
theorem keyD_rep (k : Key) : Rep K m H (keyD k) (kV k) := by
  cases k with
  | inl i => exact .int i
  | inr z => exact .str z
theorem keysD_rep : ∀ ks : List Key, Reps K m H (ks.map keyD) (ks.map kV)
  | [] => .nil
  | k :: ks => .cons (keyD_rep k) (keysD_rep ks)
theorem reps_keysK : ∀ {ks : List (Key × D)} {vs : List (Key × V)}, RepK K m H ks vs → Reps K m H (ks.map fun kv => keyD kv.1) (vs.map fun kv => kV kv.1)
  | _, _, .nil => .nil
  | _, _, .cons (k := k) _ r => .cons (keyD_rep k) (reps_keysK r)
theorem reps_keysT : ∀ {ks : List (List Key × D)} {vs : List (List Key × V)} {bs : List Addr}, RepK K m H ks vs → IsKeys H vs bs → Reps K m H (ks.map fun kv => .tup (kv.1.map keyD)) (bs.map V.ref)
  | _, _, _, .nil, q => by cases q; exact .nil
  | _, _, _, .cons (k := k) _ r, q => by
    cases q with
    | cons h t => exact .cons (.tup h (keysD_rep k)) (reps_keysT r t)
theorem fns_listA : FnS K (rListA K) dListA := by
  intro mg W σ m H s xs ds Q r p g
  unfold dListA at g
  split at g
  · rename_i x
    obtain ⟨v, rfl, h⟩ := reps1 p
    cases e : dicOf s x with
    | some o =>
      obtain ⟨l, ks⟩ := o
      rw [e] at g
      obtain ⟨a, vs, _, rfl, _, h1, h2⟩ := dicOf_at r h e
      refine .inr (.inr ⟨a, vs, rfl, .inl h1, fun q hq => ?_⟩)
      exact g (m ++ [q]) _ _ (le_more r hq) (rel_newlist r hq (reps_keysK h2)) (.loc (len_get r))
    | none =>
      rw [e] at g
      simp only at g
      cases e2 : dctOf s x with
      | some o =>
        obtain ⟨l, ks⟩ := o
        rw [e2] at g
        obtain ⟨a, vs, _, rfl, _, h1, h2⟩ := dctOf_at r h e2
        refine .inr (.inl ⟨a, vs, rfl, .inl h1, fun q bs hq hk => ?_⟩)
        exact g (m ++ [q]) _ _ (le_more r hq) (rel_newlist r hq (reps_keysT h2 hk)) (.loc (len_get r))
      | none =>
        rw [e2] at g
        exact .inl (fns_list r p g)
  · exact g.elim
end
/-! ### a, b = e, e a list -/
/-- a list taken apart -/
def sAsgL (n : Nat) (r : List D → Sl → Option Sl) (e : ME D) : MS := fun env s => (e env s).then env fun d s => match lstOf s d with
  | some xs => if xs.length = n then (match r xs env with | some env' => .nx env' s | none => .no) else .no
  | none => .no
section
variable {X : Cx} {W : WX} {pos : Pos} {tpos : Pos} {es : List Expr} {e : Expr} {fe : ME D}
theorem cs_asgL {k n : Nat} {r : List D → Sl → Option Sl} {vs : List Nat} (hc : X.calm = true) (he : PE X e (Te X.K X.mg W fe)) (h : PGs X es (GTs X.K vs r)) (hn : (assignEach es X.env).length = n := by rfl) (hst : (assignEach es X.env).findIdx? (·.1) = none := by rfl)
    (hs : swapsWithSole [.Tuple es k tpos] e pos.line X.env = pure false := by rfl) (hw : swappedStores [.Tuple es k tpos] e X.env = pure none := by rfl)
    (h1 : (assignEach [.Tuple es k tpos] X.env).map (·.2) = [assign (.Tuple es k tpos) X.env] := by rfl) : PS X (.Assign [.Tuple es k tpos] e pos) (Ts X.K X.mg W (sAsgL n r fe)) := PS.imp (ps_asg he (pg_lst (n := n) hc h hn hst) hs hw h1) fun Dn σ H h =>
  Ts.ofE (k := fun env d s => match lstOf s d with
  | some xs => if xs.length = n then (match r xs env with | some env' => RS.nx env' s | none => .no) else .no
  | none => .no) h fun m1 H1 env d v s1 r1 E1 p1 g1 => by
    cases q : lstOf s1 d with
    | none => simp only [q] at g1; exact g1.elim
    | some xs =>
      simp only [q] at g1
      by_cases hl : xs.length = n
      · simp only [hl, if_true] at g1
        cases q2 : r xs env with
        | none => simp only [q2] at g1; exact g1.elim
        | some env' =>
          simp only [q2] at g1
          obtain ⟨a, ws, rfl, hq, rr⟩ := lstOf_sq r1 p1 q
          exact ⟨a, ws, rfl, hq, by rw [← rr.length]; exact hl, m1, env, s1, xs, env', r1, E1, rr, q2, fun σ' E' _ _ => g1 m1 σ' H1 .refl r1 E'⟩
      · simp only [hl, if_false] at g1
        exact g1.elim
end
end Mi
namespace Mi
open PySem PySem.Spec PyProof.Rows L2
/-! ### picked places -/
def permL {α : Type} (is : List Nat) (xs : List α) : List α := is.filterMap (xs[·]?)
theorem vals_perm {xs : List V} {us : List Value} (r : Vals xs us) : ∀ is : List Nat, Vals (permL is xs) (permL is us)
  | [] => .nil
  | i :: is => by
    unfold permL
    rw [List.filterMap_cons, List.filterMap_cons]
    cases q : xs[i]? with
    | none => rw [r.none_of q]; exact vals_perm r is
    | some x =>
      obtain ⟨u, e, h⟩ := r.get q
      rw [e]
      exact .cons h (vals_perm r is)
section
variable {K : PySem.W.Frag} {m : List Addr} {H : Hp}
theorem reps_perm {xs : List D} {vs : List V} (r : Reps K m H xs vs) : ∀ is : List Nat, Reps K m H (permL is xs) (permL is vs)
  | [] => .nil
  | i :: is => by
    unfold permL
    rw [List.filterMap_cons, List.filterMap_cons]
    cases q : xs[i]? with
    | none =>
      have : vs[i]? = none := by
        have h := List.getElem?_eq_none_iff.mp q
        rw [r.length] at h
        exact List.getElem?_eq_none_iff.mpr h
      rw [this]; exact reps_perm r is
    | some x =>
      obtain ⟨u, e, h⟩ := r.get q
      rw [e]
      exact .cons h (reps_perm r is)
theorem mem_perm {α : Type} {is : List Nat} {xs : List α} {x : α} (h : x ∈ permL is xs) : x ∈ xs := by
  obtain ⟨i, _, e⟩ := List.mem_filterMap.mp h
  exact List.mem_of_getElem? e
theorem perm_length {α : Type} (is : List Nat) (xs : List α) : (permL is xs).length ≤ is.length := List.length_filterMap_le ..
end
/-! ### x[a:b:c], a list -/
def stepIs (lo hi st : Option Int) (n : Nat) : List Nat := sliceRange (sliceBounds lo hi st n).1 (sliceBounds lo hi st n).2.1 (sliceBounds lo hi st n).2.2
def tStep (K : PySem.W.Frag) (te : TE) (tl tu ts : TO) : TE := fun σ H Q => te σ H fun x H1 => tl σ H1 fun l H2 => tu σ H2 fun u H3 => ts σ H3 fun st H4 =>
  ∃ a xs, x = .ref a ∧ SqL K H4 a xs ∧ st ≠ some 0 ∧ (permL (stepIs l u st xs.length) xs).length ≤ sizeLine ∧ ∀ p, H4 p = none → Q (.ref p) (upd H4 p (.lst (permL (stepIs l u st xs.length) xs)))
theorem pe_step {X : Cx} {e : Expr} {te : TE} {tl tu ts : TO} {lo hi : Option Expr} {st : Expr} {p3 pos : Pos} (he : PE X e te) (hl : PO X lo tl) (hu : PO X hi tu) (hs : PO X (some st) ts) : PE X (.Subscript e (.Slice lo hi (some st) p3) pos) (tStep X.K te tl tu ts) := by
  refine ⟨fun pins s σ H Q I h => Subscript_ (thn (he.run pins s σ H _ I h) fun v s1 ⟨x, H1, I1, r1, q1⟩ => ?_)⟩
  refine wpAny_Slice (thn (hl.run pins s1 σ H1 _ I1 q1) fun vl s2 ⟨l, H2, I2, pl, q2⟩ => thn (hu.run pins s2 σ H2 _ I2 q2) fun vu s3 ⟨u, H3, I3, pu, q3⟩ => thn (hs.run pins s3 σ H3 _ I3 q3) fun vs s4 ⟨o, H4, I4, ps, q4⟩ => ?_)
  obtain ⟨a, xs, ex, hx, h0, hz, q⟩ := q4
  subst ex
  cases r1
  have I5 : Inv X pins σ H4 { s4 with heap := s4.heap.push { cls := .type "slice", data := .fields #[vl, vu, vs] } } := I4.kept (t' := s4.toks) fun b ob q => Heap.get?_push_of_some _ q
  show wpAny (model X.prog X.w) X.A (subscriptTail e (.Slice lo hi (some st) p3) (.ref a) (.ref s4.heap.objs.size)) (EP X pins σ Q) X.xe { s4 with heap := s4.heap.push { cls := .type "slice", data := .fields #[vl, vu, vs] } }
  obtain ⟨its, r, ht, hz2⟩ := I5.list hx
  have hlen := r.length
  refine tail_any (ops := [.ref a, .ref s4.heap.objs.size]) ht.isList.typeIs (PySem.slot_list_getitem.lookup) ?_ (by with_unfolding_all rfl)
  refine wpAny_getItem_list_slice ht.isList (Heap.IsSliceOf.new _ vl vu vs) pl pu ps h0 ?_ (by rw [List.size_toArray]; omega)
  have ep : slicePick its.toArray l u o = (permL (stepIs l u o xs.length) its).toArray := by
    unfold slicePick permL stepIs
    rw [List.size_toArray, ← hlen]
    simp
  rw [ep]
  refine ⟨.ref _, _, I5.laid (t' := s4.toks) (o := .lst (permL (stepIs l u o xs.length) xs)) (fun b ob q => Heap.get?_push_of_some _ q) (Nat.le_refl _) ?_, rfl, q _ (I5.hok.fresh (Nat.le_refl _))⟩
  exact ⟨hz, _, 0, vals_perm r _, Heap.get?_push_size _ rfl⟩
noncomputable def dStep (x : D) (lo hi st : Option Int) (s : Store) : Option (D × Store) := (lstOf s x).bind fun xs =>
  if st ≠ some 0 ∧ (permL (stepIs lo hi st xs.length) xs).length ≤ sizeLine then some (.loc s.length, s ++ [.lst (permL (stepIs lo hi st xs.length) xs)]) else none
noncomputable def eStep (a : ME D) (lo hi st : ME (Option Int)) : ME D := fun env s => (a env s).bind fun x s => (lo env s).bind fun l s => (hi env s).bind fun u s => (st env s).bind fun t s => R.of (dStep x l u t s)
section
variable {X : Cx} {W : WX} {pos p2 : Pos} {a c : Expr} {fa : ME D} {ol oh os : ME (Option Int)} {lo hi : Option Expr}
theorem ce_step (ha : PE X a (Te X.K X.mg W fa)) (hl : PO X lo (To X.K X.mg W ol)) (hu : PO X hi (To X.K X.mg W oh)) (hs : PO X (some c) (To X.K X.mg W os)) :
    PE X (.Subscript a (.Slice lo hi (some c) p2) pos) (Te X.K X.mg W (eStep fa ol oh os)) :=
  PE.imp (pe_step ha hl hu hs) fun σ H Q h => Tm.bind (k := fun env x s => (ol env s).bind fun l s => (oh env s).bind fun u s => (os env s).bind fun t s => R.of (dStep x l u t s)) h fun m1 H1 env x v s1 r1 E1 p1 g1 =>
    ⟨m1, env, s1, r1, E1, G.bind g1 fun m2 H2 l l' s2 l2 r2 p2 g2 => ⟨m2, env, s2, r2, E1.mono l2, G.bind g2 fun m3 H3 u u' s3 l3 r3 p3 g3 => ⟨m3, env, s3, r3, (E1.mono l2).mono l3, G.bind g3 fun m4 H4 t t' s4 l4 r4 p4 g4 => by
      cases (show l = l' from p2); cases (show u = u' from p3); cases (show t = t' from p4)
      have p := ((p1.mono l2).mono l3).mono l4
      unfold dStep at g4
      cases e : lstOf s4 x with
      | none => rw [e] at g4; exact g4.elim
      | some xs =>
        rw [e, Option.bind_some] at g4
        obtain ⟨b, vs, rfl, hq, rr⟩ := lstOf_sq r4 p e
        by_cases hz : t ≠ some 0 ∧ (permL (stepIs l u t xs.length) xs).length ≤ sizeLine
        · rw [if_pos hz] at g4
          have el : vs.length = xs.length := rr.length.symm
          have rp := reps_perm rr (stepIs l u t xs.length)
          refine ⟨b, vs, rfl, hq, hz.1, by rw [el, ← rp.length]; exact hz.2, fun q hq' => ?_⟩
          rw [el]
          exact g4 (m4 ++ [q]) _ _ (le_more r4 hq') (rel_newlist r4 hq' rp) (.loc (len_get r4))
        · rw [if_neg hz] at g4
          exact g4.elim⟩⟩⟩
end
/-! ### dict(zip(a, b)), two lists -/
def tDictZip (K : PySem.W.Frag) (ta : TA) : TE := fun σ H Q => ta σ H fun vs H1 => ∃ (a b : Addr) (ks : List Key) (xs : List V), vs = [.ref a, .ref b] ∧ SqL K H1 a (ks.map kV) ∧ SqL K H1 b xs ∧ ks.length = xs.length ∧ ∀ p, H1 p = none → Q (.ref p) (upd H1 p (.dK (mergeK [] (ks.zip xs))))
theorem kv_zip {P : Program} {w : World} : ∀ {ks : List Key} {xs : List V} {us ws : List Value}, Vals (ks.map kV) us → Vals xs ws → ks.length = xs.length →
    ∃ prs : List (Key × Value), KV (ks.zip xs) prs ∧ prs.length = ks.length ∧ ∀ (i : Nat) (k v : Value), us[i]? = some k → ws[i]? = some v → ∃ q, prs[i]? = some (q, v) ∧ (mixKind P w).is q k = true
  | [], _, us, ws, r, r2, e => by
    cases r
    exact ⟨[], .nil, rfl, fun i k v h => by simp at h⟩
  | k :: ks, [], _, _, _, _, e => by cases e
  | k :: ks, x :: xs, us, ws, r, r2, e => by
    rw [List.map_cons] at r
    cases r with
    | cons h t =>
      cases r2 with
      | cons h2 t2 =>
        rename_i u us' w' ws'
        obtain ⟨prs, q1, q2, q3⟩ := kv_zip (P := P) (w := w) t t2 (by simpa using e)
        refine ⟨(k, w') :: prs, .cons ⟨rfl, h2⟩ q1, by simp [q2], fun i k' v h1 h3 => ?_⟩
        cases i with
        | zero =>
          simp at h1 h3
          subst h1; subst h3
          exact ⟨k, rfl, kV_is (P := P) (w := w) h⟩
        | succ i => exact q3 i k' v (by simpa using h1) (by simpa using h3)
theorem pe_dictZip {X : Cx} {e e2 : Expr} {ta : TA} {p p2 pos q : Pos} (hg : Gl X "dict") (hm : X.mg "dict" = none) (hg2 : Gl X "zip") (hm2 : X.mg "zip" = none) (ha : PA X [e, e2] ta) (hc : X.calm = true := by rfl)
    (na : starEach [Expr.Call (.Name "zip" p2) [e, e2] [] q] X.env = (false, eval (Expr.Call (.Name "zip" p2) [e, e2] [] q) X.env) :: starEach [] X.env := by rfl)
    (hs : starEach [e, e2] X.env = (false, eval e X.env) :: starEach [e2] X.env := by rfl) (hpl : (backTo q (starEach [e2] X.env)).any (·.1) = false := by rfl) :
    PE X (.Call (.Name "dict" p) [.Call (.Name "zip" p2) [e, e2] [] q] [] pos) (tDictZip X.K ta) := by
  refine ⟨fun pins s σ H Q I h => ?_⟩
  refine Call_ (ld_blt I hg hm PyProof.Rows.boot_dict ?_)
  refine PyProof.Rows.callWith_type1 (PyProof.Rows.args_cons ?_ na) na rfl
  refine Call_ (ld_blt I hg2 hm2 PyProof.Rows.boot_zip (PyProof.Rows.callWith_type1 (thn (ha.run q pins s σ H _ I h) fun us s1 ⟨vs, H1, I1, r1, q1⟩ => ?_) hs hpl))
  obtain ⟨a, b, ks, xs, ex, hqx, hqy, hlen, q1⟩ := q1
  subst ex
  cases r1 with
  | cons r rr =>
    cases rr with
    | cons r' rr =>
      cases rr
      cases r
      cases r'
      obtain ⟨its, rv, p1, hz1⟩ := I1.list hqx
      obtain ⟨its2, rv2, p2', _⟩ := I1.list hqy
      refine call_zip_2 p1.isList p2'.isList fun h' hz hTI hTO h1 h2 hsz hk => ?_
      refine PyProof.Rows.args_nil ?_
      have I2 : Inv X pins σ H1 { s1 with heap := h' } := I1.kept (t' := s1.toks) hk
      obtain ⟨prs, d1, d2, d3⟩ := kv_zip (P := X.prog) (w := X.w) rv rv2 hlen
      have l1 : its.length = ks.length := by rw [← rv.length, List.length_map]
      have l2 : its2.length = ks.length := by rw [← rv2.length, hlen]
      have D := PySem.W.ktu_apart s1.heap.objs.size a b p1.lt p2'.lt
      refine PySem.call_dict_pairs (s := { s1 with heap := h' }) (knd := mixKind X.prog X.w) (kvs := prs) (PySem.PairArg.zip (s1.heap.objs.size + 4) (s1.heap.objs.size + 2) (s1.heap.objs.size + 3) s1.heap.objs.size (s1.heap.objs.size + 1) a b D its.toArray its2.toArray) (I2.ok.hd hc)
        ⟨hz, hTI, ⟨_, _, hTO⟩, h1, h2, p1.isList.at fun o e => hk _ _ e, p2'.isList.at fun o e => hk _ _ e⟩ ⟨?_, ?_⟩ ?_ ?_
      · simp [l1, l2, d2]
      · intro i key v ⟨e1, e2⟩
        exact d3 i key v (by simpa using e1) (by simpa using e2)
      · simp only [List.size_toArray, l1, l2, Nat.min_self]
        rw [← List.length_map (as := ks) (f := kV)]; exact hz1
      · intro h'' tk hd' hk2
        have k2 : ∀ b o, s1.heap.get? b = some o → h''.get? b = some o := fun b o e => by
          refine hk2 b o (fun z => ?_) (hk b o e)
          have lt := Heap.lt_size e
          simp only [List.mem_cons, List.not_mem_nil, or_false] at z
          rcases z with z | z | z | z
          · exact Nat.not_lt.mpr (Nat.le_add_right _ _) (z ▸ lt)
          · exact Nat.not_lt.mpr (Nat.le_add_right _ _) (z ▸ lt)
          · exact Nat.lt_irrefl _ (z ▸ lt)
          · exact Nat.not_lt.mpr (Nat.le_add_right _ _) (z ▸ lt)
        have hb : (h'.objs.size == sysModules) = false := beq_eq_false_iff_ne.mpr (Nat.ne_of_gt I2.big)
        have hle : (mergeK [] (ks.zip xs)).length ≤ sizeLine := by
          refine Nat.le_trans (length_mergeK _ []) ?_
          rw [List.length_nil, Nat.zero_add, List.length_zip, ← hlen, Nat.min_self, ← List.length_map (as := ks) (f := kV)]
          exact hz1
        have sz : s1.heap.objs.size ≤ h'.objs.size := by omega
        exact ⟨.ref h'.objs.size, upd H1 h'.objs.size (.dK (mergeK [] (ks.zip xs))), I1.laid (t' := tk) k2 sz (show ObjOk X.prog X.w _ _ _ (.dK (mergeK [] (ks.zip xs))) from ⟨hle, hb, merged [] prs, KV.merge d1 .nil, hd'⟩), rfl, q1 _ (I1.hok.fresh sz)⟩
def keysZ : List D → Option (List Key)
  | [] => some []
  | d :: ds => (keyOf d).bind fun k => (keysZ ds).map fun ks => k :: ks
def mergeD (acc : List (Key × D)) (more : List (Key × D)) : List (Key × D) := more.foldl (fun acc kv => putD acc kv.1 kv.2) acc
def dDictZip (ds : List D) (s : Store) : Option (D × Store) := match ds with
  | [x, y] => (lstOf s x).bind fun xs => (lstOf s y).bind fun ys => (keysZ xs).bind fun ks => if ks.length = ys.length then some (.loc s.length, s ++ [.dic (mergeD [] (ks.zip ys))]) else none
  | _ => none
section
variable {K : PySem.W.Frag} {m : List Addr} {H : Hp}
theorem keysZ_rep : ∀ {ds : List D} {vs : List V} {ks : List Key}, Reps K m H ds vs → keysZ ds = some ks → vs = ks.map kV
  | [], _, _, .nil, e => by cases e; rfl
  | d :: ds, _, ks, .cons h t, e => by
    unfold keysZ at e
    cases q : keyOf d with
    | none => rw [q] at e; cases e
    | some k =>
      rw [q, Option.bind_some] at e
      cases q2 : keysZ ds with
      | none => rw [q2] at e; cases e
      | some ks2 =>
        rw [q2] at e
        cases e
        rw [keyOf_rep h q, keysZ_rep t q2, List.map_cons]
theorem repk_zip : ∀ {ks : List Key} {ys : List D} {vs : List V}, Reps K m H ys vs → RepK K m H (ks.zip ys) (ks.zip vs)
  | [], _, _, _ => .nil
  | k :: ks, _, _, .nil => by rw [List.zip_nil_right, List.zip_nil_right]; exact .nil
  | k :: ks, _, _, .cons h t => by rw [List.zip_cons_cons, List.zip_cons_cons]; exact .cons h (repk_zip t)
theorem repk_merge {more : List (Key × D)} {moreV : List (Key × V)} (h : RepK K m H more moreV) : ∀ {acc : List (Key × D)} {accV : List (Key × V)}, RepK K m H acc accV → RepK K m H (mergeD acc more) (mergeK accV moreV) := by
  induction h with
  | nil => exact fun r => r
  | @cons k x v xs vs h t ih =>
    intro acc accV r
    exact ih (repk_put (k := k) r h)
end
section
variable {X : Cx} {W : WX} {pos p p2 q : Pos} {e e2 : Expr} {fs : ME (List D)}
theorem ce_dictZip (hc : X.calm = true) (hg : Gl X "dict") (hm : X.mg "dict" = none) (hg2 : Gl X "zip") (hm2 : X.mg "zip" = none) (ha : PA X [e, e2] (Ta X.K X.mg W fs))
    (na : starEach [Expr.Call (.Name "zip" p2) [e, e2] [] q] X.env = (false, eval (Expr.Call (.Name "zip" p2) [e, e2] [] q) X.env) :: starEach [] X.env := by rfl)
    (hs : starEach [e, e2] X.env = (false, eval e X.env) :: starEach [e2] X.env := by rfl) (hpl : (backTo q (starEach [e2] X.env)).any (·.1) = false := by rfl) :
    PE X (.Call (.Name "dict" p) [.Call (.Name "zip" p2) [e, e2] [] q] [] pos) (Te X.K X.mg W (eFn dDictZip fs)) :=
  PE.imp (pe_dictZip hg hm hg2 hm2 ha hc na hs hpl) fun σ H Q h => Tm.bind (k := fun env xs s => R.of (dDictZip xs s)) h fun m1 H1 env ds vs s1 r1 E1 p1 g1 => by
    unfold dDictZip at g1
    split at g1
    · rename_i x y
      obtain ⟨v, w, rfl, px, py⟩ := reps2 p1
      cases q1 : lstOf s1 x with
      | none => rw [q1] at g1; exact g1.elim
      | some xs =>
        cases q2 : lstOf s1 y with
        | none => rw [q1, Option.bind_some, q2] at g1; exact g1.elim
        | some ys =>
          cases q3 : keysZ xs with
          | none => rw [q1, Option.bind_some, q2, Option.bind_some, q3] at g1; exact g1.elim
          | some ks =>
            rw [q1, Option.bind_some, q2, Option.bind_some, q3, Option.bind_some] at g1
            by_cases hl : ks.length = ys.length
            · rw [if_pos hl] at g1
              obtain ⟨a, vx, rfl, h1, rx⟩ := lstOf_sq r1 px q1
              obtain ⟨b, vy, rfl, h2, ry⟩ := lstOf_sq r1 py q2
              have ev := keysZ_rep rx q3
              subst ev
              refine ⟨a, b, ks, vy, rfl, h1, h2, by rw [hl, ry.length], fun q hq => ?_⟩
              have rk : RepK X.K m1 H1 (mergeD [] (ks.zip ys)) (mergeK [] (ks.zip vy)) := repk_merge (repk_zip ry) .nil
              exact g1 (m1 ++ [q]) _ _ (le_more r1 hq) (r1.new hq ⟨_, upd_same, rk.mono (le_more r1 hq)⟩) (.loc (len_get r1))
            · rw [if_neg hl] at g1
              exact g1.elim
    · exact g1.elim
end
/-! ### f(k = e, ..) of keywords alone -/
def KBi (K : PySem.W.Frag) (fd : FuncData) (ps ks : List Str) (is : List Nat) : Prop := ∀ (s : Shared) (ws : List Value), K.In s.heap → ws.length = ks.length → BindsTo s fd ⟨[], ks.zip ws⟩ (ps.zip (permL is ws))
theorem kbi {K : PySem.W.Frag} {x qual : Str} {st : Stmt} {f : Addr} {fd : FuncData} {ps ks : List Str} {is : List Nat} (F : Fun K x qual st f fd)
    (h : ∀ (kV doc pm : Value) (an : Option Addr) (cdv ct : Value) (ws : List Value), ws.length = ks.length → bindArgs (PySem.W.fnOf x qual (defArgs st) (defBody st) (defScope st) .none kV doc pm an cdv ct) ⟨[], ks.zip ws⟩ = pure (ps.zip (permL is ws))) : KBi K fd ps ks is := by
  obtain ⟨oc, od, kV, doc, pm, an, cdv, ct, osl, rfl, lk, hcd⟩ := F.ex
  exact fun s ws _ hl => .of_eq (h kV doc pm an cdv ct ws hl)
def tCallKw (n : Nat) (is : List Nat) (sp : Sp) (E : L2.St → XK) (t : TA) : TE := fun σ H Q => t σ H fun zs H1 => zs.length = n ∧ sp (permL is zs) H1 Q (E σ)
section
variable {X : Cx} {CX : CXT} {k : Nat} {f : Addr} {fd : FuncData} {ps ks : List Str} {sp : Sp} {E : L2.St → XK} {x : Str} {p pos : Pos} {kws : List Keyword} {t : TA} {is : List Nat}
theorem run_fnKw {pins : List (Addr × Obj)} {σ : L2.St} {H : Hp} {s : Shared} {Q : VK} {ws : List Value} {zs : List V} (F : FnOk X.prog X.w X.K X.mg X.base CX k f fd ps sp) (hr : Room k X.A) (hb : KBi X.K fd ps ks is) (hx : PassesAt CX X σ (E σ))
    (I : Inv X pins σ H s) (r : Vals zs ws) (hl : zs.length = ks.length) (h : sp (permL is zs) H Q (E σ)) : wpAny (model X.prog X.w) X.A (call (.ref f) [] (ks.zip ws)) (EP X pins σ Q) X.xe s := by
  refine wpAny_call (codeAny_mono (F.run X.A X.stack s H ⟨[], ks.zip ws⟩ (permL is ws) (permL is zs) Q (E σ) hr I.env0 (hb s ws I.kIn (by rw [← r.length]; exact hl)) (vals_perm r is) h) fun r s' hq => ?_)
  cases r with
  | error e => exact hx pins H s e s' I hq
  | ok fl =>
    cases fl with
    | ret u => exact I.after hq
    | next => exact False.elim hq
    | brk => exact False.elim hq
    | cont => exact False.elim hq
theorem pe_callKw (F : FnOk X.prog X.w X.K X.mg X.base CX k f fd ps sp) (hr : Room k X.A) (hg : Gl X x) (hm : X.mg x = some (.ref f)) (hk : PySem.W.keepIn X.K (.ref f) = true) (hb : KBi X.K fd ps ks is) (hx : ∀ σ, PassesAt CX X σ (E σ))
    (hkw : PK X kws t) (hall : (backToKw pos (keywordEach kws X.env)).all (·.1.isSome) = true := by rfl) (hks : (backToKw pos (keywordEach kws X.env)).filterMap (·.1) = ks := by rfl)
    (hdb : (x == ("__debug__" : Str)) = false := by decide)
    (hpl : ((backTo pos (starEach [] X.env)).any (·.1) || (backToKw pos (keywordEach kws X.env)).any (·.1.isNone)) = false := by rfl) :
    PE X (.Call (.Name x p) [] kws pos) (tCallKw ks.length is sp E t) := by
  refine ⟨fun pins s σ H Q I h => ?_⟩
  refine wpAny_Call_Name_kw (ld_glob I hg hm ?_ hdb)
  refine PySem.W.callWith_KW0 (h₀ := X.base) I.ok.mod.kin hk hall (thn (hkw.run pos pins s σ H _ I h) fun ws s2 ⟨zs, H2, I2, rz, hl, q2⟩ => ⟨I2.kIn, ?_⟩) hpl
  rw [hks]
  exact run_fnKw F hr hb (hx σ) I2 rz hl q2
end
theorem PK.imp {X : Cx} {kws : List Keyword} {t t' : TA} (h : PK X kws t) (q : ∀ σ H Q, t' σ H Q → t σ H Q) : PK X kws t' := ⟨fun pos pins s σ H Q I h' => h.run pos pins s σ H Q I (q σ H Q h')⟩
section
variable {X : Cx} {W : WX} {pos kpos : Pos} {e : Expr} {fa : ME D} {fs : ME (List D)} {nm : Option Str} {kws : List Keyword}
theorem ck_nil : PK X [] (Ta X.K X.mg W aNil) := PK.imp pk_nil fun σ H Q ⟨m, env, s, r, E, g⟩ => g m H [] .refl r .nil
theorem ck_cons (ha : PE X e (Te X.K X.mg W fa)) (hr : PK X kws (Ta X.K X.mg W fs)) : PK X (⟨nm, e, kpos⟩ :: kws) (Ta X.K X.mg W (aCons fa fs)) :=
  PK.imp (pk_cons ha hr) fun σ H Q h => Tm.bind (k := fun env x s => (fs env s).bind fun xs s => R.ok (x :: xs) s) h fun m1 H1 env x v s1 r1 E1 p1 g1 =>
    ⟨m1, env, s1, r1, E1, G.bind g1 fun m2 H2 xs vs s2 l2 r2 p2 g2 => g2 m2 H2 _ .refl r2 (.cons (p1.mono l2) p2)⟩
noncomputable def eCallKw (is : List Nat) (g : List D → Store → R D) (a : ME (List D)) : ME D := fun env s => (a env s).bind fun xs s => g (permL is xs) s
theorem ce_callKw {k n : Nat} {f : Addr} {fd : FuncData} {ps ks : List Str} {x : Str} {p : Pos} {is : List Nat} {g : List D → Store → R D} (F : FnOk X.prog X.w X.K X.mg X.base (L2.CX X.prog X.w) k f fd ps (spM X.K X.mg n g)) (hr : Room k X.A) (tk : Takes X W) (hg : Gl X x) (hm : X.mg x = some (.ref f)) (hk : PySem.W.keepIn X.K (.ref f) = true) (hb : KBi X.K fd ps ks is)
    (hn : ∀ xs s env, ∀ s', fs env s = .ok xs s' → xs.length = ks.length) (hp : ∀ vs : List V, vs.length = ks.length → (permL is vs).length = n) (hkw : PK X kws (Ta X.K X.mg W fs)) (hdb : (x == ("__debug__" : Str)) = false := by decide)
    (hall : (backToKw pos (keywordEach kws X.env)).all (·.1.isSome) = true := by rfl) (hks : (backToKw pos (keywordEach kws X.env)).filterMap (·.1) = ks := by rfl)
    (hpl : ((backTo pos (starEach [] X.env)).any (·.1) || (backToKw pos (keywordEach kws X.env)).any (·.1.isNone)) = false := by rfl) :
    PE X (.Call (.Name x p) [] kws pos) (Te X.K X.mg W (eCallKw is g fs)) :=
  PE.imp (pe_callKw (E := WE W) F hr hg hm hk hb (fun σ => passAt tk σ) hkw hall hks hdb hpl) fun σ H Q h => by
    obtain ⟨m, env, s, r, E, g0⟩ := h
    refine ⟨m, env, s, r, E, ?_⟩
    unfold eCallKw at g0
    cases hf : fs env s with
    | ok xs s1 =>
      rw [hf] at g0
      intro m1 H1 vs l1 r1 p1
      have hl : vs.length = ks.length := by rw [← p1.length]; exact hn xs s env s1 hf
      refine ⟨hl, hp vs hl, m1, s1, permL is xs, r1, reps_perm p1 is, ?_⟩
      have g1 : G X.K X.mg (Rep X.K) W σ m H Q (g (permL is xs) s1) := g0
      have g2 := g1.mono l1
      cases hgx : g (permL is xs) s1 with
      | ok a s2 => rw [hgx] at g2; exact g2
      | ex x2 s2 => rw [hgx] at g2; exact g2
      | no => rw [hgx] at g2; exact g2
    | ex x s1 => rw [hf] at g0; exact g0
    | no => rw [hf] at g0; exact g0.elim
end
/-! ### z * k, a text -/
def repS (z : Str) (k : Int) : Str := ⟨(List.replicate k.toNat z.cps.toList).flatten.toArray⟩
theorem foldl_repS (its : List Nat) : ∀ (k : Nat) (acc : List Nat), List.foldl (fun x1 x2 => x1 ++ x2) acc.toArray (List.replicate k its.toArray) = (acc ++ (List.replicate k its).flatten).toArray
  | 0, acc => by simp
  | k + 1, acc => by
    rw [List.replicate_succ, List.foldl_cons, List.append_toArray, foldl_repS its k (acc ++ its), List.replicate_succ, List.flatten_cons, List.append_assoc]
theorem repS_length (z : Str) (k : Int) : (repS z k).length = k.toNat * z.length := by
  show (List.replicate k.toNat z.cps.toList).flatten.toArray.size = k.toNat * z.cps.size
  simp
def rMulS : R2 := fun x y H Q => ∃ (z : Str) (k : Int), x = .str z ∧ y = .int k ∧ 0 ≤ k ∧ k ≤ 1000000 ∧ z.length * k.toNat ≤ 1000000 ∧ Q (.str (repS z k)) H
theorem op_mulS {X : Cx} : OpR X (binaryOp .Mult) rMulS := by
  intro pins s σ H x y v u Q I rx ry h
  obtain ⟨z, k, rfl, rfl, h0, h1, hz, q⟩ := h
  obtain ⟨t, rfl⟩ := rx
  obtain ⟨t2, rfl⟩ := ry
  have hl : z.length * k.toNat ≤ sizeLine := le_line hz
  have tl : Builtin.Str.tooLong (z.length * k.toNat) = false := by
    unfold Builtin.Str.tooLong
    exact decide_eq_false (Nat.not_lt.mpr hl)
  refine PySem.P.mul_str ?_ (fun hn hk => ?_) (fun _ _ => tl) ?_
  · rw [decide_eq_false (by omega), decide_eq_false (by omega)]; rfl
  · have hk2 : (0 : Int) < k := by omega
    have e : ((2 : Int) ^ 63 - 1) / k ≥ z.length := by
      refine (Int.le_ediv_iff_mul_le hk2).mpr ?_
      have : (z.length : Int) * k ≤ 1000000 := by
        have e2 : ((z.length * k.toNat : Nat) : Int) = (z.length : Int) * k := by
          rw [Int.natCast_mul, Int.toNat_of_nonneg h0]
        rw [← e2]; omega
      omega
    omega
  · split
    · rename_i hn
      have : k = 0 := by omega
      subst this
      exact ⟨by decide, .str (repS z 0), H, I.tok _, ⟨_, rfl⟩, q⟩
    · rename_i hn
      split
      · rename_i hk
        refine ⟨.str (repS z k), H, I, ⟨t, ?_⟩, q⟩
        have : k = 1 ∨ z.length = 0 := by simpa using hk
        have e : repS z k = z := by
          rcases this with rfl | h
          · simp [repS]
          · obtain ⟨c⟩ := z
            have : c = #[] := by simpa [Str.length] using h
            subst this
            simp [repS]
        rw [e]
      · have e : (⟨(List.replicate k.toNat z.cps).foldl (· ++ ·) #[]⟩ : Str) = repS z k := by
          have := foldl_repS z.cps.toList k.toNat []
          unfold repS
          congr 1
        rw [e]
        refine ⟨?_, .str (repS z k), H, I.tok _, ⟨_, rfl⟩, q⟩
        rw [repS_length, Nat.mul_comm]
        exact hl
noncomputable def dMulS (x y : D) (s : Store) : Option (D × Store) := match x, y with
  | .str z, .int k => if 0 ≤ k ∧ k ≤ 1000000 ∧ z.length * k.toNat ≤ 1000000 then some (.str (repS z k), s) else none
  | _, _ => none
theorem ops_mulS {K : PySem.W.Frag} : OpS K rMulS dMulS := by
  intro mg W σ m H s x y dx dy Q r px py g
  unfold dMulS at g
  split at g
  · rename_i z k
    cases px; cases py
    split at g
    · rename_i hz
      exact ⟨z, k, rfl, rfl, hz.1, hz.2.1, hz.2.2, g.now r (.str _)⟩
    · exact g.elim
  · exact g.elim
theorem dMulS_str {z : Str} {k : Int} (h0 : 0 ≤ k) (h1 : k ≤ 1000000) (hz : z.length * k.toNat ≤ 1000000) (s : Store) : dMulS (.str z) (.int k) s = some (.str (repS z k), s) := if_pos ⟨h0, h1, hz⟩
end Mi
namespace Law
open PySem PySem.Spec PyProof.Rows L2 Mi
/-! ### the text -/
def topS (i : Nat) : Stmt := PySem.Challenge.pw_beforeinall_k17_bounds_of_records.main.body.getD i (.Pass ⟨0, 0, 0, 0⟩)
abbrev s_deed_places : Stmt := topS 1
abbrev s_bounding_parts : Stmt := topS 3
abbrev s_bound_of : Stmt := topS 4
abbrev s_d_law_pool : Stmt := topS 6
abbrev s_d_law_draw : Stmt := topS 7
abbrev s_d_law_names : Stmt := topS 8
abbrev s_d_law_frame : Stmt := topS 9
abbrev s_d_law_years : Stmt := topS 10
abbrev s_d_law_integer : Stmt := topS 11
abbrev s_d_law_other : Stmt := topS 12
abbrev s_d_law_dates : Stmt := topS 13
abbrev s_d_law_simple : Stmt := topS 14
abbrev s_d_law_lot : Stmt := topS 15
abbrev s_d_law_free : Stmt := topS 16
abbrev s_d_law_parts : Stmt := topS 17
abbrev s_d_law_bound : Stmt := topS 18
abbrev s_d_law_named : Stmt := topS 19
abbrev s_d_law_same : Stmt := topS 20
abbrev s_law : Stmt := topS 21
theorem sc_deed_places : FnScope ["book", "place", "deed"] ["book"] (defScope s_deed_places) := ⟨rfl, rfl, rfl, by decide +kernel, rfl, by decide +kernel, by decide +kernel⟩
theorem sc_bounding_parts : FnScope ["record", "way", "kind"] ["record", "way"] (defScope s_bounding_parts) := ⟨rfl, rfl, rfl, by decide +kernel, rfl, by decide +kernel, by decide +kernel⟩
theorem sc_bound_of : FnScope ["book", "record", "way", "deed", "dating", "bound", "places", "ends", "other", "least"] ["book", "record", "way", "deed", "dating"] (defScope s_bound_of) := ⟨rfl, rfl, rfl, by decide +kernel, rfl, by decide +kernel, by decide +kernel⟩
theorem sc_d_law_pool : FnScope ["script", "pool", "at", "cell"] ["script"] (defScope s_d_law_pool) := ⟨rfl, rfl, rfl, by decide +kernel, rfl, by decide +kernel, by decide +kernel⟩
theorem sc_d_law_draw : FnScope ["pool", "many", "cell", "mixed"] ["pool", "many"] (defScope s_d_law_draw) := ⟨rfl, rfl, rfl, by decide +kernel, rfl, by decide +kernel, by decide +kernel⟩
theorem sc_d_law_names : FnScope ["pool", "many", "letters", "signs", "style", "begin", "hop", "names", "at", "code"] ["pool", "many"] (defScope s_d_law_names) := ⟨rfl, rfl, rfl, by decide +kernel, rfl, by decide +kernel, by decide +kernel⟩
theorem sc_d_law_frame : FnScope ["pool", "habit", "width", "place", "first"] ["pool"] (defScope s_d_law_frame) := ⟨rfl, rfl, rfl, by decide +kernel, rfl, by decide +kernel, by decide +kernel⟩
theorem sc_d_law_years : FnScope ["pool", "first", "last", "many", "base", "habit", "years", "at"] ["pool", "first", "last", "many"] (defScope s_d_law_years) := ⟨rfl, rfl, rfl, by decide +kernel, rfl, by decide +kernel, by decide +kernel⟩
theorem sc_d_law_integer : FnScope ["pool", "aimed", "habit"] ["pool", "aimed"] (defScope s_d_law_integer) := ⟨rfl, rfl, rfl, by decide +kernel, rfl, by decide +kernel, by decide +kernel⟩
theorem sc_d_law_other : FnScope ["pool", "names", "deed", "others", "name"] ["pool", "names", "deed"] (defScope s_d_law_other) := ⟨rfl, rfl, rfl, by decide +kernel, rfl, by decide +kernel, by decide +kernel⟩
theorem sc_d_law_dates : FnScope ["pool", "first", "dates", "at", "place", "low", "high"] ["pool", "first"] (defScope s_d_law_dates) := ⟨rfl, rfl, rfl, by decide +kernel, rfl, by decide +kernel, by decide +kernel⟩
theorem sc_d_law_simple : FnScope ["pool", "names", "years", "first", "deed", "other"] ["pool", "names", "years", "first"] (defScope s_d_law_simple) := ⟨rfl, rfl, rfl, by decide +kernel, rfl, by decide +kernel, by decide +kernel⟩
theorem sc_d_law_lot : FnScope ["pool", "names", "years", "kind", "deed", "parts", "place", "other", "aimed"] ["pool", "names", "years", "kind"] (defScope s_d_law_lot) := ⟨rfl, rfl, rfl, by decide +kernel, rfl, by decide +kernel, by decide +kernel⟩
theorem sc_d_law_free : FnScope ["pool", "names", "years", "first", "sides", "place", "more"] ["pool", "names", "years", "first"] (defScope s_d_law_free) := ⟨rfl, rfl, rfl, by decide +kernel, rfl, by decide +kernel, by decide +kernel⟩
theorem sc_d_law_parts : FnScope ["record", "way", "deed"] ["record", "way", "deed"] (defScope s_d_law_parts) := ⟨rfl, rfl, rfl, by decide +kernel, rfl, by decide +kernel, by decide +kernel⟩
theorem sc_d_law_bound : FnScope ["record", "way", "deed", "years", "many", "parts", "best", "reached", "value", "other", "least", "one"] ["record", "way", "deed", "years"] (defScope s_d_law_bound) := ⟨rfl, rfl, rfl, by decide +kernel, rfl, by decide +kernel, by decide +kernel⟩
theorem sc_d_law_named : FnScope ["record", "parts"] ["record"] (defScope s_d_law_named) := ⟨rfl, rfl, rfl, by decide +kernel, rfl, by decide +kernel, by decide +kernel⟩
theorem sc_d_law_same : FnScope ["told", "due"] ["told", "due"] (defScope s_d_law_same) := ⟨rfl, rfl, rfl, by decide +kernel, rfl, by decide +kernel, by decide +kernel⟩
theorem sc_law : FnScope ["script", "pool", "large", "many", "first", "last", "row", "names", "years", "aimed", "records", "kind", "left_out", "at", "told_of", "deeds", "book", "deed", "dating", "asked", "record", "way", "due", "empty", "dues"] ["script"] (defScope s_law) := ⟨rfl, rfl, rfl, by decide +kernel, rfl, by decide +kernel, by decide +kernel⟩
/-! ### what the top has left -/
structure Fx (K : PySem.W.Frag) (mg : Str → Option Value) where
  a_deed_places : Addr
  d_deed_places : FuncData
  F_deed_places : Fun K "deed_places" "deed_places" s_deed_places a_deed_places d_deed_places
  g_deed_places : mg "deed_places" = some (.ref a_deed_places)
  a_bounding_parts : Addr
  d_bounding_parts : FuncData
  F_bounding_parts : Fun K "bounding_parts" "bounding_parts" s_bounding_parts a_bounding_parts d_bounding_parts
  g_bounding_parts : mg "bounding_parts" = some (.ref a_bounding_parts)
  a_bound_of : Addr
  d_bound_of : FuncData
  F_bound_of : Fun K "bound_of" "bound_of" s_bound_of a_bound_of d_bound_of
  g_bound_of : mg "bound_of" = some (.ref a_bound_of)
  a_d_law_pool : Addr
  d_d_law_pool : FuncData
  F_d_law_pool : Fun K "_law_pool" "_law_pool" s_d_law_pool a_d_law_pool d_d_law_pool
  g_d_law_pool : mg "_law_pool" = some (.ref a_d_law_pool)
  a_d_law_draw : Addr
  d_d_law_draw : FuncData
  F_d_law_draw : Fun K "_law_draw" "_law_draw" s_d_law_draw a_d_law_draw d_d_law_draw
  g_d_law_draw : mg "_law_draw" = some (.ref a_d_law_draw)
  a_d_law_names : Addr
  d_d_law_names : FuncData
  F_d_law_names : Fun K "_law_names" "_law_names" s_d_law_names a_d_law_names d_d_law_names
  g_d_law_names : mg "_law_names" = some (.ref a_d_law_names)
  a_d_law_frame : Addr
  d_d_law_frame : FuncData
  F_d_law_frame : Fun K "_law_frame" "_law_frame" s_d_law_frame a_d_law_frame d_d_law_frame
  g_d_law_frame : mg "_law_frame" = some (.ref a_d_law_frame)
  a_d_law_years : Addr
  d_d_law_years : FuncData
  F_d_law_years : Fun K "_law_years" "_law_years" s_d_law_years a_d_law_years d_d_law_years
  g_d_law_years : mg "_law_years" = some (.ref a_d_law_years)
  a_d_law_integer : Addr
  d_d_law_integer : FuncData
  F_d_law_integer : Fun K "_law_integer" "_law_integer" s_d_law_integer a_d_law_integer d_d_law_integer
  g_d_law_integer : mg "_law_integer" = some (.ref a_d_law_integer)
  a_d_law_other : Addr
  d_d_law_other : FuncData
  F_d_law_other : Fun K "_law_other" "_law_other" s_d_law_other a_d_law_other d_d_law_other
  g_d_law_other : mg "_law_other" = some (.ref a_d_law_other)
  a_d_law_dates : Addr
  d_d_law_dates : FuncData
  F_d_law_dates : Fun K "_law_dates" "_law_dates" s_d_law_dates a_d_law_dates d_d_law_dates
  g_d_law_dates : mg "_law_dates" = some (.ref a_d_law_dates)
  a_d_law_simple : Addr
  d_d_law_simple : FuncData
  F_d_law_simple : Fun K "_law_simple" "_law_simple" s_d_law_simple a_d_law_simple d_d_law_simple
  g_d_law_simple : mg "_law_simple" = some (.ref a_d_law_simple)
  a_d_law_lot : Addr
  d_d_law_lot : FuncData
  F_d_law_lot : Fun K "_law_lot" "_law_lot" s_d_law_lot a_d_law_lot d_d_law_lot
  g_d_law_lot : mg "_law_lot" = some (.ref a_d_law_lot)
  a_d_law_free : Addr
  d_d_law_free : FuncData
  F_d_law_free : Fun K "_law_free" "_law_free" s_d_law_free a_d_law_free d_d_law_free
  g_d_law_free : mg "_law_free" = some (.ref a_d_law_free)
  a_d_law_parts : Addr
  d_d_law_parts : FuncData
  F_d_law_parts : Fun K "_law_parts" "_law_parts" s_d_law_parts a_d_law_parts d_d_law_parts
  g_d_law_parts : mg "_law_parts" = some (.ref a_d_law_parts)
  a_d_law_bound : Addr
  d_d_law_bound : FuncData
  F_d_law_bound : Fun K "_law_bound" "_law_bound" s_d_law_bound a_d_law_bound d_d_law_bound
  g_d_law_bound : mg "_law_bound" = some (.ref a_d_law_bound)
  a_d_law_named : Addr
  d_d_law_named : FuncData
  F_d_law_named : Fun K "_law_named" "_law_named" s_d_law_named a_d_law_named d_d_law_named
  g_d_law_named : mg "_law_named" = some (.ref a_d_law_named)
  a_d_law_same : Addr
  d_d_law_same : FuncData
  F_d_law_same : Fun K "_law_same" "_law_same" s_d_law_same a_d_law_same d_d_law_same
  g_d_law_same : mg "_law_same" = some (.ref a_d_law_same)
  a_law : Addr
  d_law : FuncData
  F_law : Fun K "law" "law" s_law a_law d_law
  g_law : mg "law" = some (.ref a_law)
  b_bool : mg "bool" = none
  b_dict : mg "dict" = none
  b_enumerate : mg "enumerate" = none
  b_int : mg "int" = none
  b_isinstance : mg "isinstance" = none
  b_len : mg "len" = none
  b_list : mg "list" = none
  b_max : mg "max" = none
  b_min : mg "min" = none
  b_range : mg "range" = none
  b_sorted : mg "sorted" = none
  b_str : mg "str" = none
  b_tuple : mg "tuple" = none
  b_zip : mg "zip" = none
variable {P : Program} {w : World} {K : PySem.W.Frag} {mg : Str → Option Value} {base : Heap}
theorem bd_deed_places (X : Fx K mg) : Binds K X.d_deed_places ["book"] [] := X.F_deed_places.binds (ps := ["book"]) fun _ _ _ _ _ _ us hl => match us, hl with | [_], _ => rfl
theorem bd_bounding_parts (X : Fx K mg) : Binds K X.d_bounding_parts ["record", "way"] [] := X.F_bounding_parts.binds (ps := ["record", "way"]) fun _ _ _ _ _ _ us hl => match us, hl with | [_, _], _ => rfl
theorem bd_bound_of (X : Fx K mg) : Binds K X.d_bound_of ["book", "record", "way", "deed", "dating"] [] := X.F_bound_of.binds (ps := ["book", "record", "way", "deed", "dating"]) fun _ _ _ _ _ _ us hl => match us, hl with | [_, _, _, _, _], _ => rfl
theorem bd_d_law_pool (X : Fx K mg) : Binds K X.d_d_law_pool ["script"] [] := X.F_d_law_pool.binds (ps := ["script"]) fun _ _ _ _ _ _ us hl => match us, hl with | [_], _ => rfl
theorem bd_d_law_draw (X : Fx K mg) : Binds K X.d_d_law_draw ["pool", "many"] [] := X.F_d_law_draw.binds (ps := ["pool", "many"]) fun _ _ _ _ _ _ us hl => match us, hl with | [_, _], _ => rfl
theorem bd_d_law_names (X : Fx K mg) : Binds K X.d_d_law_names ["pool", "many"] [] := X.F_d_law_names.binds (ps := ["pool", "many"]) fun _ _ _ _ _ _ us hl => match us, hl with | [_, _], _ => rfl
theorem bd_d_law_frame (X : Fx K mg) : Binds K X.d_d_law_frame ["pool"] [] := X.F_d_law_frame.binds (ps := ["pool"]) fun _ _ _ _ _ _ us hl => match us, hl with | [_], _ => rfl
theorem bd_d_law_years (X : Fx K mg) : Binds K X.d_d_law_years ["pool", "first", "last", "many"] [] := X.F_d_law_years.binds (ps := ["pool", "first", "last", "many"]) fun _ _ _ _ _ _ us hl => match us, hl with | [_, _, _, _], _ => rfl
theorem bd_d_law_integer (X : Fx K mg) : Binds K X.d_d_law_integer ["pool", "aimed"] [] := X.F_d_law_integer.binds (ps := ["pool", "aimed"]) fun _ _ _ _ _ _ us hl => match us, hl with | [_, _], _ => rfl
theorem bd_d_law_other (X : Fx K mg) : Binds K X.d_d_law_other ["pool", "names", "deed"] [] := X.F_d_law_other.binds (ps := ["pool", "names", "deed"]) fun _ _ _ _ _ _ us hl => match us, hl with | [_, _, _], _ => rfl
theorem bd_d_law_dates (X : Fx K mg) : Binds K X.d_d_law_dates ["pool", "first"] [] := X.F_d_law_dates.binds (ps := ["pool", "first"]) fun _ _ _ _ _ _ us hl => match us, hl with | [_, _], _ => rfl
theorem bd_d_law_simple (X : Fx K mg) : Binds K X.d_d_law_simple ["pool", "names", "years", "first"] [] := X.F_d_law_simple.binds (ps := ["pool", "names", "years", "first"]) fun _ _ _ _ _ _ us hl => match us, hl with | [_, _, _, _], _ => rfl
theorem bd_d_law_lot (X : Fx K mg) : Binds K X.d_d_law_lot ["pool", "names", "years", "kind"] [] := X.F_d_law_lot.binds (ps := ["pool", "names", "years", "kind"]) fun _ _ _ _ _ _ us hl => match us, hl with | [_, _, _, _], _ => rfl
theorem bd_d_law_free (X : Fx K mg) : Binds K X.d_d_law_free ["pool", "names", "years", "first"] [] := X.F_d_law_free.binds (ps := ["pool", "names", "years", "first"]) fun _ _ _ _ _ _ us hl => match us, hl with | [_, _, _, _], _ => rfl
theorem bd_d_law_parts (X : Fx K mg) : Binds K X.d_d_law_parts ["record", "way", "deed"] [] := X.F_d_law_parts.binds (ps := ["record", "way", "deed"]) fun _ _ _ _ _ _ us hl => match us, hl with | [_, _, _], _ => rfl
theorem bd_d_law_bound (X : Fx K mg) : Binds K X.d_d_law_bound ["record", "way", "deed", "years"] [] := X.F_d_law_bound.binds (ps := ["record", "way", "deed", "years"]) fun _ _ _ _ _ _ us hl => match us, hl with | [_, _, _, _], _ => rfl
theorem bd_d_law_named (X : Fx K mg) : Binds K X.d_d_law_named ["record"] [] := X.F_d_law_named.binds (ps := ["record"]) fun _ _ _ _ _ _ us hl => match us, hl with | [_], _ => rfl
theorem bd_d_law_same (X : Fx K mg) : Binds K X.d_d_law_same ["told", "due"] [] := X.F_d_law_same.binds (ps := ["told", "due"]) fun _ _ _ _ _ _ us hl => match us, hl with | [_, _], _ => rfl
theorem bd_law (X : Fx K mg) : Binds K X.d_law ["script"] [] := X.F_law.binds (ps := ["script"]) fun _ _ _ _ _ _ us hl => match us, hl with | [_], _ => rfl
theorem kb_bound_of_0 (X : Fx K mg) : KBi K X.d_bound_of ["book", "record", "way", "deed", "dating"] ["dating", "deed", "way", "record", "book"] [4, 3, 2, 1, 0] := kbi X.F_bound_of fun _ _ _ _ _ _ us hl => match us, hl with | [_, _, _, _, _], _ => rfl
/-! ### mirrors and derivations -/
noncomputable def le_deed_places_1 : ME D := eV 1
noncomputable def ke_deed_places_2 : ME D := eV 2
noncomputable def b_deed_places : MS := sRet (eDc (iEnm (aCons (e2 dIxZ (eV 0) (eC (.int 2))) (aNil))) [1, 2] (gT 2 (gsC (gN 1) (gsC (gN 2) (gsN)))) (tT) (ke_deed_places_2) (le_deed_places_1))
noncomputable def m_deed_places : List D → Store → R D := fnM 3 1 b_deed_places
theorem ok_deed_places (X : Fx K mg) : FnOk P w K mg base (L2.CX P w) 1 X.a_deed_places X.d_deed_places ["book"] (spM K mg 1 m_deed_places) :=
  okM (k := 0) X.F_deed_places sc_deed_places rfl fun cdv A outer s H E hr tk =>
    (css_one (cs_ret (ce_dc (own := [("place", 1), ("deed", 2)]) rfl sc_deed_places.nd (ci_enum (by rfl) X.b_enumerate (ca_cons (ce_ix (ix_Z hr.units) ops_ixZ (ce_v 0) (ce_int) (fun _ _ => rfl)) (ca_nil))) (blkOk_by (N := ["book", "place", "deed"]) (sc := defScope s_deed_places) (by decide +kernel)) (fun _ _ _ _ _ => cg_tup (n := 2) rfl (cgs_cons (us := [1, 2]) (cg_name (i := 1) sc_deed_places.nd rfl (by first | exact Or.inl rfl | exact Or.inr rfl)) (cgs_cons (us := [2]) (cg_name (i := 2) sc_deed_places.nd rfl (by first | exact Or.inl rfl | exact Or.inr rfl)) (cgs_nil (vs := []))))) (fun _ _ _ _ _ => cts_nil) (fun _ _ _ _ _ => ce_v 2) (fun _ _ _ _ _ => ce_v 1))) :
      PSs _ _ (Ts _ _ _ b_deed_places))
noncomputable def b_bounding_parts : MS := sSeq (sSet 2 (e2 dIxZ (eV 0) (eC (.int 0))))
  (sSeq (sIf (tV (e2 dEq (eV 2) (eC (.str "gap")))) (sSeq (sIf (tV (e2 dEq (eV 1) (eC (.str "ante")))) (sRet (eTup (aCons (e2 dIxZ (eV 0) (eC (.int 1))) (aCons (eC (.int 1)) (aCons (eTup (aCons (eTup (aCons (e2 dIxZ (eV 0) (eC (.int 2))) (aCons (e2 dIxZ (eV 0) (eC (.int 3))) (aNil)))) (aNil))) (aNil)))))) (sNil))
  (sRet (eTup (aCons (e2 dIxZ (eV 0) (eC (.int 2))) (aCons (eC (.int 1)) (aCons (eTup (aCons (eTup (aCons (e2 dIxZ (eV 0) (eC (.int 1))) (aCons (e2 dIxZ (eV 0) (eC (.int 3))) (aNil)))) (aNil))) (aNil))))))) (sNil))
  (sSeq (sIf (tOr (tAnd (tV (e2 dEq (eV 2) (eC (.str "under")))) (tV (e2 dEq (eV 1) (eC (.str "ante"))))) (tAnd (tV (e2 dEq (eV 2) (eC (.str "over")))) (tV (e2 dEq (eV 1) (eC (.str "post")))))) (sRet (eTup (aCons (e2 dIxZ (eV 0) (eC (.int 1))) (aCons (e2 dIxZ (eV 0) (eC (.int 2))) (aCons (e2 dIxZ (eV 0) (eC (.int 3))) (aNil)))))) (sNil))
  (sRet (eC .non))))
noncomputable def m_bounding_parts : List D → Store → R D := fnM 3 2 b_bounding_parts
theorem ok_bounding_parts (X : Fx K mg) : FnOk P w K mg base (L2.CX P w) 1 X.a_bounding_parts X.d_bounding_parts ["record", "way"] (spM K mg 2 m_bounding_parts) :=
  okM (k := 0) X.F_bounding_parts sc_bounding_parts rfl fun cdv A outer s H E hr tk =>
    (css_cons (cs_set (j := 2) sc_bounding_parts.nd rfl (Or.inl rfl) (ce_ix (ix_Z hr.units) ops_ixZ (ce_v 0) (ce_int) (fun _ _ => rfl)))
    (css_cons (cs_if (ct_cmp (opA_eq hr.units) ops_eq (ce_v 2) (ce_str) (nomark _)) (css_cons (cs_if (ct_cmp (opA_eq hr.units) ops_eq (ce_v 1) (ce_str) (nomark _)) (css_one (cs_ret (ce_tup (ca_cons (ce_ix (ix_Z hr.units) ops_ixZ (ce_v 0) (ce_int) (fun _ _ => rfl)) (ca_cons (ce_int) (ca_cons (ce_tup (ca_cons (ce_tup (ca_cons (ce_ix (ix_Z hr.units) ops_ixZ (ce_v 0) (ce_int) (fun _ _ => rfl)) (ca_cons (ce_ix (ix_Z hr.units) ops_ixZ (ce_v 0) (ce_int) (fun _ _ => rfl)) (ca_nil)))) (ca_nil))) (ca_nil))))))) (css_nil))
    (css_one (cs_ret (ce_tup (ca_cons (ce_ix (ix_Z hr.units) ops_ixZ (ce_v 0) (ce_int) (fun _ _ => rfl)) (ca_cons (ce_int) (ca_cons (ce_tup (ca_cons (ce_tup (ca_cons (ce_ix (ix_Z hr.units) ops_ixZ (ce_v 0) (ce_int) (fun _ _ => rfl)) (ca_cons (ce_ix (ix_Z hr.units) ops_ixZ (ce_v 0) (ce_int) (fun _ _ => rfl)) (ca_nil)))) (ca_nil))) (ca_nil)))))))) (css_nil))
    (css_cons (cs_if (PW.pt (cw_or (PW.pt (cw_and (ct_cmp (opA_eq hr.units) ops_eq (ce_v 2) (ce_str) (nomark _)) (cw_and1 (ct_cmp (opA_eq hr.units) ops_eq (ce_v 1) (ce_str) (nomark _))))) (cw_or1 (PW.pt (cw_and (ct_cmp (opA_eq hr.units) ops_eq (ce_v 2) (ce_str) (nomark _)) (cw_and1 (ct_cmp (opA_eq hr.units) ops_eq (ce_v 1) (ce_str) (nomark _)))))))) (css_one (cs_ret (ce_tup (ca_cons (ce_ix (ix_Z hr.units) ops_ixZ (ce_v 0) (ce_int) (fun _ _ => rfl)) (ca_cons (ce_ix (ix_Z hr.units) ops_ixZ (ce_v 0) (ce_int) (fun _ _ => rfl)) (ca_cons (ce_ix (ix_Z hr.units) ops_ixZ (ce_v 0) (ce_int) (fun _ _ => rfl)) (ca_nil))))))) (css_nil))
    (css_one (cs_ret (ce_non))))) :
      PSs _ _ (Ts _ _ _ b_bounding_parts))
noncomputable def bl_d_law_pool_1 : MS := sSeq (sSet 3 (e2 dIxZ (eV 0) (eV 2)))
  (sSeq (sPut pAny (eV 1) (eC (.int 0)) (e2 dMod (eFn dInt (aCons (e2 dAdd (e2 dAdd (e2 dAdd (e2 dMul (e2 dIxZ (eV 1) (eC (.int 0))) (eC (.int 8117))) (e2 dMul (eV 3) (eC (.int 29)))) (eV 2)) (eC (.int 3))) (aNil))) (eC (.int 2147483647))))
  (sIf (tV (e2 dGe (eV 3) (e2 dPow (eC (.int 10)) (eC (.int 18))))) (sExpr (eMt "list" dAppend (e2 dIxZ (eV 1) (eC (.int 1))) (aCons (eV 3) (aNil)))) (sNil)))
noncomputable def b_d_law_pool : MS := sSeq (sSet 1 (eLst (aCons (eC (.int 5167)) (aCons (eLst (aNil)) (aNil)))))
  (sSeq (sFor (iRange1 (aCons (eFn dMin2 (aCons (eFn dLen (aCons (eV 0) (aNil))) (aCons (eC (.int 63)) (aNil)))) (aNil))) (gN 2) (bl_d_law_pool_1))
  (sRet (eV 1)))
noncomputable def m_d_law_pool : List D → Store → R D := fnM 4 1 b_d_law_pool
theorem ok_d_law_pool (X : Fx K mg) : FnOk P w K mg base (L2.CX P w) 1 X.a_d_law_pool X.d_d_law_pool ["script"] (spM K mg 1 m_d_law_pool) :=
  okM (k := 0) X.F_d_law_pool sc_d_law_pool rfl fun cdv A outer s H E hr tk =>
    (css_cons (cs_set (j := 1) sc_d_law_pool.nd rfl (Or.inl rfl) (ce_lst (ca_cons (ce_int) (ca_cons (ce_lst (ca_nil)) (ca_nil)))))
    (css_cons (cs_for (passes_of rfl) rfl (ci_range1 (by rfl) X.b_range (ca_cons (ce_callB (call_min2 rfl) fns_min2 (by rfl) X.b_min (by decide +kernel) (ca_cons (ce_callB call_len fns_len (by rfl) X.b_len (by decide +kernel) (ca_cons (ce_v 0) (ca_nil))) (ca_cons (ce_int) (ca_nil)))) (ca_nil))) (cg_name (i := 2) sc_d_law_pool.nd rfl (by first | exact Or.inl rfl | exact Or.inr rfl)) (css_cons (cs_set (j := 3) sc_d_law_pool.nd rfl (Or.inl rfl) (ce_ix (ix_Z hr.units) ops_ixZ (ce_v 0) (ce_v 2) (fun _ _ => rfl)))
    (css_cons (cs_put (ce_op op_mod ops_mod (ce_callTy call_int1 fns_int (by rfl) X.b_int (by decide +kernel) (ca_cons (ce_op op_addA ops_add (ce_op op_addA ops_add (ce_op op_addA ops_add (ce_op op_mul ops_mul (ce_ix (ix_Z hr.units) ops_ixZ (ce_v 1) (ce_int) (fun _ _ => rfl)) (ce_int)) (ce_op op_mul ops_mul (ce_v 3) (ce_int))) (ce_v 2)) (ce_int)) (ca_nil))) (ce_int)) (ce_v 1) (ce_int) (set_any hr.units) puts_any)
    (css_one (cs_if (ct_cmp opA_ge ops_ge (ce_v 3) (ce_op op_pow ops_pow (ce_int) (ce_int)) (nomark _)) (css_one (cs_expr (ce_bm PySem.F.plainAttrs_list PySem.F.slot_list_append PySem.F.type_list_append mt_append mts_append (ce_ix (ix_Z hr.units) ops_ixZ (ce_v 1) (ce_int) (fun _ _ => rfl)) (ca_cons (ce_v 3) (ca_nil))))) (css_nil))))))
    (css_one (cs_ret (ce_v 1)))) :
      PSs _ _ (Ts _ _ _ b_d_law_pool))
noncomputable def b_d_law_draw : MS := sSeq (sIf (tTru (e2 dIxZ (eV 0) (eC (.int 1)))) (sSeq (sSet 2 (eMt0 "list" dPop (e2 dIxZ (eV 0) (eC (.int 1)))))
  (sSeq (sIf (tV (e2 dGe (eV 2) (eV 1))) (sExpr (eMt "list" dAppend (e2 dIxZ (eV 0) (eC (.int 1))) (aCons (e2 dDiv (eV 2) (eV 1)) (aNil)))) (sNil))
  (sRet (e2 dMod (eFn dInt (aCons (eV 2) (aNil))) (eV 1))))) (sNil))
  (sSeq (sPut pAny (eV 0) (eC (.int 0)) (e2 dMod (eFn dInt (aCons (e2 dAdd (e2 dMul (e2 dIxZ (eV 0) (eC (.int 0))) (eC (.int 48271))) (eC (.int 12345))) (aNil))) (eC (.int 2147483647))))
  (sSeq (sSet 3 (e2 dMod (eFn dInt (aCons (e2 dAdd (e2 dMul (e2 dAdd (e2 dDiv (e2 dIxZ (eV 0) (eC (.int 0))) (eC (.int 64))) (eC (.int 1))) (eC (.int 69621))) (e2 dIxZ (eV 0) (eC (.int 0)))) (aNil))) (eC (.int 2147483629))))
  (sRet (e2 dMod (eFn dInt (aCons (e2 dDiv (eV 3) (eC (.int 5))) (aNil))) (eV 1)))))
noncomputable def m_d_law_draw : List D → Store → R D := fnM 4 2 b_d_law_draw
theorem ok_d_law_draw (X : Fx K mg) : FnOk P w K mg base (L2.CX P w) 1 X.a_d_law_draw X.d_d_law_draw ["pool", "many"] (spM K mg 2 m_d_law_draw) :=
  okM (k := 0) X.F_d_law_draw sc_d_law_draw rfl fun cdv A outer s H E hr tk =>
    (css_cons (cs_if (ct_tru (ce_ix (ix_Z hr.units) ops_ixZ (ce_v 0) (ce_int) (fun _ _ => rfl))) (css_cons (cs_set (j := 2) sc_d_law_draw.nd rfl (Or.inl rfl) (ce_bm0 PySem.F.plainAttrs_list PySem.F.slot_list_pop PySem.F.type_list_pop mt_pop mts_pop (ce_ix (ix_Z hr.units) ops_ixZ (ce_v 0) (ce_int) (fun _ _ => rfl))))
    (css_cons (cs_if (ct_cmp opA_ge ops_ge (ce_v 2) (ce_v 1) (nomark _)) (css_one (cs_expr (ce_bm PySem.F.plainAttrs_list PySem.F.slot_list_append PySem.F.type_list_append mt_append mts_append (ce_ix (ix_Z hr.units) ops_ixZ (ce_v 0) (ce_int) (fun _ _ => rfl)) (ca_cons (ce_op op_fdiv ops_div (ce_v 2) (ce_v 1)) (ca_nil))))) (css_nil))
    (css_one (cs_ret (ce_op op_mod ops_mod (ce_callTy call_int1 fns_int (by rfl) X.b_int (by decide +kernel) (ca_cons (ce_v 2) (ca_nil))) (ce_v 1)))))) (css_nil))
    (css_cons (cs_put (ce_op op_mod ops_mod (ce_callTy call_int1 fns_int (by rfl) X.b_int (by decide +kernel) (ca_cons (ce_op op_addA ops_add (ce_op op_mul ops_mul (ce_ix (ix_Z hr.units) ops_ixZ (ce_v 0) (ce_int) (fun _ _ => rfl)) (ce_int)) (ce_int)) (ca_nil))) (ce_int)) (ce_v 0) (ce_int) (set_any hr.units) puts_any)
    (css_cons (cs_set (j := 3) sc_d_law_draw.nd rfl (Or.inl rfl) (ce_op op_mod ops_mod (ce_callTy call_int1 fns_int (by rfl) X.b_int (by decide +kernel) (ca_cons (ce_op op_addA ops_add (ce_op op_mul ops_mul (ce_op op_addA ops_add (ce_op op_fdiv ops_div (ce_ix (ix_Z hr.units) ops_ixZ (ce_v 0) (ce_int) (fun _ _ => rfl)) (ce_int)) (ce_int)) (ce_int)) (ce_ix (ix_Z hr.units) ops_ixZ (ce_v 0) (ce_int) (fun _ _ => rfl))) (ca_nil))) (ce_int)))
    (css_one (cs_ret (ce_op op_mod ops_mod (ce_callTy call_int1 fns_int (by rfl) X.b_int (by decide +kernel) (ca_cons (ce_op op_fdiv ops_div (ce_v 3) (ce_int)) (ca_nil))) (ce_v 1)))))) :
      PSs _ _ (Ts _ _ _ b_d_law_draw))
noncomputable def b_d_law_parts : MS := sSeq (sIf (tAnd (tV (e2 dEq (e2 dIxZ (eV 0) (eC (.int 0))) (eC (.str "gap")))) (tAnd (tV (e2 dEq (eV 1) (eC (.str "ante")))) (tV (e2 dEq (e2 dIxZ (eV 0) (eC (.int 1))) (eV 2))))) (sRet (eTup (aCons (eC (.int 1)) (aCons (eLst (aCons (eTup (aCons (e2 dIxZ (eV 0) (eC (.int 2))) (aCons (e2 dIxZ (eV 0) (eC (.int 3))) (aNil)))) (aNil))) (aNil))))) (sNil))
  (sSeq (sIf (tAnd (tV (e2 dEq (e2 dIxZ (eV 0) (eC (.int 0))) (eC (.str "gap")))) (tAnd (tV (e2 dEq (eV 1) (eC (.str "post")))) (tV (e2 dEq (e2 dIxZ (eV 0) (eC (.int 2))) (eV 2))))) (sRet (eTup (aCons (eC (.int 1)) (aCons (eLst (aCons (eTup (aCons (e2 dIxZ (eV 0) (eC (.int 1))) (aCons (e2 dIxZ (eV 0) (eC (.int 3))) (aNil)))) (aNil))) (aNil))))) (sNil))
  (sSeq (sIf (tAnd (tV (e2 dEq (e2 dIxZ (eV 0) (eC (.int 0))) (eC (.str "under")))) (tAnd (tV (e2 dEq (eV 1) (eC (.str "ante")))) (tV (e2 dEq (e2 dIxZ (eV 0) (eC (.int 1))) (eV 2))))) (sRet (eTup (aCons (e2 dIxZ (eV 0) (eC (.int 2))) (aCons (eFn dListA (aCons (e2 dIxZ (eV 0) (eC (.int 3))) (aNil))) (aNil))))) (sNil))
  (sSeq (sIf (tAnd (tV (e2 dEq (e2 dIxZ (eV 0) (eC (.int 0))) (eC (.str "over")))) (tAnd (tV (e2 dEq (eV 1) (eC (.str "post")))) (tV (e2 dEq (e2 dIxZ (eV 0) (eC (.int 1))) (eV 2))))) (sRet (eTup (aCons (e2 dIxZ (eV 0) (eC (.int 2))) (aCons (eFn dListA (aCons (e2 dIxZ (eV 0) (eC (.int 3))) (aNil))) (aNil))))) (sNil))
  (sRet (eTup (aCons (eC (.int 1)) (aCons (eLst (aNil)) (aNil))))))))
noncomputable def m_d_law_parts : List D → Store → R D := fnM 3 3 b_d_law_parts
theorem ok_d_law_parts (X : Fx K mg) : FnOk P w K mg base (L2.CX P w) 1 X.a_d_law_parts X.d_d_law_parts ["record", "way", "deed"] (spM K mg 3 m_d_law_parts) :=
  okM (k := 0) X.F_d_law_parts sc_d_law_parts rfl fun cdv A outer s H E hr tk =>
    (css_cons (cs_if (PW.pt (cw_and (ct_cmp (opA_eq hr.units) ops_eq (ce_ix (ix_Z hr.units) ops_ixZ (ce_v 0) (ce_int) (fun _ _ => rfl)) (ce_str) (nomark _)) (cw_and (ct_cmp (opA_eq hr.units) ops_eq (ce_v 1) (ce_str) (nomark _)) (cw_and1 (ct_cmp (opA_eq hr.units) ops_eq (ce_ix (ix_Z hr.units) ops_ixZ (ce_v 0) (ce_int) (fun _ _ => rfl)) (ce_v 2) (nomark _)))))) (css_one (cs_ret (ce_tup (ca_cons (ce_int) (ca_cons (ce_lst (ca_cons (ce_tup (ca_cons (ce_ix (ix_Z hr.units) ops_ixZ (ce_v 0) (ce_int) (fun _ _ => rfl)) (ca_cons (ce_ix (ix_Z hr.units) ops_ixZ (ce_v 0) (ce_int) (fun _ _ => rfl)) (ca_nil)))) (ca_nil))) (ca_nil)))))) (css_nil))
    (css_cons (cs_if (PW.pt (cw_and (ct_cmp (opA_eq hr.units) ops_eq (ce_ix (ix_Z hr.units) ops_ixZ (ce_v 0) (ce_int) (fun _ _ => rfl)) (ce_str) (nomark _)) (cw_and (ct_cmp (opA_eq hr.units) ops_eq (ce_v 1) (ce_str) (nomark _)) (cw_and1 (ct_cmp (opA_eq hr.units) ops_eq (ce_ix (ix_Z hr.units) ops_ixZ (ce_v 0) (ce_int) (fun _ _ => rfl)) (ce_v 2) (nomark _)))))) (css_one (cs_ret (ce_tup (ca_cons (ce_int) (ca_cons (ce_lst (ca_cons (ce_tup (ca_cons (ce_ix (ix_Z hr.units) ops_ixZ (ce_v 0) (ce_int) (fun _ _ => rfl)) (ca_cons (ce_ix (ix_Z hr.units) ops_ixZ (ce_v 0) (ce_int) (fun _ _ => rfl)) (ca_nil)))) (ca_nil))) (ca_nil)))))) (css_nil))
    (css_cons (cs_if (PW.pt (cw_and (ct_cmp (opA_eq hr.units) ops_eq (ce_ix (ix_Z hr.units) ops_ixZ (ce_v 0) (ce_int) (fun _ _ => rfl)) (ce_str) (nomark _)) (cw_and (ct_cmp (opA_eq hr.units) ops_eq (ce_v 1) (ce_str) (nomark _)) (cw_and1 (ct_cmp (opA_eq hr.units) ops_eq (ce_ix (ix_Z hr.units) ops_ixZ (ce_v 0) (ce_int) (fun _ _ => rfl)) (ce_v 2) (nomark _)))))) (css_one (cs_ret (ce_tup (ca_cons (ce_ix (ix_Z hr.units) ops_ixZ (ce_v 0) (ce_int) (fun _ _ => rfl)) (ca_cons (ce_callTy (call_listA rfl) fns_listA (by rfl) X.b_list (by decide +kernel) (ca_cons (ce_ix (ix_Z hr.units) ops_ixZ (ce_v 0) (ce_int) (fun _ _ => rfl)) (ca_nil))) (ca_nil)))))) (css_nil))
    (css_cons (cs_if (PW.pt (cw_and (ct_cmp (opA_eq hr.units) ops_eq (ce_ix (ix_Z hr.units) ops_ixZ (ce_v 0) (ce_int) (fun _ _ => rfl)) (ce_str) (nomark _)) (cw_and (ct_cmp (opA_eq hr.units) ops_eq (ce_v 1) (ce_str) (nomark _)) (cw_and1 (ct_cmp (opA_eq hr.units) ops_eq (ce_ix (ix_Z hr.units) ops_ixZ (ce_v 0) (ce_int) (fun _ _ => rfl)) (ce_v 2) (nomark _)))))) (css_one (cs_ret (ce_tup (ca_cons (ce_ix (ix_Z hr.units) ops_ixZ (ce_v 0) (ce_int) (fun _ _ => rfl)) (ca_cons (ce_callTy (call_listA rfl) fns_listA (by rfl) X.b_list (by decide +kernel) (ca_cons (ce_ix (ix_Z hr.units) ops_ixZ (ce_v 0) (ce_int) (fun _ _ => rfl)) (ca_nil))) (ca_nil)))))) (css_nil))
    (css_one (cs_ret (ce_tup (ca_cons (ce_int) (ca_cons (ce_lst (ca_nil)) (ca_nil))))))))) :
      PSs _ _ (Ts _ _ _ b_d_law_parts))
noncomputable def b_d_law_named : MS := sSeq (sIf (tV (e2 dEq (e2 dIxZ (eV 0) (eC (.int 0))) (eC (.str "gap")))) (sRet (eLst (aCons (e2 dIxZ (eV 0) (eC (.int 1))) (aCons (e2 dIxZ (eV 0) (eC (.int 2))) (aNil))))) (sNil))
  (sSeq (sIf (tV (e2 dEq (e2 dIxZ (eV 0) (eC (.int 0))) (eC (.str "years")))) (sRet (eLst (aCons (e2 dIxZ (eV 0) (eC (.int 1))) (aNil)))) (sNil))
  (sSeq (sIf (tV (e2 dEq (e2 dIxZ (eV 0) (eC (.int 0))) (eC (.str "one")))) (sRet (eLst (aCons (e2 dIxZ (e2 dIxZ (e2 dIxZ (e2 dIxZ (eV 0) (eC (.int 1))) (eC (.int 0))) (eC (.int 0))) (eC (.int 1))) (aCons (e2 dIxZ (e2 dIxZ (e2 dIxZ (e2 dIxZ (eV 0) (eC (.int 1))) (e1 dNeg (eC (.int 1)))) (e1 dNeg (eC (.int 1)))) (eC (.int 1))) (aNil))))) (sNil))
  (sSeq (sSet 1 (e2 dIxZ (eV 0) (eC (.int 3))))
  (sRet (eLst (aCons (e2 dIxZ (eV 0) (eC (.int 1))) (aCons (e2 dIxZ (e2 dIxZ (eV 1) (eC (.int 0))) (eC (.int 0))) (aCons (e2 dIxZ (e2 dIxZ (eV 1) (e2 dDiv (eFn dLen (aCons (eV 1) (aNil))) (eC (.int 2)))) (eC (.int 0))) (aCons (e2 dIxZ (e2 dIxZ (eV 1) (e1 dNeg (eC (.int 1)))) (eC (.int 0))) (aNil))))))))))
noncomputable def m_d_law_named : List D → Store → R D := fnM 2 1 b_d_law_named
theorem ok_d_law_named (X : Fx K mg) : FnOk P w K mg base (L2.CX P w) 1 X.a_d_law_named X.d_d_law_named ["record"] (spM K mg 1 m_d_law_named) :=
  okM (k := 0) X.F_d_law_named sc_d_law_named rfl fun cdv A outer s H E hr tk =>
    (css_cons (cs_if (ct_cmp (opA_eq hr.units) ops_eq (ce_ix (ix_Z hr.units) ops_ixZ (ce_v 0) (ce_int) (fun _ _ => rfl)) (ce_str) (nomark _)) (css_one (cs_ret (ce_lst (ca_cons (ce_ix (ix_Z hr.units) ops_ixZ (ce_v 0) (ce_int) (fun _ _ => rfl)) (ca_cons (ce_ix (ix_Z hr.units) ops_ixZ (ce_v 0) (ce_int) (fun _ _ => rfl)) (ca_nil)))))) (css_nil))
    (css_cons (cs_if (ct_cmp (opA_eq hr.units) ops_eq (ce_ix (ix_Z hr.units) ops_ixZ (ce_v 0) (ce_int) (fun _ _ => rfl)) (ce_str) (nomark _)) (css_one (cs_ret (ce_lst (ca_cons (ce_ix (ix_Z hr.units) ops_ixZ (ce_v 0) (ce_int) (fun _ _ => rfl)) (ca_nil))))) (css_nil))
    (css_cons (cs_if (ct_cmp (opA_eq hr.units) ops_eq (ce_ix (ix_Z hr.units) ops_ixZ (ce_v 0) (ce_int) (fun _ _ => rfl)) (ce_str) (nomark _)) (css_one (cs_ret (ce_lst (ca_cons (ce_ix (ix_Z hr.units) ops_ixZ (ce_ix (ix_Z hr.units) ops_ixZ (ce_ix (ix_Z hr.units) ops_ixZ (ce_ix (ix_Z hr.units) ops_ixZ (ce_v 0) (ce_int) (fun _ _ => rfl)) (ce_int) (fun _ _ => rfl)) (ce_int) (fun _ _ => rfl)) (ce_int) (fun _ _ => rfl)) (ca_cons (ce_ix (ix_Z hr.units) ops_ixZ (ce_ix (ix_Z hr.units) ops_ixZ (ce_ix (ix_Z hr.units) ops_ixZ (ce_ix (ix_Z hr.units) ops_ixZ (ce_v 0) (ce_int) (fun _ _ => rfl)) (ce_un un_neg uns_neg (ce_int)) (fun _ _ => rfl)) (ce_un un_neg uns_neg (ce_int)) (fun _ _ => rfl)) (ce_int) (fun _ _ => rfl)) (ca_nil)))))) (css_nil))
    (css_cons (cs_set (j := 1) sc_d_law_named.nd rfl (Or.inl rfl) (ce_ix (ix_Z hr.units) ops_ixZ (ce_v 0) (ce_int) (fun _ _ => rfl)))
    (css_one (cs_ret (ce_lst (ca_cons (ce_ix (ix_Z hr.units) ops_ixZ (ce_v 0) (ce_int) (fun _ _ => rfl)) (ca_cons (ce_ix (ix_Z hr.units) ops_ixZ (ce_ix (ix_Z hr.units) ops_ixZ (ce_v 1) (ce_int) (fun _ _ => rfl)) (ce_int) (fun _ _ => rfl)) (ca_cons (ce_ix (ix_Z hr.units) ops_ixZ (ce_ix (ix_Z hr.units) ops_ixZ (ce_v 1) (ce_op op_fdiv ops_div (ce_callB call_len fns_len (by rfl) X.b_len (by decide +kernel) (ca_cons (ce_v 1) (ca_nil))) (ce_int)) (fun _ _ => rfl)) (ce_int) (fun _ _ => rfl)) (ca_cons (ce_ix (ix_Z hr.units) ops_ixZ (ce_ix (ix_Z hr.units) ops_ixZ (ce_v 1) (ce_un un_neg uns_neg (ce_int)) (fun _ _ => rfl)) (ce_int) (fun _ _ => rfl)) (ca_nil))))))))))) :
      PSs _ _ (Ts _ _ _ b_d_law_named))
noncomputable def b_d_law_same : MS := sSeq (sIf (tV (e2 dIs (eV 1) (eC .non))) (sRet (e2 dIs (eV 0) (eC .non))) (sNil))
  (sRet (eAnd (e1 (dIsi "int") (eV 0)) (eAnd (eNot (e1 (dIsi "bool") (eV 0))) (e2 dEq (eV 0) (eV 1)))))
noncomputable def m_d_law_same : List D → Store → R D := fnM 2 2 b_d_law_same
theorem ok_d_law_same (X : Fx K mg) : FnOk P w K mg base (L2.CX P w) 1 X.a_d_law_same X.d_d_law_same ["told", "due"] (spM K mg 2 m_d_law_same) :=
  okM (k := 0) X.F_d_law_same sc_d_law_same rfl fun cdv A outer s H E hr tk =>
    (css_cons (cs_if (ct_cmp opA_is ops_is (ce_v 1) (ce_non) (nomark _)) (css_one (cs_ret (ce_cmp opA_is ops_is (ce_v 0) (ce_non) (nomark _)))) (css_nil))
    (css_one (cs_ret (ce_and (ce_isi (T := "int") (by rfl) X.b_isinstance (by rfl) X.b_int (by decide +kernel) (ce_v 0)) (ce_and (ce_not (ce_isi (T := "bool") (by rfl) X.b_isinstance (by rfl) X.b_bool (by decide +kernel) (ce_v 0))) (ce_one (ce_cmp (opA_eq hr.units) ops_eq (ce_v 0) (ce_v 1) (nomark _))))))) :
      PSs _ _ (Ts _ _ _ b_d_law_same))
noncomputable def le_bound_of_1 : ME D := e2 dAdd (e2 dIxZ (eV 4) (e2 dIxZ (eV 6) (eV 8))) (eV 9)
noncomputable def le_bound_of_2 : ME D := e2 dSub (e2 dIxZ (eV 4) (e2 dIxZ (eV 6) (eV 8))) (eV 9)
noncomputable def b_bound_of : MS := sSeq (sSet 5 (eCall m_bounding_parts (aCons (eV 1) (aCons (eV 2) (aNil)))))
  (sSeq (sIf (tOr (tV (e2 dIs (eV 5) (eC .non))) (tV (e2 dNe (e2 dIxZ (eV 5) (eC (.int 0))) (eV 3)))) (sRet (eC .non)) (sNil))
  (sSeq (sSet 6 (eCall m_deed_places (aCons (eV 0) (aNil))))
  (sSeq (sIf (tV (e2 dEq (eV 2) (eC (.str "ante")))) (sSeq (sSet 7 (eFn dSorted (aCons (eLc (iSeq (e2 dIxZ (eV 5) (eC (.int 2)))) [8, 9] (gT 2 (gsC (gN 8) (gsC (gN 9) (gsN)))) (tT) (le_bound_of_2)) (aNil))))
  (sRet (e2 dIxZ (eV 7) (e2 dSub (eFn dLen (aCons (eV 7) (aNil))) (e2 dIxZ (eV 5) (eC (.int 1))))))) (sNil))
  (sSeq (sSet 7 (eFn dSorted (aCons (eLc (iSeq (e2 dIxZ (eV 5) (eC (.int 2)))) [8, 9] (gT 2 (gsC (gN 8) (gsC (gN 9) (gsN)))) (tT) (le_bound_of_1)) (aNil))))
  (sRet (e2 dIxZ (eV 7) (e2 dSub (e2 dIxZ (eV 5) (eC (.int 1))) (eC (.int 1)))))))))
noncomputable def m_bound_of : List D → Store → R D := fnM 10 5 b_bound_of
theorem ok_bound_of (X : Fx K mg) : FnOk P w K mg base (L2.CX P w) 2 X.a_bound_of X.d_bound_of ["book", "record", "way", "deed", "dating"] (spM K mg 5 m_bound_of) :=
  okM (k := 1) X.F_bound_of sc_bound_of rfl fun cdv A outer s H E hr tk =>
    (css_cons (cs_set (j := 5) sc_bound_of.nd rfl (Or.inl rfl) (ce_call (n := 2) (ok_bounding_parts X) (hr.mono (by decide)) tk (by rfl) X.g_bounding_parts X.F_bounding_parts.kp (bd_bounding_parts X) (an_cons (an_cons an_nil)) (ca_cons (ce_v 1) (ca_cons (ce_v 2) (ca_nil)))))
    (css_cons (cs_if (PW.pt (cw_or (ct_cmp opA_is ops_is (ce_v 5) (ce_non) (nomark _)) (cw_or1 (ct_cmp (opA_ne hr.units) ops_ne (ce_ix (ix_Z hr.units) ops_ixZ (ce_v 5) (ce_int) (fun _ _ => rfl)) (ce_v 3) (nomark _))))) (css_one (cs_ret (ce_non))) (css_nil))
    (css_cons (cs_set (j := 6) sc_bound_of.nd rfl (Or.inr rfl) (ce_call (n := 1) (ok_deed_places X) (hr.mono (by decide)) tk (by rfl) X.g_deed_places X.F_deed_places.kp (bd_deed_places X) (an_cons an_nil) (ca_cons (ce_v 0) (ca_nil))))
    (css_cons (cs_if (ct_cmp (opA_eq hr.units) ops_eq (ce_v 2) (ce_str) (nomark _)) (css_cons (cs_set (j := 7) sc_bound_of.nd rfl (Or.inl rfl) (ce_callB (cr_sortedB hr.units) fns_sorted (by rfl) X.b_sorted (by decide +kernel) (ca_cons (ce_lc (own := [("other", 8), ("least", 9)]) rfl sc_bound_of.nd (ci_seq (ce_ix (ix_Z hr.units) ops_ixZ (ce_v 5) (ce_int) (fun _ _ => rfl))) (blkOk_by (N := ["book", "record", "way", "deed", "dating", "bound", "places", "ends", "other", "least"]) (sc := defScope s_bound_of) (by decide +kernel)) (fun _ _ _ _ _ => cg_tup (n := 2) rfl (cgs_cons (us := [8, 9]) (cg_name (i := 8) sc_bound_of.nd rfl (by first | exact Or.inl rfl | exact Or.inr rfl)) (cgs_cons (us := [9]) (cg_name (i := 9) sc_bound_of.nd rfl (by first | exact Or.inl rfl | exact Or.inr rfl)) (cgs_nil (vs := []))))) (fun _ _ _ _ _ => cts_nil) (fun _ _ _ _ _ => ce_op op_sub ops_sub (ce_ix (ix_Z hr.units) ops_ixZ (ce_v 4) (ce_ix (ix_Z hr.units) ops_ixZ (ce_v 6) (ce_v 8) (fun _ _ => rfl)) (fun _ _ => rfl)) (ce_v 9))) (ca_nil))))
    (css_one (cs_ret (ce_ix (ix_Z hr.units) ops_ixZ (ce_v 7) (ce_op op_sub ops_sub (ce_callB call_len fns_len (by rfl) X.b_len (by decide +kernel) (ca_cons (ce_v 7) (ca_nil))) (ce_ix (ix_Z hr.units) ops_ixZ (ce_v 5) (ce_int) (fun _ _ => rfl))) (fun _ _ => rfl))))) (css_nil))
    (css_cons (cs_set (j := 7) sc_bound_of.nd rfl (Or.inl rfl) (ce_callB (cr_sortedB hr.units) fns_sorted (by rfl) X.b_sorted (by decide +kernel) (ca_cons (ce_lc (own := [("other", 8), ("least", 9)]) rfl sc_bound_of.nd (ci_seq (ce_ix (ix_Z hr.units) ops_ixZ (ce_v 5) (ce_int) (fun _ _ => rfl))) (blkOk_by (N := ["book", "record", "way", "deed", "dating", "bound", "places", "ends", "other", "least"]) (sc := defScope s_bound_of) (by decide +kernel)) (fun _ _ _ _ _ => cg_tup (n := 2) rfl (cgs_cons (us := [8, 9]) (cg_name (i := 8) sc_bound_of.nd rfl (by first | exact Or.inl rfl | exact Or.inr rfl)) (cgs_cons (us := [9]) (cg_name (i := 9) sc_bound_of.nd rfl (by first | exact Or.inl rfl | exact Or.inr rfl)) (cgs_nil (vs := []))))) (fun _ _ _ _ _ => cts_nil) (fun _ _ _ _ _ => ce_op op_addA ops_add (ce_ix (ix_Z hr.units) ops_ixZ (ce_v 4) (ce_ix (ix_Z hr.units) ops_ixZ (ce_v 6) (ce_v 8) (fun _ _ => rfl)) (fun _ _ => rfl)) (ce_v 9))) (ca_nil))))
    (css_one (cs_ret (ce_ix (ix_Z hr.units) ops_ixZ (ce_v 7) (ce_op op_sub ops_sub (ce_ix (ix_Z hr.units) ops_ixZ (ce_v 5) (ce_int) (fun _ _ => rfl)) (ce_int)) (fun _ _ => rfl)))))))) :
      PSs _ _ (Ts _ _ _ b_bound_of))
noncomputable def bl_d_law_names_1 : MS := sSeq (sSet 9 (e2 dMod (eFn dInt (aCons (e2 dAdd (eV 5) (e2 dMul (eV 8) (eV 6))) (aNil))) (eC (.int 936))))
  (sIf (tV (e2 dEq (eV 4) (eC (.int 0)))) (sExpr (eMt "list" dAppend (eV 7) (aCons (e2 dAdd (e2 dAdd (e2 dIxZ (eV 2) (e2 dMod (eFn dInt (aCons (e2 dAdd (eV 5) (e2 dDiv (eV 8) (eC (.int 14)))) (aNil))) (eC (.int 26)))) (e2 dMulS (eC (.str "0")) (e2 dDiv (e2 dMod (eV 8) (eC (.int 14))) (eC (.int 2))))) (e2 dMulS (eC (.str "'")) (e2 dMod (eV 8) (eC (.int 2))))) (aNil)))) (sIf (tV (e2 dEq (eV 4) (eC (.int 1)))) (sExpr (eMt "list" dAppend (eV 7) (aCons (e2 dAdd (e2 dAdd (e2 dAdd (e2 dAdd (e2 dMulS (eC (.str "q")) (e2 dMod (eFn dInt (aCons (eV 5) (aNil))) (eC (.int 5)))) (e2 dIxZ (eV 2) (e2 dMod (eV 9) (eC (.int 26))))) (e2 dIxZ (eV 3) (e2 dDiv (eV 9) (eC (.int 26))))) (e2 dMulS (eC (.str "z")) (e2 dMod (eFn dInt (aCons (eV 6) (aNil))) (eC (.int 2))))) (e2 dMulS (eC (.str "'")) (e2 dDiv (e2 dMod (eFn dInt (aCons (eV 6) (aNil))) (eC (.int 3))) (eC (.int 2))))) (aNil)))) (sExpr (eMt "list" dAppend (eV 7) (aCons (e2 dAdd (e2 dAdd (e2 dAdd (e2 dIxZ (eV 2) (e2 dMod (eV 9) (eC (.int 26)))) (e2 dIxZ (eV 3) (e2 dDiv (eV 9) (eC (.int 26))))) (e2 dMulS (e2 dIxZ (eV 3) (e2 dMod (eV 9) (eC (.int 36)))) (e2 dMod (eV 9) (eC (.int 7))))) (e2 dMulS (eC (.str "'")) (e2 dMod (eV 9) (eC (.int 2))))) (aNil))))))
noncomputable def b_d_law_names : MS := sSeq (sSet 2 (eC (.str "abcdefghijklmnopqrstuvwxyz")))
  (sSeq (sSet 3 (e2 dAdd (eV 2) (eC (.str "0123456789"))))
  (sSeq (sSet 4 (eCall m_d_law_draw (aCons (eV 0) (aCons (eC (.int 3)) (aNil)))))
  (sSeq (sSet 5 (eCall m_d_law_draw (aCons (eV 0) (aCons (eC (.int 936)) (aNil)))))
  (sSeq (sSet 6 (e2 dIxZ (eTup (aCons (eC (.int 1)) (aCons (eC (.int 5)) (aCons (eC (.int 7)) (aCons (eC (.int 11)) (aCons (eC (.int 25)) (aCons (eC (.int 35)) (aNil)))))))) (eCall m_d_law_draw (aCons (eV 0) (aCons (eC (.int 6)) (aNil))))))
  (sSeq (sSet 7 (eLst (aNil)))
  (sSeq (sFor (iRange1 (aCons (eV 1) (aNil))) (gN 8) (bl_d_law_names_1))
  (sRet (eV 7))))))))
noncomputable def m_d_law_names : List D → Store → R D := fnM 10 2 b_d_law_names
theorem ok_d_law_names (X : Fx K mg) : FnOk P w K mg base (L2.CX P w) 2 X.a_d_law_names X.d_d_law_names ["pool", "many"] (spM K mg 2 m_d_law_names) :=
  okM (k := 1) X.F_d_law_names sc_d_law_names rfl fun cdv A outer s H E hr tk =>
    (css_cons (cs_set (j := 2) sc_d_law_names.nd rfl (Or.inl rfl) (ce_str))
    (css_cons (cs_set (j := 3) sc_d_law_names.nd rfl (Or.inl rfl) (ce_op op_addA ops_add (ce_v 2) (ce_str)))
    (css_cons (cs_set (j := 4) sc_d_law_names.nd rfl (Or.inl rfl) (ce_call (n := 2) (ok_d_law_draw X) (hr.mono (by decide)) tk (by rfl) X.g_d_law_draw X.F_d_law_draw.kp (bd_d_law_draw X) (an_cons (an_cons an_nil)) (ca_cons (ce_v 0) (ca_cons (ce_int) (ca_nil)))))
    (css_cons (cs_set (j := 5) sc_d_law_names.nd rfl (Or.inl rfl) (ce_call (n := 2) (ok_d_law_draw X) (hr.mono (by decide)) tk (by rfl) X.g_d_law_draw X.F_d_law_draw.kp (bd_d_law_draw X) (an_cons (an_cons an_nil)) (ca_cons (ce_v 0) (ca_cons (ce_int) (ca_nil)))))
    (css_cons (cs_set (j := 6) sc_d_law_names.nd rfl (Or.inl rfl) (ce_ix (ix_Z hr.units) ops_ixZ (ce_tup (ca_cons (ce_int) (ca_cons (ce_int) (ca_cons (ce_int) (ca_cons (ce_int) (ca_cons (ce_int) (ca_cons (ce_int) (ca_nil)))))))) (ce_call (n := 2) (ok_d_law_draw X) (hr.mono (by decide)) tk (by rfl) X.g_d_law_draw X.F_d_law_draw.kp (bd_d_law_draw X) (an_cons (an_cons an_nil)) (ca_cons (ce_v 0) (ca_cons (ce_int) (ca_nil)))) (fun _ _ => rfl)))
    (css_cons (cs_set (j := 7) sc_d_law_names.nd rfl (Or.inl rfl) (ce_lst (ca_nil)))
    (css_cons (cs_for (passes_of rfl) rfl (ci_range1 (by rfl) X.b_range (ca_cons (ce_v 1) (ca_nil))) (cg_name (i := 8) sc_d_law_names.nd rfl (by first | exact Or.inl rfl | exact Or.inr rfl)) (css_cons (cs_set (j := 9) sc_d_law_names.nd rfl (Or.inl rfl) (ce_op op_mod ops_mod (ce_callTy call_int1 fns_int (by rfl) X.b_int (by decide +kernel) (ca_cons (ce_op op_addA ops_add (ce_v 5) (ce_op op_mul ops_mul (ce_v 8) (ce_v 6))) (ca_nil))) (ce_int)))
    (css_one (cs_if (ct_cmp (opA_eq hr.units) ops_eq (ce_v 4) (ce_int) (nomark _)) (css_one (cs_expr (ce_bm PySem.F.plainAttrs_list PySem.F.slot_list_append PySem.F.type_list_append mt_append mts_append (ce_v 7) (ca_cons (ce_op op_addA ops_add (ce_op op_addA ops_add (ce_ix (ix_Z hr.units) ops_ixZ (ce_v 2) (ce_op op_mod ops_mod (ce_callTy call_int1 fns_int (by rfl) X.b_int (by decide +kernel) (ca_cons (ce_op op_addA ops_add (ce_v 5) (ce_op op_fdiv ops_div (ce_v 8) (ce_int))) (ca_nil))) (ce_int)) (fun _ _ => rfl)) (ce_op op_mulS ops_mulS (ce_str) (ce_op op_fdiv ops_div (ce_op op_mod ops_mod (ce_v 8) (ce_int)) (ce_int)))) (ce_op op_mulS ops_mulS (ce_str) (ce_op op_mod ops_mod (ce_v 8) (ce_int)))) (ca_nil))))) (css_one (cs_if (ct_cmp (opA_eq hr.units) ops_eq (ce_v 4) (ce_int) (nomark _)) (css_one (cs_expr (ce_bm PySem.F.plainAttrs_list PySem.F.slot_list_append PySem.F.type_list_append mt_append mts_append (ce_v 7) (ca_cons (ce_op op_addA ops_add (ce_op op_addA ops_add (ce_op op_addA ops_add (ce_op op_addA ops_add (ce_op op_mulS ops_mulS (ce_str) (ce_op op_mod ops_mod (ce_callTy call_int1 fns_int (by rfl) X.b_int (by decide +kernel) (ca_cons (ce_v 5) (ca_nil))) (ce_int))) (ce_ix (ix_Z hr.units) ops_ixZ (ce_v 2) (ce_op op_mod ops_mod (ce_v 9) (ce_int)) (fun _ _ => rfl))) (ce_ix (ix_Z hr.units) ops_ixZ (ce_v 3) (ce_op op_fdiv ops_div (ce_v 9) (ce_int)) (fun _ _ => rfl))) (ce_op op_mulS ops_mulS (ce_str) (ce_op op_mod ops_mod (ce_callTy call_int1 fns_int (by rfl) X.b_int (by decide +kernel) (ca_cons (ce_v 6) (ca_nil))) (ce_int)))) (ce_op op_mulS ops_mulS (ce_str) (ce_op op_fdiv ops_div (ce_op op_mod ops_mod (ce_callTy call_int1 fns_int (by rfl) X.b_int (by decide +kernel) (ca_cons (ce_v 6) (ca_nil))) (ce_int)) (ce_int)))) (ca_nil))))) (css_one (cs_expr (ce_bm PySem.F.plainAttrs_list PySem.F.slot_list_append PySem.F.type_list_append mt_append mts_append (ce_v 7) (ca_cons (ce_op op_addA ops_add (ce_op op_addA ops_add (ce_op op_addA ops_add (ce_ix (ix_Z hr.units) ops_ixZ (ce_v 2) (ce_op op_mod ops_mod (ce_v 9) (ce_int)) (fun _ _ => rfl)) (ce_ix (ix_Z hr.units) ops_ixZ (ce_v 3) (ce_op op_fdiv ops_div (ce_v 9) (ce_int)) (fun _ _ => rfl))) (ce_op op_mulS ops_mulS (ce_ix (ix_Z hr.units) ops_ixZ (ce_v 3) (ce_op op_mod ops_mod (ce_v 9) (ce_int)) (fun _ _ => rfl)) (ce_op op_mod ops_mod (ce_v 9) (ce_int)))) (ce_op op_mulS ops_mulS (ce_str) (ce_op op_mod ops_mod (ce_v 9) (ce_int)))) (ca_nil)))))))))))
    (css_one (cs_ret (ce_v 7))))))))) :
      PSs _ _ (Ts _ _ _ b_d_law_names))
noncomputable def b_d_law_frame : MS := sSeq (sSet 1 (eCall m_d_law_draw (aCons (eV 0) (aCons (eC (.int 4)) (aNil)))))
  (sSeq (sSet 2 (eC (.int 3000)))
  (sSeq (sIf (tV (e2 dLt (eV 1) (eC (.int 3)))) (sSet 2 (eCall m_d_law_draw (aCons (eV 0) (aCons (e2 dIxZ (eTup (aCons (eC (.int 6)) (aCons (eC (.int 61)) (aCons (eC (.int 3001)) (aNil))))) (eV 1)) (aNil))))) (sNil))
  (sSeq (sSet 3 (eCall m_d_law_draw (aCons (eV 0) (aCons (eC (.int 4)) (aNil)))))
  (sSeq (sIf (tV (e2 dLt (eV 3) (eC (.int 2)))) (sSet 4 (e1 dNeg (eCall m_d_law_draw (aCons (eV 0) (aCons (e2 dAdd (eV 2) (eC (.int 1))) (aNil)))))) (sIf (tV (e2 dEq (eV 3) (eC (.int 2)))) (sSet 4 (e2 dSub (eCall m_d_law_draw (aCons (eV 0) (aCons (e2 dSub (eC (.int 19999)) (eV 2)) (aNil)))) (eC (.int 9999)))) (sSet 4 (e2 dIxZ (eTup (aCons (e1 dNeg (eC (.int 9999))) (aCons (e2 dSub (eC (.int 9999)) (eV 2)) (aNil)))) (eCall m_d_law_draw (aCons (eV 0) (aCons (eC (.int 2)) (aNil))))))))
  (sRet (eTup (aCons (eV 4) (aCons (e2 dAdd (eV 4) (eV 2)) (aNil)))))))))
noncomputable def m_d_law_frame : List D → Store → R D := fnM 5 1 b_d_law_frame
theorem ok_d_law_frame (X : Fx K mg) : FnOk P w K mg base (L2.CX P w) 2 X.a_d_law_frame X.d_d_law_frame ["pool"] (spM K mg 1 m_d_law_frame) :=
  okM (k := 1) X.F_d_law_frame sc_d_law_frame rfl fun cdv A outer s H E hr tk =>
    (css_cons (cs_set (j := 1) sc_d_law_frame.nd rfl (Or.inl rfl) (ce_call (n := 2) (ok_d_law_draw X) (hr.mono (by decide)) tk (by rfl) X.g_d_law_draw X.F_d_law_draw.kp (bd_d_law_draw X) (an_cons (an_cons an_nil)) (ca_cons (ce_v 0) (ca_cons (ce_int) (ca_nil)))))
    (css_cons (cs_set (j := 2) sc_d_law_frame.nd rfl (Or.inl rfl) (ce_int))
    (css_cons (cs_if (ct_cmp opA_lt ops_lt (ce_v 1) (ce_int) (nomark _)) (css_one (cs_set (j := 2) sc_d_law_frame.nd rfl (Or.inl rfl) (ce_call (n := 2) (ok_d_law_draw X) (hr.mono (by decide)) tk (by rfl) X.g_d_law_draw X.F_d_law_draw.kp (bd_d_law_draw X) (an_cons (an_cons an_nil)) (ca_cons (ce_v 0) (ca_cons (ce_ix (ix_Z hr.units) ops_ixZ (ce_tup (ca_cons (ce_int) (ca_cons (ce_int) (ca_cons (ce_int) (ca_nil))))) (ce_v 1) (fun _ _ => rfl)) (ca_nil)))))) (css_nil))
    (css_cons (cs_set (j := 3) sc_d_law_frame.nd rfl (Or.inl rfl) (ce_call (n := 2) (ok_d_law_draw X) (hr.mono (by decide)) tk (by rfl) X.g_d_law_draw X.F_d_law_draw.kp (bd_d_law_draw X) (an_cons (an_cons an_nil)) (ca_cons (ce_v 0) (ca_cons (ce_int) (ca_nil)))))
    (css_cons (cs_if (ct_cmp opA_lt ops_lt (ce_v 3) (ce_int) (nomark _)) (css_one (cs_set (j := 4) sc_d_law_frame.nd rfl (Or.inl rfl) (ce_un un_neg uns_neg (ce_call (n := 2) (ok_d_law_draw X) (hr.mono (by decide)) tk (by rfl) X.g_d_law_draw X.F_d_law_draw.kp (bd_d_law_draw X) (an_cons (an_cons an_nil)) (ca_cons (ce_v 0) (ca_cons (ce_op op_addA ops_add (ce_v 2) (ce_int)) (ca_nil))))))) (css_one (cs_if (ct_cmp (opA_eq hr.units) ops_eq (ce_v 3) (ce_int) (nomark _)) (css_one (cs_set (j := 4) sc_d_law_frame.nd rfl (Or.inl rfl) (ce_op op_sub ops_sub (ce_call (n := 2) (ok_d_law_draw X) (hr.mono (by decide)) tk (by rfl) X.g_d_law_draw X.F_d_law_draw.kp (bd_d_law_draw X) (an_cons (an_cons an_nil)) (ca_cons (ce_v 0) (ca_cons (ce_op op_sub ops_sub (ce_int) (ce_v 2)) (ca_nil)))) (ce_int)))) (css_one (cs_set (j := 4) sc_d_law_frame.nd rfl (Or.inl rfl) (ce_ix (ix_Z hr.units) ops_ixZ (ce_tup (ca_cons (ce_un un_neg uns_neg (ce_int)) (ca_cons (ce_op op_sub ops_sub (ce_int) (ce_v 2)) (ca_nil)))) (ce_call (n := 2) (ok_d_law_draw X) (hr.mono (by decide)) tk (by rfl) X.g_d_law_draw X.F_d_law_draw.kp (bd_d_law_draw X) (an_cons (an_cons an_nil)) (ca_cons (ce_v 0) (ca_cons (ce_int) (ca_nil)))) (fun _ _ => rfl)))))))
    (css_one (cs_ret (ce_tup (ca_cons (ce_v 4) (ca_cons (ce_op op_addA ops_add (ce_v 4) (ce_v 2)) (ca_nil)))))))))) :
      PSs _ _ (Ts _ _ _ b_d_law_frame))
noncomputable def bl_d_law_years_1 : MS := sIf (tV (e2 dEq (eV 5) (eC (.int 0)))) (sExpr (eMt "list" dAppend (eV 6) (aCons (e2 dAdd (eV 1) (eCall m_d_law_draw (aCons (eV 0) (aCons (e2 dAdd (e2 dSub (eV 2) (eV 1)) (eC (.int 1))) (aNil))))) (aNil)))) (sIf (tV (e2 dEq (eV 5) (eC (.int 1)))) (sExpr (eMt "list" dAppend (eV 6) (aCons (eFn dMin2 (aCons (eV 2) (aCons (e2 dAdd (e2 dAdd (eV 1) (eV 4)) (eCall m_d_law_draw (aCons (eV 0) (aCons (eC (.int 3)) (aNil))))) (aNil)))) (aNil)))) (sExpr (eMt "list" dAppend (eV 6) (aCons (e2 dIxZ (eTup (aCons (eV 1) (aCons (eV 2) (aCons (e2 dAdd (eV 1) (eV 4)) (aNil))))) (eCall m_d_law_draw (aCons (eV 0) (aCons (eC (.int 3)) (aNil))))) (aNil)))))
noncomputable def b_d_law_years : MS := sSeq (sSet 4 (eCall m_d_law_draw (aCons (eV 0) (aCons (e2 dAdd (e2 dSub (eV 2) (eV 1)) (eC (.int 1))) (aNil)))))
  (sSeq (sSet 5 (eCall m_d_law_draw (aCons (eV 0) (aCons (eC (.int 3)) (aNil)))))
  (sSeq (sSet 6 (eLst (aNil)))
  (sSeq (sFor (iRange1 (aCons (eV 3) (aNil))) (gN 7) (bl_d_law_years_1))
  (sRet (eV 6)))))
noncomputable def m_d_law_years : List D → Store → R D := fnM 8 4 b_d_law_years
theorem ok_d_law_years (X : Fx K mg) : FnOk P w K mg base (L2.CX P w) 2 X.a_d_law_years X.d_d_law_years ["pool", "first", "last", "many"] (spM K mg 4 m_d_law_years) :=
  okM (k := 1) X.F_d_law_years sc_d_law_years rfl fun cdv A outer s H E hr tk =>
    (css_cons (cs_set (j := 4) sc_d_law_years.nd rfl (Or.inl rfl) (ce_call (n := 2) (ok_d_law_draw X) (hr.mono (by decide)) tk (by rfl) X.g_d_law_draw X.F_d_law_draw.kp (bd_d_law_draw X) (an_cons (an_cons an_nil)) (ca_cons (ce_v 0) (ca_cons (ce_op op_addA ops_add (ce_op op_sub ops_sub (ce_v 2) (ce_v 1)) (ce_int)) (ca_nil)))))
    (css_cons (cs_set (j := 5) sc_d_law_years.nd rfl (Or.inl rfl) (ce_call (n := 2) (ok_d_law_draw X) (hr.mono (by decide)) tk (by rfl) X.g_d_law_draw X.F_d_law_draw.kp (bd_d_law_draw X) (an_cons (an_cons an_nil)) (ca_cons (ce_v 0) (ca_cons (ce_int) (ca_nil)))))
    (css_cons (cs_set (j := 6) sc_d_law_years.nd rfl (Or.inl rfl) (ce_lst (ca_nil)))
    (css_cons (cs_for (passes_of rfl) rfl (ci_range1 (by rfl) X.b_range (ca_cons (ce_v 3) (ca_nil))) (cg_name (i := 7) sc_d_law_years.nd rfl (by first | exact Or.inl rfl | exact Or.inr rfl)) (css_one (cs_if (ct_cmp (opA_eq hr.units) ops_eq (ce_v 5) (ce_int) (nomark _)) (css_one (cs_expr (ce_bm PySem.F.plainAttrs_list PySem.F.slot_list_append PySem.F.type_list_append mt_append mts_append (ce_v 6) (ca_cons (ce_op op_addA ops_add (ce_v 1) (ce_call (n := 2) (ok_d_law_draw X) (hr.mono (by decide)) tk (by rfl) X.g_d_law_draw X.F_d_law_draw.kp (bd_d_law_draw X) (an_cons (an_cons an_nil)) (ca_cons (ce_v 0) (ca_cons (ce_op op_addA ops_add (ce_op op_sub ops_sub (ce_v 2) (ce_v 1)) (ce_int)) (ca_nil))))) (ca_nil))))) (css_one (cs_if (ct_cmp (opA_eq hr.units) ops_eq (ce_v 5) (ce_int) (nomark _)) (css_one (cs_expr (ce_bm PySem.F.plainAttrs_list PySem.F.slot_list_append PySem.F.type_list_append mt_append mts_append (ce_v 6) (ca_cons (ce_callB (call_min2 rfl) fns_min2 (by rfl) X.b_min (by decide +kernel) (ca_cons (ce_v 2) (ca_cons (ce_op op_addA ops_add (ce_op op_addA ops_add (ce_v 1) (ce_v 4)) (ce_call (n := 2) (ok_d_law_draw X) (hr.mono (by decide)) tk (by rfl) X.g_d_law_draw X.F_d_law_draw.kp (bd_d_law_draw X) (an_cons (an_cons an_nil)) (ca_cons (ce_v 0) (ca_cons (ce_int) (ca_nil))))) (ca_nil)))) (ca_nil))))) (css_one (cs_expr (ce_bm PySem.F.plainAttrs_list PySem.F.slot_list_append PySem.F.type_list_append mt_append mts_append (ce_v 6) (ca_cons (ce_ix (ix_Z hr.units) ops_ixZ (ce_tup (ca_cons (ce_v 1) (ca_cons (ce_v 2) (ca_cons (ce_op op_addA ops_add (ce_v 1) (ce_v 4)) (ca_nil))))) (ce_call (n := 2) (ok_d_law_draw X) (hr.mono (by decide)) tk (by rfl) X.g_d_law_draw X.F_d_law_draw.kp (bd_d_law_draw X) (an_cons (an_cons an_nil)) (ca_cons (ce_v 0) (ca_cons (ce_int) (ca_nil)))) (fun _ _ => rfl)) (ca_nil))))))))))
    (css_one (cs_ret (ce_v 6)))))) :
      PSs _ _ (Ts _ _ _ b_d_law_years))
noncomputable def b_d_law_integer : MS := sSeq (sSet 2 (eCall m_d_law_draw (aCons (eV 0) (aCons (eC (.int 8)) (aNil)))))
  (sSeq (sIf (tV (e2 dEq (eV 2) (eC (.int 0)))) (sRet (e2 dSub (eCall m_d_law_draw (aCons (eV 0) (aCons (eC (.int 7)) (aNil)))) (eC (.int 3)))) (sNil))
  (sSeq (sIf (tV (e2 dEq (eV 2) (eC (.int 1)))) (sRet (e2 dSub (eCall m_d_law_draw (aCons (eV 0) (aCons (eC (.int 6001)) (aNil)))) (eC (.int 3000)))) (sNil))
  (sSeq (sIf (tV (e2 dEq (eV 2) (eC (.int 2)))) (sRet (e2 dIxZ (eTup (aCons (e1 dNeg (eC (.int 3000))) (aCons (eC (.int 3000)) (aNil)))) (eCall m_d_law_draw (aCons (eV 0) (aCons (eC (.int 2)) (aNil)))))) (sNil))
  (sRet (eFn dMax2 (aCons (e1 dNeg (eC (.int 3000))) (aCons (eFn dMin2 (aCons (eC (.int 3000)) (aCons (e2 dSub (e2 dAdd (eV 1) (eCall m_d_law_draw (aCons (eV 0) (aCons (eC (.int 3)) (aNil))))) (eC (.int 1))) (aNil)))) (aNil))))))))
noncomputable def m_d_law_integer : List D → Store → R D := fnM 3 2 b_d_law_integer
theorem ok_d_law_integer (X : Fx K mg) : FnOk P w K mg base (L2.CX P w) 2 X.a_d_law_integer X.d_d_law_integer ["pool", "aimed"] (spM K mg 2 m_d_law_integer) :=
  okM (k := 1) X.F_d_law_integer sc_d_law_integer rfl fun cdv A outer s H E hr tk =>
    (css_cons (cs_set (j := 2) sc_d_law_integer.nd rfl (Or.inl rfl) (ce_call (n := 2) (ok_d_law_draw X) (hr.mono (by decide)) tk (by rfl) X.g_d_law_draw X.F_d_law_draw.kp (bd_d_law_draw X) (an_cons (an_cons an_nil)) (ca_cons (ce_v 0) (ca_cons (ce_int) (ca_nil)))))
    (css_cons (cs_if (ct_cmp (opA_eq hr.units) ops_eq (ce_v 2) (ce_int) (nomark _)) (css_one (cs_ret (ce_op op_sub ops_sub (ce_call (n := 2) (ok_d_law_draw X) (hr.mono (by decide)) tk (by rfl) X.g_d_law_draw X.F_d_law_draw.kp (bd_d_law_draw X) (an_cons (an_cons an_nil)) (ca_cons (ce_v 0) (ca_cons (ce_int) (ca_nil)))) (ce_int)))) (css_nil))
    (css_cons (cs_if (ct_cmp (opA_eq hr.units) ops_eq (ce_v 2) (ce_int) (nomark _)) (css_one (cs_ret (ce_op op_sub ops_sub (ce_call (n := 2) (ok_d_law_draw X) (hr.mono (by decide)) tk (by rfl) X.g_d_law_draw X.F_d_law_draw.kp (bd_d_law_draw X) (an_cons (an_cons an_nil)) (ca_cons (ce_v 0) (ca_cons (ce_int) (ca_nil)))) (ce_int)))) (css_nil))
    (css_cons (cs_if (ct_cmp (opA_eq hr.units) ops_eq (ce_v 2) (ce_int) (nomark _)) (css_one (cs_ret (ce_ix (ix_Z hr.units) ops_ixZ (ce_tup (ca_cons (ce_un un_neg uns_neg (ce_int)) (ca_cons (ce_int) (ca_nil)))) (ce_call (n := 2) (ok_d_law_draw X) (hr.mono (by decide)) tk (by rfl) X.g_d_law_draw X.F_d_law_draw.kp (bd_d_law_draw X) (an_cons (an_cons an_nil)) (ca_cons (ce_v 0) (ca_cons (ce_int) (ca_nil)))) (fun _ _ => rfl)))) (css_nil))
    (css_one (cs_ret (ce_callB (call_max2 rfl) fns_max2 (by rfl) X.b_max (by decide +kernel) (ca_cons (ce_un un_neg uns_neg (ce_int)) (ca_cons (ce_callB (call_min2 rfl) fns_min2 (by rfl) X.b_min (by decide +kernel) (ca_cons (ce_int) (ca_cons (ce_op op_sub ops_sub (ce_op op_addA ops_add (ce_v 1) (ce_call (n := 2) (ok_d_law_draw X) (hr.mono (by decide)) tk (by rfl) X.g_d_law_draw X.F_d_law_draw.kp (bd_d_law_draw X) (an_cons (an_cons an_nil)) (ca_cons (ce_v 0) (ca_cons (ce_int) (ca_nil))))) (ce_int)) (ca_nil)))) (ca_nil))))))))) :
      PSs _ _ (Ts _ _ _ b_d_law_integer))
noncomputable def lt_d_law_other_1 : ME Bool := tV (e2 dNe (eV 4) (eV 2))
noncomputable def le_d_law_other_2 : ME D := eV 4
noncomputable def b_d_law_other : MS := sSeq (sSet 3 (eLc (iSeq (eV 1)) [4] (gN 4) (lt_d_law_other_1) (le_d_law_other_2)))
  (sRet (e2 dIxZ (eV 3) (eCall m_d_law_draw (aCons (eV 0) (aCons (eFn dLen (aCons (eV 3) (aNil))) (aNil))))))
noncomputable def m_d_law_other : List D → Store → R D := fnM 5 3 b_d_law_other
theorem ok_d_law_other (X : Fx K mg) : FnOk P w K mg base (L2.CX P w) 2 X.a_d_law_other X.d_d_law_other ["pool", "names", "deed"] (spM K mg 3 m_d_law_other) :=
  okM (k := 1) X.F_d_law_other sc_d_law_other rfl fun cdv A outer s H E hr tk =>
    (css_cons (cs_setLc (i := 3) (own := [("name", 4)]) rfl sc_d_law_other.nd rfl rfl (sw_true rfl rfl rfl (by decide +kernel)) (ci_seq (ce_v 1)) (blkOk_by (N := ["pool", "names", "deed", "others", "name"]) (sc := defScope s_d_law_other) (by decide +kernel)) (fun _ _ _ _ _ => cg_name (i := 4) sc_d_law_other.nd rfl (by first | exact Or.inl rfl | exact Or.inr rfl)) (fun _ _ _ _ _ => cts_one (ct_cmp (opA_ne hr.units) ops_ne (ce_v 4) (ce_v 2) (nomark _))) (fun _ _ _ _ _ => ce_v 4))
    (css_one (cs_ret (ce_ix (ix_Z hr.units) ops_ixZ (ce_v 3) (ce_call (n := 2) (ok_d_law_draw X) (hr.mono (by decide)) tk (by rfl) X.g_d_law_draw X.F_d_law_draw.kp (bd_d_law_draw X) (an_cons (an_cons an_nil)) (ca_cons (ce_v 0) (ca_cons (ce_callB call_len fns_len (by rfl) X.b_len (by decide +kernel) (ca_cons (ce_v 3) (ca_nil))) (ca_nil)))) (fun _ _ => rfl)))) :
      PSs _ _ (Ts _ _ _ b_d_law_other))
noncomputable def bl_d_law_dates_1 : MS := sSeq (sSet 5 (e2 dAdd (eV 3) (eCall m_d_law_draw (aCons (eV 0) (aCons (eC (.int 3)) (aNil))))))
  (sSeq (sSet 6 (e2 dAdd (eV 5) (eCall m_d_law_draw (aCons (eV 0) (aCons (eC (.int 3)) (aNil))))))
  (sSeq (sIf (tV (e2 dLe (eV 6) (eC (.int 9999)))) (sExpr (eMt "list" dAppend (eV 2) (aCons (eTup (aCons (eV 5) (aCons (eV 6) (aNil)))) (aNil)))) (sNil))
  (sSet 3 (e2 dAdd (eV 6) (eC (.int 2))))))
noncomputable def b_d_law_dates : MS := sSeq (sSet 2 (eLst (aNil)))
  (sSeq (sSet 3 (e2 dAdd (eFn dMax2 (aCons (e1 dNeg (eC (.int 9999))) (aCons (e2 dSub (eV 1) (eC (.int 2))) (aNil)))) (eCall m_d_law_draw (aCons (eV 0) (aCons (eC (.int 3)) (aNil))))))
  (sSeq (sFor (iRange1 (aCons (e2 dIxZ (eTup (aCons (eC (.int 0)) (aCons (eC (.int 1)) (aCons (eC (.int 2)) (aCons (eC (.int 3)) (aCons (eC (.int 12)) (aNil))))))) (eCall m_d_law_draw (aCons (eV 0) (aCons (eC (.int 5)) (aNil))))) (aNil))) (gN 4) (bl_d_law_dates_1))
  (sRet (eFn dTuple (aCons (eV 2) (aNil))))))
noncomputable def m_d_law_dates : List D → Store → R D := fnM 7 2 b_d_law_dates
theorem ok_d_law_dates (X : Fx K mg) : FnOk P w K mg base (L2.CX P w) 2 X.a_d_law_dates X.d_d_law_dates ["pool", "first"] (spM K mg 2 m_d_law_dates) :=
  okM (k := 1) X.F_d_law_dates sc_d_law_dates rfl fun cdv A outer s H E hr tk =>
    (css_cons (cs_set (j := 2) sc_d_law_dates.nd rfl (Or.inl rfl) (ce_lst (ca_nil)))
    (css_cons (cs_set (j := 3) sc_d_law_dates.nd rfl (Or.inl rfl) (ce_op op_addA ops_add (ce_callB (call_max2 rfl) fns_max2 (by rfl) X.b_max (by decide +kernel) (ca_cons (ce_un un_neg uns_neg (ce_int)) (ca_cons (ce_op op_sub ops_sub (ce_v 1) (ce_int)) (ca_nil)))) (ce_call (n := 2) (ok_d_law_draw X) (hr.mono (by decide)) tk (by rfl) X.g_d_law_draw X.F_d_law_draw.kp (bd_d_law_draw X) (an_cons (an_cons an_nil)) (ca_cons (ce_v 0) (ca_cons (ce_int) (ca_nil))))))
    (css_cons (cs_for (passes_of rfl) rfl (ci_range1 (by rfl) X.b_range (ca_cons (ce_ix (ix_Z hr.units) ops_ixZ (ce_tup (ca_cons (ce_int) (ca_cons (ce_int) (ca_cons (ce_int) (ca_cons (ce_int) (ca_cons (ce_int) (ca_nil))))))) (ce_call (n := 2) (ok_d_law_draw X) (hr.mono (by decide)) tk (by rfl) X.g_d_law_draw X.F_d_law_draw.kp (bd_d_law_draw X) (an_cons (an_cons an_nil)) (ca_cons (ce_v 0) (ca_cons (ce_int) (ca_nil)))) (fun _ _ => rfl)) (ca_nil))) (cg_name (i := 4) sc_d_law_dates.nd rfl (by first | exact Or.inl rfl | exact Or.inr rfl)) (css_cons (cs_set (j := 5) sc_d_law_dates.nd rfl (Or.inl rfl) (ce_op op_addA ops_add (ce_v 3) (ce_call (n := 2) (ok_d_law_draw X) (hr.mono (by decide)) tk (by rfl) X.g_d_law_draw X.F_d_law_draw.kp (bd_d_law_draw X) (an_cons (an_cons an_nil)) (ca_cons (ce_v 0) (ca_cons (ce_int) (ca_nil))))))
    (css_cons (cs_set (j := 6) sc_d_law_dates.nd rfl (Or.inl rfl) (ce_op op_addA ops_add (ce_v 5) (ce_call (n := 2) (ok_d_law_draw X) (hr.mono (by decide)) tk (by rfl) X.g_d_law_draw X.F_d_law_draw.kp (bd_d_law_draw X) (an_cons (an_cons an_nil)) (ca_cons (ce_v 0) (ca_cons (ce_int) (ca_nil))))))
    (css_cons (cs_if (ct_cmp opA_le ops_le (ce_v 6) (ce_int) (nomark _)) (css_one (cs_expr (ce_bm PySem.F.plainAttrs_list PySem.F.slot_list_append PySem.F.type_list_append mt_append mts_append (ce_v 2) (ca_cons (ce_tup (ca_cons (ce_v 5) (ca_cons (ce_v 6) (ca_nil)))) (ca_nil))))) (css_nil))
    (css_one (cs_set (j := 3) sc_d_law_dates.nd rfl (Or.inl rfl) (ce_op op_addA ops_add (ce_v 6) (ce_int))))))))
    (css_one (cs_ret (ce_callTy call_tuple_of fns_tuple (by rfl) X.b_tuple (by decide +kernel) (ca_cons (ce_v 2) (ca_nil))))))) :
      PSs _ _ (Ts _ _ _ b_d_law_dates))
noncomputable def lt_d_law_bound_1 : ME Bool := tV (e2 dGe (eV 11) (eV 8))
noncomputable def le_d_law_bound_2 : ME D := eV 11
noncomputable def bl_d_law_bound_3 : MS := sIf (tAnd (tV (e2 dGe (eFn dLen (aCons (eLc (iSeq (eV 7)) [11] (gN 11) (lt_d_law_bound_1) (le_d_law_bound_2)) (aNil))) (eV 4))) (tOr (tV (e2 dIs (eV 6) (eC .non))) (tV (e2 dGt (eV 8) (eV 6))))) (sSet 6 (eV 8)) (sNil)
noncomputable def le_d_law_bound_4 : ME D := e2 dSub (e2 dIxZ (eV 3) (eV 9)) (eV 10)
noncomputable def lt_d_law_bound_5 : ME Bool := tV (e2 dLe (eV 11) (eV 8))
noncomputable def le_d_law_bound_6 : ME D := eV 11
noncomputable def bl_d_law_bound_7 : MS := sIf (tAnd (tV (e2 dGe (eFn dLen (aCons (eLc (iSeq (eV 7)) [11] (gN 11) (lt_d_law_bound_5) (le_d_law_bound_6)) (aNil))) (eV 4))) (tOr (tV (e2 dIs (eV 6) (eC .non))) (tV (e2 dLt (eV 8) (eV 6))))) (sSet 6 (eV 8)) (sNil)
noncomputable def le_d_law_bound_8 : ME D := e2 dAdd (e2 dIxZ (eV 3) (eV 9)) (eV 10)
noncomputable def b_d_law_bound : MS := sSeq (sAsg (gT 2 (gsC (gN 4) (gsC (gN 5) (gsN)))) (eCall m_d_law_parts (aCons (eV 0) (aCons (eV 1) (aCons (eV 2) (aNil))))))
  (sSeq (sSet 6 (eC .non))
  (sSeq (sIf (tV (e2 dEq (eV 1) (eC (.str "ante")))) (sSeq (sSet 7 (eLc (iSeq (eV 5)) [9, 10] (gT 2 (gsC (gN 9) (gsC (gN 10) (gsN)))) (tT) (le_d_law_bound_4)))
  (sFor (iSeq (eV 7)) (gN 8) (bl_d_law_bound_3))) (sSeq (sSet 7 (eLc (iSeq (eV 5)) [9, 10] (gT 2 (gsC (gN 9) (gsC (gN 10) (gsN)))) (tT) (le_d_law_bound_8)))
  (sFor (iSeq (eV 7)) (gN 8) (bl_d_law_bound_7))))
  (sRet (eV 6))))
noncomputable def m_d_law_bound : List D → Store → R D := fnM 12 4 b_d_law_bound
theorem ok_d_law_bound (X : Fx K mg) : FnOk P w K mg base (L2.CX P w) 2 X.a_d_law_bound X.d_d_law_bound ["record", "way", "deed", "years"] (spM K mg 4 m_d_law_bound) :=
  okM (k := 1) X.F_d_law_bound sc_d_law_bound rfl fun cdv A outer s H E hr tk =>
    (css_cons (cs_asg (ce_call (n := 3) (ok_d_law_parts X) (hr.mono (by decide)) tk (by rfl) X.g_d_law_parts X.F_d_law_parts.kp (bd_d_law_parts X) (an_cons (an_cons (an_cons an_nil))) (ca_cons (ce_v 0) (ca_cons (ce_v 1) (ca_cons (ce_v 2) (ca_nil))))) (cg_tup (n := 2) rfl (cgs_cons (us := [4, 5]) (cg_name (i := 4) sc_d_law_bound.nd rfl (by first | exact Or.inl rfl | exact Or.inr rfl)) (cgs_cons (us := [5]) (cg_name (i := 5) sc_d_law_bound.nd rfl (by first | exact Or.inl rfl | exact Or.inr rfl)) (cgs_nil (vs := []))))))
    (css_cons (cs_set (j := 6) sc_d_law_bound.nd rfl (Or.inl rfl) (ce_non))
    (css_cons (cs_if (ct_cmp (opA_eq hr.units) ops_eq (ce_v 1) (ce_str) (nomark _)) (css_cons (cs_setLc (i := 7) (own := [("other", 9), ("least", 10)]) rfl sc_d_law_bound.nd rfl rfl (sw_true rfl rfl rfl (by decide +kernel)) (ci_seq (ce_v 5)) (blkOk_by (N := ["record", "way", "deed", "years", "many", "parts", "best", "reached", "value", "other", "least", "one"]) (sc := defScope s_d_law_bound) (by decide +kernel)) (fun _ _ _ _ _ => cg_tup (n := 2) rfl (cgs_cons (us := [9, 10]) (cg_name (i := 9) sc_d_law_bound.nd rfl (by first | exact Or.inl rfl | exact Or.inr rfl)) (cgs_cons (us := [10]) (cg_name (i := 10) sc_d_law_bound.nd rfl (by first | exact Or.inl rfl | exact Or.inr rfl)) (cgs_nil (vs := []))))) (fun _ _ _ _ _ => cts_nil) (fun _ _ _ _ _ => ce_op op_sub ops_sub (ce_ix (ix_Z hr.units) ops_ixZ (ce_v 3) (ce_v 9) (fun _ _ => rfl)) (ce_v 10)))
    (css_one (cs_for (passes_of rfl) rfl (ci_seq (ce_v 7)) (cg_name (i := 8) sc_d_law_bound.nd rfl (by first | exact Or.inl rfl | exact Or.inr rfl)) (css_one (cs_if (PW.pt (cw_and (ct_cmp opA_ge ops_ge (ce_callB call_len fns_len (by rfl) X.b_len (by decide +kernel) (ca_cons (ce_lc (own := [("one", 11)]) rfl sc_d_law_bound.nd (ci_seq (ce_v 7)) (blkOk_by (N := ["record", "way", "deed", "years", "many", "parts", "best", "reached", "value", "other", "least", "one"]) (sc := defScope s_d_law_bound) (by decide +kernel)) (fun _ _ _ _ _ => cg_name (i := 11) sc_d_law_bound.nd rfl (by first | exact Or.inl rfl | exact Or.inr rfl)) (fun _ _ _ _ _ => cts_one (ct_cmp opA_ge ops_ge (ce_v 11) (ce_v 8) (nomark _))) (fun _ _ _ _ _ => ce_v 11)) (ca_nil))) (ce_v 4) (nomark _)) (cw_and1 (PW.pt (cw_or (ct_cmp opA_is ops_is (ce_v 6) (ce_non) (nomark _)) (cw_or1 (ct_cmp opA_gt ops_gt (ce_v 8) (ce_v 6) (nomark _)))))))) (css_one (cs_set (j := 6) sc_d_law_bound.nd rfl (Or.inl rfl) (ce_v 8))) (css_nil)))))) (css_cons (cs_setLc (i := 7) (own := [("other", 9), ("least", 10)]) rfl sc_d_law_bound.nd rfl rfl (sw_true rfl rfl rfl (by decide +kernel)) (ci_seq (ce_v 5)) (blkOk_by (N := ["record", "way", "deed", "years", "many", "parts", "best", "reached", "value", "other", "least", "one"]) (sc := defScope s_d_law_bound) (by decide +kernel)) (fun _ _ _ _ _ => cg_tup (n := 2) rfl (cgs_cons (us := [9, 10]) (cg_name (i := 9) sc_d_law_bound.nd rfl (by first | exact Or.inl rfl | exact Or.inr rfl)) (cgs_cons (us := [10]) (cg_name (i := 10) sc_d_law_bound.nd rfl (by first | exact Or.inl rfl | exact Or.inr rfl)) (cgs_nil (vs := []))))) (fun _ _ _ _ _ => cts_nil) (fun _ _ _ _ _ => ce_op op_addA ops_add (ce_ix (ix_Z hr.units) ops_ixZ (ce_v 3) (ce_v 9) (fun _ _ => rfl)) (ce_v 10)))
    (css_one (cs_for (passes_of rfl) rfl (ci_seq (ce_v 7)) (cg_name (i := 8) sc_d_law_bound.nd rfl (by first | exact Or.inl rfl | exact Or.inr rfl)) (css_one (cs_if (PW.pt (cw_and (ct_cmp opA_ge ops_ge (ce_callB call_len fns_len (by rfl) X.b_len (by decide +kernel) (ca_cons (ce_lc (own := [("one", 11)]) rfl sc_d_law_bound.nd (ci_seq (ce_v 7)) (blkOk_by (N := ["record", "way", "deed", "years", "many", "parts", "best", "reached", "value", "other", "least", "one"]) (sc := defScope s_d_law_bound) (by decide +kernel)) (fun _ _ _ _ _ => cg_name (i := 11) sc_d_law_bound.nd rfl (by first | exact Or.inl rfl | exact Or.inr rfl)) (fun _ _ _ _ _ => cts_one (ct_cmp opA_le ops_le (ce_v 11) (ce_v 8) (nomark _))) (fun _ _ _ _ _ => ce_v 11)) (ca_nil))) (ce_v 4) (nomark _)) (cw_and1 (PW.pt (cw_or (ct_cmp opA_is ops_is (ce_v 6) (ce_non) (nomark _)) (cw_or1 (ct_cmp opA_lt ops_lt (ce_v 8) (ce_v 6) (nomark _)))))))) (css_one (cs_set (j := 6) sc_d_law_bound.nd rfl (Or.inl rfl) (ce_v 8))) (css_nil)))))))
    (css_one (cs_ret (ce_v 6))))) :
      PSs _ _ (Ts _ _ _ b_d_law_bound))
noncomputable def b_d_law_simple : MS := sSeq (sSet 4 (e2 dIxZ (eV 1) (eCall m_d_law_draw (aCons (eV 0) (aCons (eFn dLen (aCons (eV 1) (aNil))) (aNil))))))
  (sSeq (sIf (tV (e2 dEq (eCall m_d_law_draw (aCons (eV 0) (aCons (eC (.int 4)) (aNil)))) (eC (.int 3)))) (sRet (eTup (aCons (eC (.str "years")) (aCons (eV 4) (aCons (eCall m_d_law_dates (aCons (eV 0) (aCons (eV 3) (aNil)))) (aNil)))))) (sNil))
  (sSeq (sSet 5 (eCall m_d_law_other (aCons (eV 0) (aCons (eV 1) (aCons (eV 4) (aNil))))))
  (sRet (eTup (aCons (eC (.str "gap")) (aCons (eV 4) (aCons (eV 5) (aCons (eCall m_d_law_integer (aCons (eV 0) (aCons (e2 dSub (e2 dIxZ (eV 2) (eV 5)) (e2 dIxZ (eV 2) (eV 4))) (aNil)))) (aNil)))))))))
noncomputable def m_d_law_simple : List D → Store → R D := fnM 6 4 b_d_law_simple
theorem ok_d_law_simple (X : Fx K mg) : FnOk P w K mg base (L2.CX P w) 3 X.a_d_law_simple X.d_d_law_simple ["pool", "names", "years", "first"] (spM K mg 4 m_d_law_simple) :=
  okM (k := 2) X.F_d_law_simple sc_d_law_simple rfl fun cdv A outer s H E hr tk =>
    (css_cons (cs_set (j := 4) sc_d_law_simple.nd rfl (Or.inl rfl) (ce_ix (ix_Z hr.units) ops_ixZ (ce_v 1) (ce_call (n := 2) (ok_d_law_draw X) (hr.mono (by decide)) tk (by rfl) X.g_d_law_draw X.F_d_law_draw.kp (bd_d_law_draw X) (an_cons (an_cons an_nil)) (ca_cons (ce_v 0) (ca_cons (ce_callB call_len fns_len (by rfl) X.b_len (by decide +kernel) (ca_cons (ce_v 1) (ca_nil))) (ca_nil)))) (fun _ _ => rfl)))
    (css_cons (cs_if (ct_cmp (opA_eq hr.units) ops_eq (ce_call (n := 2) (ok_d_law_draw X) (hr.mono (by decide)) tk (by rfl) X.g_d_law_draw X.F_d_law_draw.kp (bd_d_law_draw X) (an_cons (an_cons an_nil)) (ca_cons (ce_v 0) (ca_cons (ce_int) (ca_nil)))) (ce_int) (nomark _)) (css_one (cs_ret (ce_tup (ca_cons (ce_str) (ca_cons (ce_v 4) (ca_cons (ce_call (n := 2) (ok_d_law_dates X) (hr.mono (by decide)) tk (by rfl) X.g_d_law_dates X.F_d_law_dates.kp (bd_d_law_dates X) (an_cons (an_cons an_nil)) (ca_cons (ce_v 0) (ca_cons (ce_v 3) (ca_nil)))) (ca_nil))))))) (css_nil))
    (css_cons (cs_set (j := 5) sc_d_law_simple.nd rfl (Or.inl rfl) (ce_call (n := 3) (ok_d_law_other X) (hr.mono (by decide)) tk (by rfl) X.g_d_law_other X.F_d_law_other.kp (bd_d_law_other X) (an_cons (an_cons (an_cons an_nil))) (ca_cons (ce_v 0) (ca_cons (ce_v 1) (ca_cons (ce_v 4) (ca_nil))))))
    (css_one (cs_ret (ce_tup (ca_cons (ce_str) (ca_cons (ce_v 4) (ca_cons (ce_v 5) (ca_cons (ce_call (n := 2) (ok_d_law_integer X) (hr.mono (by decide)) tk (by rfl) X.g_d_law_integer X.F_d_law_integer.kp (bd_d_law_integer X) (an_cons (an_cons an_nil)) (ca_cons (ce_v 0) (ca_cons (ce_op op_sub ops_sub (ce_ix (ix_Z hr.units) ops_ixZ (ce_v 2) (ce_v 5) (fun _ _ => rfl)) (ce_ix (ix_Z hr.units) ops_ixZ (ce_v 2) (ce_v 4) (fun _ _ => rfl))) (ca_nil)))) (ca_nil)))))))))) :
      PSs _ _ (Ts _ _ _ b_d_law_simple))
noncomputable def bl_d_law_lot_1 : MS := sSeq (sSet 7 (eCall m_d_law_other (aCons (eV 0) (aCons (eV 1) (aCons (eV 4) (aNil))))))
  (sSeq (sSet 8 (e2 dSub (e2 dIxZ (eV 2) (eV 7)) (e2 dIxZ (eV 2) (eV 4))))
  (sSeq (sIf (tV (e2 dEq (eV 3) (eC (.str "over")))) (sSet 8 (e1 dNeg (eV 8))) (sNil))
  (sExpr (eMt "list" dAppend (eV 5) (aCons (eTup (aCons (eV 7) (aCons (eCall m_d_law_integer (aCons (eV 0) (aCons (eV 8) (aNil)))) (aNil)))) (aNil))))))
noncomputable def b_d_law_lot : MS := sSeq (sSet 4 (e2 dIxZ (eV 1) (eCall m_d_law_draw (aCons (eV 0) (aCons (eFn dLen (aCons (eV 1) (aNil))) (aNil))))))
  (sSeq (sSet 5 (eLst (aNil)))
  (sSeq (sFor (iRange1 (aCons (e2 dAdd (eC (.int 2)) (eCall m_d_law_draw (aCons (eV 0) (aCons (eC (.int 7)) (aNil))))) (aNil))) (gN 6) (bl_d_law_lot_1))
  (sRet (eTup (aCons (eV 3) (aCons (eV 4) (aCons (e2 dAdd (eC (.int 1)) (eCall m_d_law_draw (aCons (eV 0) (aCons (e2 dSub (eFn dLen (aCons (eV 5) (aNil))) (eC (.int 1))) (aNil))))) (aCons (eFn dTuple (aCons (eV 5) (aNil))) (aNil)))))))))
noncomputable def m_d_law_lot : List D → Store → R D := fnM 9 4 b_d_law_lot
theorem ok_d_law_lot (X : Fx K mg) : FnOk P w K mg base (L2.CX P w) 3 X.a_d_law_lot X.d_d_law_lot ["pool", "names", "years", "kind"] (spM K mg 4 m_d_law_lot) :=
  okM (k := 2) X.F_d_law_lot sc_d_law_lot rfl fun cdv A outer s H E hr tk =>
    (css_cons (cs_set (j := 4) sc_d_law_lot.nd rfl (Or.inl rfl) (ce_ix (ix_Z hr.units) ops_ixZ (ce_v 1) (ce_call (n := 2) (ok_d_law_draw X) (hr.mono (by decide)) tk (by rfl) X.g_d_law_draw X.F_d_law_draw.kp (bd_d_law_draw X) (an_cons (an_cons an_nil)) (ca_cons (ce_v 0) (ca_cons (ce_callB call_len fns_len (by rfl) X.b_len (by decide +kernel) (ca_cons (ce_v 1) (ca_nil))) (ca_nil)))) (fun _ _ => rfl)))
    (css_cons (cs_set (j := 5) sc_d_law_lot.nd rfl (Or.inl rfl) (ce_lst (ca_nil)))
    (css_cons (cs_for (passes_of rfl) rfl (ci_range1 (by rfl) X.b_range (ca_cons (ce_op op_addA ops_add (ce_int) (ce_call (n := 2) (ok_d_law_draw X) (hr.mono (by decide)) tk (by rfl) X.g_d_law_draw X.F_d_law_draw.kp (bd_d_law_draw X) (an_cons (an_cons an_nil)) (ca_cons (ce_v 0) (ca_cons (ce_int) (ca_nil))))) (ca_nil))) (cg_name (i := 6) sc_d_law_lot.nd rfl (by first | exact Or.inl rfl | exact Or.inr rfl)) (css_cons (cs_set (j := 7) sc_d_law_lot.nd rfl (Or.inl rfl) (ce_call (n := 3) (ok_d_law_other X) (hr.mono (by decide)) tk (by rfl) X.g_d_law_other X.F_d_law_other.kp (bd_d_law_other X) (an_cons (an_cons (an_cons an_nil))) (ca_cons (ce_v 0) (ca_cons (ce_v 1) (ca_cons (ce_v 4) (ca_nil))))))
    (css_cons (cs_set (j := 8) sc_d_law_lot.nd rfl (Or.inl rfl) (ce_op op_sub ops_sub (ce_ix (ix_Z hr.units) ops_ixZ (ce_v 2) (ce_v 7) (fun _ _ => rfl)) (ce_ix (ix_Z hr.units) ops_ixZ (ce_v 2) (ce_v 4) (fun _ _ => rfl))))
    (css_cons (cs_if (ct_cmp (opA_eq hr.units) ops_eq (ce_v 3) (ce_str) (nomark _)) (css_one (cs_set (j := 8) sc_d_law_lot.nd rfl (Or.inl rfl) (ce_un un_neg uns_neg (ce_v 8)))) (css_nil))
    (css_one (cs_expr (ce_bm PySem.F.plainAttrs_list PySem.F.slot_list_append PySem.F.type_list_append mt_append mts_append (ce_v 5) (ca_cons (ce_tup (ca_cons (ce_v 7) (ca_cons (ce_call (n := 2) (ok_d_law_integer X) (hr.mono (by decide)) tk (by rfl) X.g_d_law_integer X.F_d_law_integer.kp (bd_d_law_integer X) (an_cons (an_cons an_nil)) (ca_cons (ce_v 0) (ca_cons (ce_v 8) (ca_nil)))) (ca_nil)))) (ca_nil)))))))))
    (css_one (cs_ret (ce_tup (ca_cons (ce_v 3) (ca_cons (ce_v 4) (ca_cons (ce_op op_addA ops_add (ce_int) (ce_call (n := 2) (ok_d_law_draw X) (hr.mono (by decide)) tk (by rfl) X.g_d_law_draw X.F_d_law_draw.kp (bd_d_law_draw X) (an_cons (an_cons an_nil)) (ca_cons (ce_v 0) (ca_cons (ce_op op_sub ops_sub (ce_callB call_len fns_len (by rfl) X.b_len (by decide +kernel) (ca_cons (ce_v 5) (ca_nil))) (ce_int)) (ca_nil))))) (ca_cons (ce_callTy call_tuple_of fns_tuple (by rfl) X.b_tuple (by decide +kernel) (ca_cons (ce_v 5) (ca_nil))) (ca_nil)))))))))) :
      PSs _ _ (Ts _ _ _ b_d_law_lot))
noncomputable def le_d_law_free_1 : ME D := eCall m_d_law_simple (aCons (eV 0) (aCons (eV 1) (aCons (eV 2) (aCons (eV 3) (aNil)))))
noncomputable def bl_d_law_free_2 : MS := sExpr (eMt "list" dAppend (eV 4) (aCons (eFn dTuple (aCons (eLc (iRange1 (aCons (e2 dAdd (eC (.int 1)) (eCall m_d_law_draw (aCons (eV 0) (aCons (eC (.int 3)) (aNil))))) (aNil))) [6] (gN 6) (tT) (le_d_law_free_1)) (aNil))) (aNil)))
noncomputable def b_d_law_free : MS := sSeq (sSet 4 (eLst (aNil)))
  (sSeq (sFor (iRange1 (aCons (e2 dAdd (eC (.int 2)) (eCall m_d_law_draw (aCons (eV 0) (aCons (eC (.int 3)) (aNil))))) (aNil))) (gN 5) (bl_d_law_free_2))
  (sRet (eTup (aCons (eC (.str "one")) (aCons (eFn dTuple (aCons (eV 4) (aNil))) (aNil))))))
noncomputable def m_d_law_free : List D → Store → R D := fnM 7 4 b_d_law_free
theorem ok_d_law_free (X : Fx K mg) : FnOk P w K mg base (L2.CX P w) 4 X.a_d_law_free X.d_d_law_free ["pool", "names", "years", "first"] (spM K mg 4 m_d_law_free) :=
  okM (k := 3) X.F_d_law_free sc_d_law_free rfl fun cdv A outer s H E hr tk =>
    (css_cons (cs_set (j := 4) sc_d_law_free.nd rfl (Or.inl rfl) (ce_lst (ca_nil)))
    (css_cons (cs_for (passes_of rfl) rfl (ci_range1 (by rfl) X.b_range (ca_cons (ce_op op_addA ops_add (ce_int) (ce_call (n := 2) (ok_d_law_draw X) (hr.mono (by decide)) tk (by rfl) X.g_d_law_draw X.F_d_law_draw.kp (bd_d_law_draw X) (an_cons (an_cons an_nil)) (ca_cons (ce_v 0) (ca_cons (ce_int) (ca_nil))))) (ca_nil))) (cg_name (i := 5) sc_d_law_free.nd rfl (by first | exact Or.inl rfl | exact Or.inr rfl)) (css_one (cs_expr (ce_bm PySem.F.plainAttrs_list PySem.F.slot_list_append PySem.F.type_list_append mt_append mts_append (ce_v 4) (ca_cons (ce_callTy call_tuple_of fns_tuple (by rfl) X.b_tuple (by decide +kernel) (ca_cons (ce_lc (own := [("more", 6)]) rfl sc_d_law_free.nd (ci_range1 (by rfl) X.b_range (ca_cons (ce_op op_addA ops_add (ce_int) (ce_call (n := 2) (ok_d_law_draw X) (hr.mono (by decide)) tk (by rfl) X.g_d_law_draw X.F_d_law_draw.kp (bd_d_law_draw X) (an_cons (an_cons an_nil)) (ca_cons (ce_v 0) (ca_cons (ce_int) (ca_nil))))) (ca_nil))) (blkOk_by (N := ["pool", "names", "years", "first", "sides", "place", "more"]) (sc := defScope s_d_law_free) (by decide +kernel)) (fun _ _ _ _ _ => cg_name (i := 6) sc_d_law_free.nd rfl (by first | exact Or.inl rfl | exact Or.inr rfl)) (fun _ _ _ _ _ => cts_nil) (fun _ _ _ _ _ => ce_call (n := 4) (ok_d_law_simple X) (hr.mono (by decide)) takes0 (by rfl) X.g_d_law_simple X.F_d_law_simple.kp (bd_d_law_simple X) (an_cons (an_cons (an_cons (an_cons an_nil)))) (ca_cons (ce_v 0) (ca_cons (ce_v 1) (ca_cons (ce_v 2) (ca_cons (ce_v 3) (ca_nil))))))) (ca_nil))) (ca_nil))))))
    (css_one (cs_ret (ce_tup (ca_cons (ce_str) (ca_cons (ce_callTy call_tuple_of fns_tuple (by rfl) X.b_tuple (by decide +kernel) (ca_cons (ce_v 4) (ca_nil))) (ca_nil))))))) :
      PSs _ _ (Ts _ _ _ b_d_law_free))
noncomputable def lt_law_1 : ME Bool := tV (e2 dIsNot (eV 22) (eC .non))
noncomputable def le_law_2 : ME D := eV 22
noncomputable def le_law_3 : ME D := e2 dIxZ (eV 6) (eC (.int 3))
noncomputable def bl_law_4 : MS := sIf (tNot (tTru (eCall m_d_law_same (aCons (eCallKw [4, 3, 2, 1, 0] m_bound_of (aCons (eV 18) (aCons (eV 17) (aCons (eV 21) (aCons (eV 20) (aCons (eV 23) (aNil))))))) (aCons (eV 22) (aNil)))))) (sRet (eC (.bl false))) (sNil)
noncomputable def bl_law_5 : MS := sIf (tNot (tTru (eCall m_d_law_same (aCons (eCall m_bound_of (aCons (eV 16) (aCons (eV 20) (aCons (eV 21) (aCons (eV 17) (aCons (eV 18) (aNil))))))) (aCons (eV 22) (aNil)))))) (sRet (eC (.bl false))) (sNil)
noncomputable def bl_law_6 : MS := sSeq (sExpr (eMt "list" dAppend (eV 19) (aCons (eTup (aCons (eV 20) (aCons (eC (.str "ante")) (aCons (eV 17) (aCons (eCall m_d_law_bound (aCons (eV 20) (aCons (eC (.str "ante")) (aCons (eV 17) (aCons (eV 8) (aNil)))))) (aNil)))))) (aNil))))
  (sExpr (eMt "list" dAppend (eV 19) (aCons (eTup (aCons (eV 20) (aCons (eC (.str "post")) (aCons (eV 17) (aCons (eCall m_d_law_bound (aCons (eV 20) (aCons (eC (.str "post")) (aCons (eV 17) (aCons (eV 8) (aNil)))))) (aNil)))))) (aNil))))
noncomputable def bl_law_7 : MS := sFor (iSeq (e2 dAdd (eCall m_d_law_named (aCons (eV 20) (aNil))) (eLst (aCons (e2 dIxZ (eV 7) (eCall m_d_law_draw (aCons (eV 1) (aCons (eV 3) (aNil))))) (aNil))))) (gN 17) (bl_law_6)
noncomputable def le_law_8 : ME D := e2 dIxZ (eV 8) (eV 17)
noncomputable def bl_law_9 : MS := sExpr (eMt "list" dAppend (eV 14) (aCons (eTup (aCons (eC (.str "ann")) (aCons (eCall m_d_law_simple (aCons (eV 1) (aCons (eV 7) (aCons (eV 8) (aCons (eV 4) (aNil)))))) (aNil)))) (aNil)))
noncomputable def lt_law_10 : ME Bool := tV (e2 dNotIn (e2 dIxZ (e2 dIxZ (eV 10) (eV 13)) (eC (.int 0))) (eTup (aCons (eC (.str "over")) (aCons (eV 12) (aNil)))))
noncomputable def le_law_11 : ME D := eTup (aCons (e2 dAdd (eC (.str "dig")) (eFn dStr (aCons (e2 dMod (eV 13) (eC (.int 3))) (aNil)))) (aCons (e2 dIxZ (eV 10) (eV 13)) (aNil)))
noncomputable def bl_law_12 : MS := sExpr (eMt "list" dAppend (eV 10) (aCons (eCall m_d_law_lot (aCons (eV 1) (aCons (eV 7) (aCons (eV 8) (aCons (eV 11) (aNil)))))) (aNil)))
noncomputable def b_law : MS := sSeq (sSet 1 (eCall m_d_law_pool (aCons (eV 0) (aNil))))
  (sSeq (sSet 2 (e2 dEq (eCall m_d_law_draw (aCons (eV 1) (aCons (eC (.int 7)) (aNil)))) (eC (.int 3))))
  (sSeq (sSet 3 (e2 dAdd (eC (.int 2)) (eCall m_d_law_draw (aCons (eV 1) (aCons (eC (.int 6)) (aNil))))))
  (sSeq (sIf (tTru (eV 2)) (sSet 3 (eC (.int 40))) (sNil))
  (sSeq (sAsg (gT 2 (gsC (gN 4) (gsC (gN 5) (gsN)))) (eCall m_d_law_frame (aCons (eV 1) (aNil))))
  (sSeq (sSet 6 (eCall m_d_law_years (aCons (eV 1) (aCons (eV 4) (aCons (eV 5) (aCons (eV 3) (aNil)))))))
  (sSeq (sSet 7 (eCall m_d_law_names (aCons (eV 1) (aCons (eV 3) (aNil)))))
  (sSeq (sSet 8 (eFn dDictZip (aCons (eV 7) (aCons (eV 6) (aNil)))))
  (sSeq (sSet 9 (e2 dSub (e2 dIxZ (eV 8) (e2 dIxZ (eV 7) (eC (.int 1)))) (e2 dIxZ (eV 8) (e2 dIxZ (eV 7) (eC (.int 0))))))
  (sSeq (sSet 10 (eLst (aCons (eTup (aCons (eC (.str "gap")) (aCons (e2 dIxZ (eV 7) (eC (.int 0))) (aCons (e2 dIxZ (eV 7) (eC (.int 1))) (aCons (eCall m_d_law_integer (aCons (eV 1) (aCons (eV 9) (aNil)))) (aNil)))))) (aNil))))
  (sSeq (sExpr (eMt "list" dAppend (eV 10) (aCons (eTup (aCons (eC (.str "years")) (aCons (e2 dIxZ (eV 7) (eC (.int 1))) (aCons (eCall m_d_law_dates (aCons (eV 1) (aCons (eV 4) (aNil)))) (aNil))))) (aNil))))
  (sSeq (sFor (iSeq (eTup (aCons (eC (.str "under")) (aCons (eC (.str "over")) (aCons (eC (.str "under")) (aCons (eC (.str "over")) (aCons (eC (.str "under")) (aCons (eC (.str "over")) (aNil))))))))) (gN 11) (bl_law_12))
  (sSeq (sExpr (eMt "list" dAppend (eV 10) (aCons (eCall m_d_law_free (aCons (eV 1) (aCons (eV 7) (aCons (eV 8) (aCons (eV 4) (aNil)))))) (aNil))))
  (sSeq (sExpr (eMt "list" dAppend (eV 10) (aCons (eCall m_d_law_simple (aCons (eV 1) (aCons (eV 7) (aCons (eV 8) (aCons (eV 4) (aNil)))))) (aNil))))
  (sSeq (sSet 12 (e2 dIxZ (eTup (aCons (eC (.str "under")) (aCons (eC (.str "over")) (aCons (eC (.str "one")) (aNil))))) (eCall m_d_law_draw (aCons (eV 1) (aCons (eC (.int 3)) (aNil))))))
  (sSeq (sSet 14 (eLc (iRange1 (aCons (eFn dLen (aCons (eV 10) (aNil))) (aNil))) [13] (gN 13) (lt_law_10) (le_law_11)))
  (sSeq (sIf (tTru (eV 2)) (sSeq (sFor (iRange1 (aCons (e2 dSub (eC (.int 120)) (eFn dLen (aCons (eV 14) (aNil)))) (aNil))) (gN 13) (bl_law_9))
  (sExpr (eMt "list" dAppend (eV 10) (aCons (e2 dIxZ (e2 dIxZ (eV 14) (e1 dNeg (eC (.int 1)))) (eC (.int 1))) (aNil))))) (sNil))
  (sSeq (sSet 15 (eFn dTuple (aCons (eFn dSorted (aCons (eV 7) (aNil))) (aNil))))
  (sSeq (sSet 16 (eTup (aCons (eV 4) (aCons (eV 5) (aCons (eV 15) (aCons (eFn dTuple (aCons (eV 14) (aNil))) (aNil)))))))
  (sSeq (sSet 18 (eFn dTuple (aCons (eLc (iSeq (eV 15)) [17] (gN 17) (tT) (le_law_8)) (aNil))))
  (sSeq (sSet 19 (eLst (aNil)))
  (sSeq (sFor (iSeq (eV 10)) (gN 20) (bl_law_7))
  (sSeq (sFor (iSeq (eV 19)) (gT 4 (gsC (gN 20) (gsC (gN 21) (gsC (gN 17) (gsC (gN 22) (gsN)))))) (bl_law_5))
  (sSeq (sSet 23 (eTup (aCons (eV 4) (aCons (eV 5) (aCons (eV 15) (aCons (eTup (aNil)) (aNil)))))))
  (sSeq (sFor (iSeq (eStep (eV 19) (oSome (eCall m_d_law_draw (aCons (eV 1) (aCons (eC (.int 5)) (aNil))))) (oSome (eC (.int 30))) (oSome (eC (.int 3))))) (gT 4 (gsC (gN 20) (gsC (gN 21) (gsC (gN 17) (gsC (gN 22) (gsN)))))) (bl_law_4))
  (sSeq (sSet 24 (eLc (iSeq (eV 19)) [6] (gN 6) (tT) (le_law_3)))
  (sRet (eAnd (e2 dGe (eFn dLen (aCons (eLc (iSeq (eV 24)) [22] (gN 22) (lt_law_1) (le_law_2)) (aNil))) (eC (.int 2))) (e2 dIn (eC .non) (eV 24)))))))))))))))))))))))))))))
noncomputable def m_law : List D → Store → R D := fnM 25 1 b_law
theorem ok_law (X : Fx K mg) : FnOk P w K mg base (L2.CX P w) 5 X.a_law X.d_law ["script"] (spM K mg 1 m_law) :=
  okM (k := 4) X.F_law sc_law rfl fun cdv A outer s H E hr tk =>
    (css_cons (cs_set (j := 1) sc_law.nd rfl (Or.inl rfl) (ce_call (n := 1) (ok_d_law_pool X) (hr.mono (by decide)) tk (by rfl) X.g_d_law_pool X.F_d_law_pool.kp (bd_d_law_pool X) (an_cons an_nil) (ca_cons (ce_v 0) (ca_nil))))
    (css_cons (cs_set (j := 2) sc_law.nd rfl (Or.inl rfl) (ce_cmp (opA_eq hr.units) ops_eq (ce_call (n := 2) (ok_d_law_draw X) (hr.mono (by decide)) tk (by rfl) X.g_d_law_draw X.F_d_law_draw.kp (bd_d_law_draw X) (an_cons (an_cons an_nil)) (ca_cons (ce_v 1) (ca_cons (ce_int) (ca_nil)))) (ce_int) (nomark _)))
    (css_cons (cs_set (j := 3) sc_law.nd rfl (Or.inl rfl) (ce_op op_addA ops_add (ce_int) (ce_call (n := 2) (ok_d_law_draw X) (hr.mono (by decide)) tk (by rfl) X.g_d_law_draw X.F_d_law_draw.kp (bd_d_law_draw X) (an_cons (an_cons an_nil)) (ca_cons (ce_v 1) (ca_cons (ce_int) (ca_nil))))))
    (css_cons (cs_if (ct_tru (ce_v 2)) (css_one (cs_set (j := 3) sc_law.nd rfl (Or.inl rfl) (ce_int))) (css_nil))
    (css_cons (cs_asg (ce_call (n := 1) (ok_d_law_frame X) (hr.mono (by decide)) tk (by rfl) X.g_d_law_frame X.F_d_law_frame.kp (bd_d_law_frame X) (an_cons an_nil) (ca_cons (ce_v 1) (ca_nil))) (cg_tup (n := 2) rfl (cgs_cons (us := [4, 5]) (cg_name (i := 4) sc_law.nd rfl (by first | exact Or.inl rfl | exact Or.inr rfl)) (cgs_cons (us := [5]) (cg_name (i := 5) sc_law.nd rfl (by first | exact Or.inl rfl | exact Or.inr rfl)) (cgs_nil (vs := []))))))
    (css_cons (cs_set (j := 6) sc_law.nd rfl (Or.inl rfl) (ce_call (n := 4) (ok_d_law_years X) (hr.mono (by decide)) tk (by rfl) X.g_d_law_years X.F_d_law_years.kp (bd_d_law_years X) (an_cons (an_cons (an_cons (an_cons an_nil)))) (ca_cons (ce_v 1) (ca_cons (ce_v 4) (ca_cons (ce_v 5) (ca_cons (ce_v 3) (ca_nil)))))))
    (css_cons (cs_set (j := 7) sc_law.nd rfl (Or.inl rfl) (ce_call (n := 2) (ok_d_law_names X) (hr.mono (by decide)) tk (by rfl) X.g_d_law_names X.F_d_law_names.kp (bd_d_law_names X) (an_cons (an_cons an_nil)) (ca_cons (ce_v 1) (ca_cons (ce_v 3) (ca_nil)))))
    (css_cons (cs_set (j := 8) sc_law.nd rfl (Or.inr rfl) (ce_dictZip (by rfl) (by rfl) X.b_dict (by rfl) X.b_zip (ca_cons (ce_v 7) (ca_cons (ce_v 6) (ca_nil)))))
    (css_cons (cs_set (j := 9) sc_law.nd rfl (Or.inl rfl) (ce_op op_sub ops_sub (ce_ix (ix_Z hr.units) ops_ixZ (ce_v 8) (ce_ix (ix_Z hr.units) ops_ixZ (ce_v 7) (ce_int) (fun _ _ => rfl)) (fun _ _ => rfl)) (ce_ix (ix_Z hr.units) ops_ixZ (ce_v 8) (ce_ix (ix_Z hr.units) ops_ixZ (ce_v 7) (ce_int) (fun _ _ => rfl)) (fun _ _ => rfl))))
    (css_cons (cs_set (j := 10) sc_law.nd rfl (Or.inr rfl) (ce_lst (ca_cons (ce_tup (ca_cons (ce_str) (ca_cons (ce_ix (ix_Z hr.units) ops_ixZ (ce_v 7) (ce_int) (fun _ _ => rfl)) (ca_cons (ce_ix (ix_Z hr.units) ops_ixZ (ce_v 7) (ce_int) (fun _ _ => rfl)) (ca_cons (ce_call (n := 2) (ok_d_law_integer X) (hr.mono (by decide)) tk (by rfl) X.g_d_law_integer X.F_d_law_integer.kp (bd_d_law_integer X) (an_cons (an_cons an_nil)) (ca_cons (ce_v 1) (ca_cons (ce_v 9) (ca_nil)))) (ca_nil)))))) (ca_nil))))
    (css_cons (cs_expr (ce_bm PySem.F.plainAttrs_list PySem.F.slot_list_append PySem.F.type_list_append mt_append mts_append (ce_v 10) (ca_cons (ce_tup (ca_cons (ce_str) (ca_cons (ce_ix (ix_Z hr.units) ops_ixZ (ce_v 7) (ce_int) (fun _ _ => rfl)) (ca_cons (ce_call (n := 2) (ok_d_law_dates X) (hr.mono (by decide)) tk (by rfl) X.g_d_law_dates X.F_d_law_dates.kp (bd_d_law_dates X) (an_cons (an_cons an_nil)) (ca_cons (ce_v 1) (ca_cons (ce_v 4) (ca_nil)))) (ca_nil))))) (ca_nil))))
    (css_cons (cs_for (passes_of rfl) rfl (ci_seq (ce_tup (ca_cons (ce_str) (ca_cons (ce_str) (ca_cons (ce_str) (ca_cons (ce_str) (ca_cons (ce_str) (ca_cons (ce_str) (ca_nil))))))))) (cg_name (i := 11) sc_law.nd rfl (by first | exact Or.inl rfl | exact Or.inr rfl)) (css_one (cs_expr (ce_bm PySem.F.plainAttrs_list PySem.F.slot_list_append PySem.F.type_list_append mt_append mts_append (ce_v 10) (ca_cons (ce_call (n := 4) (ok_d_law_lot X) (hr.mono (by decide)) tk (by rfl) X.g_d_law_lot X.F_d_law_lot.kp (bd_d_law_lot X) (an_cons (an_cons (an_cons (an_cons an_nil)))) (ca_cons (ce_v 1) (ca_cons (ce_v 7) (ca_cons (ce_v 8) (ca_cons (ce_v 11) (ca_nil)))))) (ca_nil))))))
    (css_cons (cs_expr (ce_bm PySem.F.plainAttrs_list PySem.F.slot_list_append PySem.F.type_list_append mt_append mts_append (ce_v 10) (ca_cons (ce_call (n := 4) (ok_d_law_free X) (hr.mono (by decide)) tk (by rfl) X.g_d_law_free X.F_d_law_free.kp (bd_d_law_free X) (an_cons (an_cons (an_cons (an_cons an_nil)))) (ca_cons (ce_v 1) (ca_cons (ce_v 7) (ca_cons (ce_v 8) (ca_cons (ce_v 4) (ca_nil)))))) (ca_nil))))
    (css_cons (cs_expr (ce_bm PySem.F.plainAttrs_list PySem.F.slot_list_append PySem.F.type_list_append mt_append mts_append (ce_v 10) (ca_cons (ce_call (n := 4) (ok_d_law_simple X) (hr.mono (by decide)) tk (by rfl) X.g_d_law_simple X.F_d_law_simple.kp (bd_d_law_simple X) (an_cons (an_cons (an_cons (an_cons an_nil)))) (ca_cons (ce_v 1) (ca_cons (ce_v 7) (ca_cons (ce_v 8) (ca_cons (ce_v 4) (ca_nil)))))) (ca_nil))))
    (css_cons (cs_set (j := 12) sc_law.nd rfl (Or.inr rfl) (ce_ix (ix_Z hr.units) ops_ixZ (ce_tup (ca_cons (ce_str) (ca_cons (ce_str) (ca_cons (ce_str) (ca_nil))))) (ce_call (n := 2) (ok_d_law_draw X) (hr.mono (by decide)) tk (by rfl) X.g_d_law_draw X.F_d_law_draw.kp (bd_d_law_draw X) (an_cons (an_cons an_nil)) (ca_cons (ce_v 1) (ca_cons (ce_int) (ca_nil)))) (fun _ _ => rfl)))
    (css_cons (cs_setLc (i := 14) (own := [("at", 13)]) rfl sc_law.nd rfl rfl (sw_true rfl rfl rfl (by decide +kernel)) (ci_range1 (by rfl) X.b_range (ca_cons (ce_callB call_len fns_len (by rfl) X.b_len (by decide +kernel) (ca_cons (ce_v 10) (ca_nil))) (ca_nil))) (blkOk_by (N := ["script", "pool", "large", "many", "first", "last", "row", "names", "years", "aimed", "records", "kind", "left_out", "at", "told_of", "deeds", "book", "deed", "dating", "asked", "record", "way", "due", "empty", "dues"]) (sc := defScope s_law) (by decide +kernel)) (fun _ _ _ _ _ => cg_name (i := 13) sc_law.nd rfl (by first | exact Or.inl rfl | exact Or.inr rfl)) (fun _ _ _ _ _ => cts_one (ct_cmp (opA_notin (un65 hr)) ops_notin (ce_ix (ix_Z hr.units) ops_ixZ (ce_ix (ix_Z hr.units) ops_ixZ (ce_v 10) (ce_v 13) (fun _ _ => rfl)) (ce_int) (fun _ _ => rfl)) (ce_tup (ca_cons (ce_str) (ca_cons (ce_v 12) (ca_nil)))) (by with_unfolding_all rfl))) (fun _ _ _ _ _ => ce_tup (ca_cons (ce_op op_addA ops_add (ce_str) (ce_callTy call_strA fns_str (by rfl) X.b_str (by decide +kernel) (ca_cons (ce_op op_mod ops_mod (ce_v 13) (ce_int)) (ca_nil)))) (ca_cons (ce_ix (ix_Z hr.units) ops_ixZ (ce_v 10) (ce_v 13) (fun _ _ => rfl)) (ca_nil)))))
    (css_cons (cs_if (ct_tru (ce_v 2)) (css_cons (cs_for (passes_of rfl) rfl (ci_range1 (by rfl) X.b_range (ca_cons (ce_op op_sub ops_sub (ce_int) (ce_callB call_len fns_len (by rfl) X.b_len (by decide +kernel) (ca_cons (ce_v 14) (ca_nil)))) (ca_nil))) (cg_name (i := 13) sc_law.nd rfl (by first | exact Or.inl rfl | exact Or.inr rfl)) (css_one (cs_expr (ce_bm PySem.F.plainAttrs_list PySem.F.slot_list_append PySem.F.type_list_append mt_append mts_append (ce_v 14) (ca_cons (ce_tup (ca_cons (ce_str) (ca_cons (ce_call (n := 4) (ok_d_law_simple X) (hr.mono (by decide)) tk (by rfl) X.g_d_law_simple X.F_d_law_simple.kp (bd_d_law_simple X) (an_cons (an_cons (an_cons (an_cons an_nil)))) (ca_cons (ce_v 1) (ca_cons (ce_v 7) (ca_cons (ce_v 8) (ca_cons (ce_v 4) (ca_nil)))))) (ca_nil)))) (ca_nil))))))
    (css_one (cs_expr (ce_bm PySem.F.plainAttrs_list PySem.F.slot_list_append PySem.F.type_list_append mt_append mts_append (ce_v 10) (ca_cons (ce_ix (ix_Z hr.units) ops_ixZ (ce_ix (ix_Z hr.units) ops_ixZ (ce_v 14) (ce_un un_neg uns_neg (ce_int)) (fun _ _ => rfl)) (ce_int) (fun _ _ => rfl)) (ca_nil)))))) (css_nil))
    (css_cons (cs_set (j := 15) sc_law.nd rfl (Or.inl rfl) (ce_callTy call_tuple_of fns_tuple (by rfl) X.b_tuple (by decide +kernel) (ca_cons (ce_callB (cr_sortedB hr.units) fns_sorted (by rfl) X.b_sorted (by decide +kernel) (ca_cons (ce_v 7) (ca_nil))) (ca_nil))))
    (css_cons (cs_set (j := 16) sc_law.nd rfl (Or.inl rfl) (ce_tup (ca_cons (ce_v 4) (ca_cons (ce_v 5) (ca_cons (ce_v 15) (ca_cons (ce_callTy call_tuple_of fns_tuple (by rfl) X.b_tuple (by decide +kernel) (ca_cons (ce_v 14) (ca_nil))) (ca_nil)))))))
    (css_cons (cs_set (j := 18) sc_law.nd rfl (Or.inl rfl) (ce_callTy call_tuple_of fns_tuple (by rfl) X.b_tuple (by decide +kernel) (ca_cons (ce_lc (own := [("deed", 17)]) rfl sc_law.nd (ci_seq (ce_v 15)) (blkOk_by (N := ["script", "pool", "large", "many", "first", "last", "row", "names", "years", "aimed", "records", "kind", "left_out", "at", "told_of", "deeds", "book", "deed", "dating", "asked", "record", "way", "due", "empty", "dues"]) (sc := defScope s_law) (by decide +kernel)) (fun _ _ _ _ _ => cg_name (i := 17) sc_law.nd rfl (by first | exact Or.inl rfl | exact Or.inr rfl)) (fun _ _ _ _ _ => cts_nil) (fun _ _ _ _ _ => ce_ix (ix_Z hr.units) ops_ixZ (ce_v 8) (ce_v 17) (fun _ _ => rfl))) (ca_nil))))
    (css_cons (cs_set (j := 19) sc_law.nd rfl (Or.inl rfl) (ce_lst (ca_nil)))
    (css_cons (cs_for (passes_of rfl) rfl (ci_seq (ce_v 10)) (cg_name (i := 20) sc_law.nd rfl (by first | exact Or.inl rfl | exact Or.inr rfl)) (css_one (cs_for (passes_of rfl) rfl (ci_seq (ce_op op_addA ops_add (ce_call (n := 1) (ok_d_law_named X) (hr.mono (by decide)) tk (by rfl) X.g_d_law_named X.F_d_law_named.kp (bd_d_law_named X) (an_cons an_nil) (ca_cons (ce_v 20) (ca_nil))) (ce_lst (ca_cons (ce_ix (ix_Z hr.units) ops_ixZ (ce_v 7) (ce_call (n := 2) (ok_d_law_draw X) (hr.mono (by decide)) tk (by rfl) X.g_d_law_draw X.F_d_law_draw.kp (bd_d_law_draw X) (an_cons (an_cons an_nil)) (ca_cons (ce_v 1) (ca_cons (ce_v 3) (ca_nil)))) (fun _ _ => rfl)) (ca_nil))))) (cg_name (i := 17) sc_law.nd rfl (by first | exact Or.inl rfl | exact Or.inr rfl)) (css_cons (cs_expr (ce_bm PySem.F.plainAttrs_list PySem.F.slot_list_append PySem.F.type_list_append mt_append mts_append (ce_v 19) (ca_cons (ce_tup (ca_cons (ce_v 20) (ca_cons (ce_str) (ca_cons (ce_v 17) (ca_cons (ce_call (n := 4) (ok_d_law_bound X) (hr.mono (by decide)) tk (by rfl) X.g_d_law_bound X.F_d_law_bound.kp (bd_d_law_bound X) (an_cons (an_cons (an_cons (an_cons an_nil)))) (ca_cons (ce_v 20) (ca_cons (ce_str) (ca_cons (ce_v 17) (ca_cons (ce_v 8) (ca_nil)))))) (ca_nil)))))) (ca_nil))))
    (css_one (cs_expr (ce_bm PySem.F.plainAttrs_list PySem.F.slot_list_append PySem.F.type_list_append mt_append mts_append (ce_v 19) (ca_cons (ce_tup (ca_cons (ce_v 20) (ca_cons (ce_str) (ca_cons (ce_v 17) (ca_cons (ce_call (n := 4) (ok_d_law_bound X) (hr.mono (by decide)) tk (by rfl) X.g_d_law_bound X.F_d_law_bound.kp (bd_d_law_bound X) (an_cons (an_cons (an_cons (an_cons an_nil)))) (ca_cons (ce_v 20) (ca_cons (ce_str) (ca_cons (ce_v 17) (ca_cons (ce_v 8) (ca_nil)))))) (ca_nil)))))) (ca_nil)))))))))
    (css_cons (cs_for (passes_of rfl) rfl (ci_seq (ce_v 19)) (cg_tup (n := 4) rfl (cgs_cons (us := [20, 21, 17, 22]) (cg_name (i := 20) sc_law.nd rfl (by first | exact Or.inl rfl | exact Or.inr rfl)) (cgs_cons (us := [21, 17, 22]) (cg_name (i := 21) sc_law.nd rfl (by first | exact Or.inl rfl | exact Or.inr rfl)) (cgs_cons (us := [17, 22]) (cg_name (i := 17) sc_law.nd rfl (by first | exact Or.inl rfl | exact Or.inr rfl)) (cgs_cons (us := [22]) (cg_name (i := 22) sc_law.nd rfl (by first | exact Or.inl rfl | exact Or.inr rfl)) (cgs_nil (vs := []))))))) (css_one (cs_if (ct_not (ct_tru (ce_call (n := 2) (ok_d_law_same X) (hr.mono (by decide)) tk (by rfl) X.g_d_law_same X.F_d_law_same.kp (bd_d_law_same X) (an_cons (an_cons an_nil)) (ca_cons (ce_call (n := 5) (ok_bound_of X) (hr.mono (by decide)) tk (by rfl) X.g_bound_of X.F_bound_of.kp (bd_bound_of X) (an_cons (an_cons (an_cons (an_cons (an_cons an_nil))))) (ca_cons (ce_v 16) (ca_cons (ce_v 20) (ca_cons (ce_v 21) (ca_cons (ce_v 17) (ca_cons (ce_v 18) (ca_nil))))))) (ca_cons (ce_v 22) (ca_nil)))))) (css_one (cs_ret (ce_bl))) (css_nil))))
    (css_cons (cs_set (j := 23) sc_law.nd rfl (Or.inl rfl) (ce_tup (ca_cons (ce_v 4) (ca_cons (ce_v 5) (ca_cons (ce_v 15) (ca_cons (ce_tup (ca_nil)) (ca_nil)))))))
    (css_cons (cs_for (passes_of rfl) rfl (ci_seq (ce_step (ce_v 19) (co_some (ce_call (n := 2) (ok_d_law_draw X) (hr.mono (by decide)) tk (by rfl) X.g_d_law_draw X.F_d_law_draw.kp (bd_d_law_draw X) (an_cons (an_cons an_nil)) (ca_cons (ce_v 1) (ca_cons (ce_int) (ca_nil))))) (co_some (ce_int)) (co_some (ce_int)))) (cg_tup (n := 4) rfl (cgs_cons (us := [20, 21, 17, 22]) (cg_name (i := 20) sc_law.nd rfl (by first | exact Or.inl rfl | exact Or.inr rfl)) (cgs_cons (us := [21, 17, 22]) (cg_name (i := 21) sc_law.nd rfl (by first | exact Or.inl rfl | exact Or.inr rfl)) (cgs_cons (us := [17, 22]) (cg_name (i := 17) sc_law.nd rfl (by first | exact Or.inl rfl | exact Or.inr rfl)) (cgs_cons (us := [22]) (cg_name (i := 22) sc_law.nd rfl (by first | exact Or.inl rfl | exact Or.inr rfl)) (cgs_nil (vs := []))))))) (css_one (cs_if (ct_not (ct_tru (ce_call (n := 2) (ok_d_law_same X) (hr.mono (by decide)) tk (by rfl) X.g_d_law_same X.F_d_law_same.kp (bd_d_law_same X) (an_cons (an_cons an_nil)) (ca_cons (ce_callKw (n := 5) (ok_bound_of X) (hr.mono (by decide)) tk (by rfl) X.g_bound_of X.F_bound_of.kp (kb_bound_of_0 X) (an_cons (an_cons (an_cons (an_cons (an_cons an_nil))))) (fun us hl => match us, hl with | [_, _, _, _, _], _ => rfl) (ck_cons (ce_v 18) (ck_cons (ce_v 17) (ck_cons (ce_v 21) (ck_cons (ce_v 20) (ck_cons (ce_v 23) (ck_nil))))))) (ca_cons (ce_v 22) (ca_nil)))))) (css_one (cs_ret (ce_bl))) (css_nil))))
    (css_cons (cs_setLc (i := 24) (own := [("row", 6)]) rfl sc_law.nd rfl rfl (sw_true rfl rfl rfl (by decide +kernel)) (ci_seq (ce_v 19)) (blkOk_by (N := ["script", "pool", "large", "many", "first", "last", "row", "names", "years", "aimed", "records", "kind", "left_out", "at", "told_of", "deeds", "book", "deed", "dating", "asked", "record", "way", "due", "empty", "dues"]) (sc := defScope s_law) (by decide +kernel)) (fun _ _ _ _ _ => cg_name (i := 6) sc_law.nd rfl (by first | exact Or.inl rfl | exact Or.inr rfl)) (fun _ _ _ _ _ => cts_nil) (fun _ _ _ _ _ => ce_ix (ix_Z hr.units) ops_ixZ (ce_v 6) (ce_int) (fun _ _ => rfl)))
    (css_one (cs_ret (ce_and (ce_cmp opA_ge ops_ge (ce_callB call_len fns_len (by rfl) X.b_len (by decide +kernel) (ca_cons (ce_lc (own := [("due", 22)]) rfl sc_law.nd (ci_seq (ce_v 24)) (blkOk_by (N := ["script", "pool", "large", "many", "first", "last", "row", "names", "years", "aimed", "records", "kind", "left_out", "at", "told_of", "deeds", "book", "deed", "dating", "asked", "record", "way", "due", "empty", "dues"]) (sc := defScope s_law) (by decide +kernel)) (fun _ _ _ _ _ => cg_name (i := 22) sc_law.nd rfl (by first | exact Or.inl rfl | exact Or.inr rfl)) (fun _ _ _ _ _ => cts_one (ct_cmp opA_isnot ops_isnot (ce_v 22) (ce_non) (nomark _))) (fun _ _ _ _ _ => ce_v 22)) (ca_nil))) (ce_int) (nomark _)) (ce_one (ce_cmp (opA_in (un65 hr)) ops_in (ce_non) (ce_v 24) (by with_unfolding_all rfl))))))))))))))))))))))))))))))) :
      PSs _ _ (Ts _ _ _ b_law))
end Law
namespace Law
open PySem Mi
/-- the pool at p, its great cells at c -/
def Pool (c p : Nat) (s : Store) : Prop := ∃ (cs : List Int) (t : Int), s[p]? = some (.lst [.int t, .loc c]) ∧ s[c]? = some (.lst (cs.map D.int)) ∧ cs.length ≤ 100 ∧ c ≠ p
def Kp2 (c p : Nat) (s s' : Store) : Prop := s.length ≤ s'.length ∧ ∀ l, l < s.length → l ≠ p → l ≠ c → s'[l]? = s[l]?
theorem Kp2.refl (c p : Nat) (s : Store) : Kp2 c p s s := ⟨Nat.le_refl _, fun _ _ _ _ => rfl⟩
theorem Kp2.trans {c p : Nat} {s s1 s2 : Store} (a : Kp2 c p s s1) (b : Kp2 c p s1 s2) : Kp2 c p s s2 :=
  ⟨Nat.le_trans a.1 b.1, fun l h n m => (b.2 l (Nat.lt_of_lt_of_le h a.1) n m).trans (a.2 l h n m)⟩
theorem Kp2.app (c p : Nat) (s r : Store) : Kp2 c p s (s ++ r) := ⟨by simp, fun l h _ _ => List.getElem?_append_left h⟩
theorem Kp2.get {c p : Nat} {s s' : Store} (a : Kp2 c p s s') {l : Nat} {x : Cell} (h : s[l]? = some x) (n : l ≠ p) (m : l ≠ c) : s'[l]? = some x := by
  rw [a.2 l (lt_of_get h) n m]
  exact h
theorem Pool.app {c p : Nat} {s : Store} (h : Pool c p s) (r : Store) : Pool c p (s ++ r) := by
  obtain ⟨cs, t, h1, h2, q⟩ := h
  exact ⟨cs, t, by rw [List.getElem?_append_left (lt_of_get h1)]; exact h1, by rw [List.getElem?_append_left (lt_of_get h2)]; exact h2, q⟩
theorem Pool.set {c p l : Nat} {s : Store} (h : Pool c p s) (n : l ≠ p) (m : l ≠ c) (x : Cell) : Pool c p (s.set l x) := by
  obtain ⟨cs, t, h1, h2, q⟩ := h
  exact ⟨cs, t, by rw [List.getElem?_set_ne n]; exact h1, by rw [List.getElem?_set_ne m]; exact h2, q⟩
theorem Pool.lt {c p : Nat} {s : Store} (h : Pool c p s) : p < s.length ∧ c < s.length := let ⟨_, _, h1, h2, _⟩ := h; ⟨lt_of_get h1, lt_of_get h2⟩
theorem set_self {s : Store} {l : Nat} {x : Cell} (h : s[l]? = some x) : s.set l x = s := by
  refine List.ext_getElem? fun i => ?_
  by_cases c : l = i
  · subst c; rw [List.getElem?_set_self (lt_of_get h), h]
  · rw [List.getElem?_set_ne c]
theorem draw_spec {c p : Nat} {s : Store} (h : Pool c p s) {many : Int} (h0 : 0 < many) (h1 : many < 1073741824) :
    ∃ k s', m_d_law_draw [.loc p, .int many] s = .ok (.int k) s' ∧ 0 ≤ k ∧ k < many ∧ Pool c p s' ∧ Kp2 c p s s' := by
  obtain ⟨cs, t, hp, hc, hz, ne⟩ := h
  have w0 : dIxZ (.loc p) (.int 0) s = some (.int t, s) := by rw [dIxZ_locA, dIxA_loc hp]; simp
  have w1 : dIxZ (.loc p) (.int 1) s = some (.loc c, s) := by rw [dIxZ_locA, dIxA_loc hp]; simp
  cases hn : cs.reverse with
  | nil =>
    have e : cs = [] := by simpa using hn
    subst e
    obtain ⟨t1, ht1⟩ : ∃ t1, t1 = (t * 48271 + 12345) % 2147483647 := ⟨_, rfl⟩
    have w2 : pAny (.loc p) (.int 0) (.int t1) s = some (s.set p (.lst [.int t1, .loc c])) := by
      rw [pAny_loc hp]
      exact pList_loc hp 0 (by simp) _
    have hp1 : (s.set p (.lst [.int t1, .loc c]))[p]? = some (.lst [.int t1, .loc c]) := get_set hp
    have hc1 : (s.set p (.lst [.int t1, .loc c]))[c]? = some (.lst (([] : List Int).map D.int)) := by rw [List.getElem?_set_ne (Ne.symm ne)]; exact hc
    have w3 : dIxZ (.loc p) (.int 0) (s.set p (.lst [.int t1, .loc c])) = some (.int t1, s.set p (.lst [.int t1, .loc c])) := by rw [dIxZ_locA, dIxA_loc hp1]; simp
    have k1 : Kp2 c p s (s.set p (.lst [.int t1, .loc c])) := ⟨by simp, fun l _ n _ => List.getElem?_set_ne (Ne.symm n)⟩
    rw [ht1] at w2
    have hc' : dTru s (.loc c) = some false := by rw [dTru_loc hc]; rfl
    refine ⟨_, s.set p (.lst [.int t1, .loc c]), ?_, Int.emod_nonneg (((t1 / 64 + 1) * 69621 + t1) % 2147483629 / 5) (by omega), Int.emod_lt_of_pos _ h0, ⟨[], t1, hp1, hc1, by simp, ne⟩, k1⟩
    rw [← ht1] at w2
    simp [m_d_law_draw, b_d_law_draw, w0, w1, hc', ← ht1, w2, w3, h0]
  | cons y r =>
    have e : cs = r.reverse ++ [y] := by rw [← List.reverse_reverse cs, hn, List.reverse_cons]
    subst e
    obtain ⟨L, hL⟩ : ∃ L, L = r.reverse.map D.int := ⟨_, rfl⟩
    have hs' : s[c]? = some (.lst (L ++ [.int y])) := by rw [hc, hL]; simp
    have hl2 : L.length ≤ 100 := by
      rw [hL]
      simp at hz ⊢
      omega
    have hT : dTru s (.loc c) = some true := by rw [dTru_loc hs']; simp
    have w2 := dPop_loc hs'
    have g1 := get_set (c' := .lst L) hs'
    have w3 := dAppend_loc g1 (by omega)
    have p1 : (s.set c (.lst L))[p]? = some (.lst [.int t, .loc c]) := by rw [List.getElem?_set_ne ne]; exact hp
    have w4 : dIxZ (.loc p) (.int 1) (s.set c (.lst L)) = some (.loc c, s.set c (.lst L)) := by rw [dIxZ_locA, dIxA_loc p1]; simp
    by_cases hy : many ≤ y
    · refine ⟨y % many, (s.set c (.lst L)).set c (.lst (L ++ [.int (y / many)])), ?_, Int.emod_nonneg _ (by omega), Int.emod_lt_of_pos _ h0, ⟨r.reverse ++ [y / many], t, ?_, ?_, by rw [hL] at hl2; simp at hl2 hz ⊢; omega, ne⟩, ⟨by simp, fun l _ _ n => by rw [List.getElem?_set_ne (Ne.symm n), List.getElem?_set_ne (Ne.symm n)]⟩⟩
      · simp [m_d_law_draw, b_d_law_draw, w0, w1, hT, tyOk_list hs', w2, w3, w4, tyOk_list g1, hy, h0, h1]
      · rw [List.getElem?_set_ne ne]; exact p1
      · rw [get_set g1, hL]; simp
    · refine ⟨y % many, s.set c (.lst L), ?_, Int.emod_nonneg _ (by omega), Int.emod_lt_of_pos _ h0, ⟨r.reverse, t, p1, by rw [g1, hL], by rw [hL] at hl2; simp at hl2 hz ⊢; omega, ne⟩, ⟨by simp, fun l _ _ n => List.getElem?_set_ne (Ne.symm n)⟩⟩
      simp [m_d_law_draw, b_d_law_draw, w0, w1, hT, tyOk_list hs', w2, hy, h0, h1]
theorem pool_spec (ns : List Int) (hn : ns.length ≤ 63) : ∃ c p s, m_d_law_pool [.fl (ns.map D.int)] [] = .ok (.loc p) s ∧ Pool c p s := by
  obtain ⟨env', s', e, t, cs, o2, o3, rfl, rfl, hl⟩ := forL_atT (gd := always) (g := gN 2) (b := bl_d_law_pool_1) (rng ns.length)
    (fun i env s => ∃ (t : Int) (cs : List Int) (o2 o3 : Option D), env = [some (.fl (ns.map D.int)), some (.loc 1), o2, o3] ∧ s = [.lst (cs.map D.int), .lst [.int t, .loc 0]] ∧ cs.length ≤ i) (fun _ _ _ _ => trivial)
    (env := [some (.fl (ns.map D.int)), some (.loc 1), none, none]) (s := [.lst [], .lst [.int 5167, .loc 0]]) (fun i x env s hx ⟨t, cs, o2, o3, h1, h2, h3⟩ => by
      subst h1 h2
      obtain ⟨hi, rfl⟩ := rng_get hx
      have wx : dIxZ (.fl (ns.map D.int)) (.int (i : Int)) [.lst (cs.map D.int), .lst [.int t, .loc 0]] = some (.int ns[i], [.lst (cs.map D.int), .lst [.int t, .loc 0]]) := by
        have q := atI_ofNat (ns.map D.int) i (.int ns[i]) (by simp [hi])
        show (L2.atI (ns.map D.int) (i : Int)).map (fun d => (d, _)) = _
        rw [q]
        rfl
      obtain ⟨t1, ht1⟩ : ∃ t1, t1 = (t * 8117 + ns[i] * 29 + (i : Int) + 3) % 2147483647 := ⟨_, rfl⟩
      have w0 : dIxZ (.loc 1) (.int 0) [.lst (cs.map D.int), .lst [.int t, .loc 0]] = some (.int t, [.lst (cs.map D.int), .lst [.int t, .loc 0]]) := by rw [dIxZ_locA, dIxA_loc (xs := [.int t, .loc 0]) rfl]; simp
      have w2 : pAny (.loc 1) (.int 0) (.int t1) [.lst (cs.map D.int), .lst [.int t, .loc 0]] = some [.lst (cs.map D.int), .lst [.int t1, .loc 0]] := by
        rw [pAny_loc (xs := [.int t, .loc 0]) rfl]
        exact pList_loc (s := [.lst (cs.map D.int), .lst [.int t, .loc 0]]) (l := 1) (xs := [.int t, .loc 0]) rfl 0 (by simp) _
      have w1 : dIxZ (.loc 1) (.int 1) [.lst (cs.map D.int), .lst [.int t1, .loc 0]] = some (.loc 0, [.lst (cs.map D.int), .lst [.int t1, .loc 0]]) := by rw [dIxZ_locA, dIxA_loc (xs := [.int t1, .loc 0]) rfl]; simp
      have w3 := dAppend_loc (s := [.lst (cs.map D.int), .lst [.int t1, .loc 0]]) (l := 0) rfl (by simp; omega) (.int ns[i])
      have ty : tyOk "list" [.lst (cs.map D.int), .lst [.int t1, .loc 0]] (.loc 0) = true := tyOk_list (s := [.lst (cs.map D.int), .lst [.int t1, .loc 0]]) rfl
      generalize ns[i] = cell at *
      by_cases hb : (1000000000000000000 : Int) ≤ cell
      · simp [bl_d_law_pool_1, wx, w0, ← ht1, w2, w1, w3, ty, hb]
        exact ⟨t1, cs ++ [cell], by simp, by simp; omega⟩
      · simp [bl_d_law_pool_1, wx, w0, ← ht1, w2, hb]
        exact ⟨t1, cs, ⟨rfl, rfl⟩, by omega⟩)
    ⟨5167, [], none, none, rfl, rfl, by simp⟩
  rw [rng_len] at hl
  have em : min (ns.length : Int) 63 = ns.length := by omega
  have er := rangeOf_int [Cell.lst [], .lst [.int 5167, .loc 0]] ns.length (by omega) (by omega)
  rw [Int.toNat_natCast] at er
  simp [m_d_law_pool, b_d_law_pool, em, er, e]
  exact ⟨0, _, _, ⟨rfl, rfl⟩, cs, t, rfl, rfl, by omega, by omega⟩
end Law
namespace Law
open PySem Mi
theorem zx0 (a : D) (r : List D) (s : Store) : dIxZ (.tup (a :: r)) (.int 0) s = some (a, s) := by rw [dIxZ_tup]; simp [dIx_tup]
theorem zx1 (a b : D) (r : List D) (s : Store) : dIxZ (.tup (a :: b :: r)) (.int 1) s = some (b, s) := by rw [dIxZ_tup]; simp [dIx_tup]
theorem zx2 (a b c : D) (r : List D) (s : Store) : dIxZ (.tup (a :: b :: c :: r)) (.int 2) s = some (c, s) := by rw [dIxZ_tup]; simp [dIx_tup]
theorem zx3 (a b c d : D) (r : List D) (s : Store) : dIxZ (.tup (a :: b :: c :: d :: r)) (.int 3) s = some (d, s) := by rw [dIxZ_tup]; simp [dIx_tup]
theorem n_yg : ¬ (("years" : Str) = "gap") := by decide +kernel
theorem n_go : ¬ (("gap" : Str) = "over") := by decide +kernel
theorem n_gu : ¬ (("gap" : Str) = "under") := by decide +kernel
theorem n_yu : ¬ (("years" : Str) = "under") := by decide +kernel
theorem n_yo : ¬ (("years" : Str) = "over") := by decide +kernel
theorem n_ug : ¬ (("under" : Str) = "gap") := by decide +kernel
theorem n_uo : ¬ (("under" : Str) = "over") := by decide +kernel
theorem n_uy : ¬ (("under" : Str) = "years") := by decide +kernel
theorem n_u1 : ¬ (("under" : Str) = "one") := by decide +kernel
theorem n_og : ¬ (("over" : Str) = "gap") := by decide +kernel
theorem n_ou : ¬ (("over" : Str) = "under") := by decide +kernel
theorem n_oy : ¬ (("over" : Str) = "years") := by decide +kernel
theorem n_o1 : ¬ (("over" : Str) = "one") := by decide +kernel
theorem n_1g : ¬ (("one" : Str) = "gap") := by decide +kernel
theorem n_1u : ¬ (("one" : Str) = "under") := by decide +kernel
theorem n_1o : ¬ (("one" : Str) = "over") := by decide +kernel
theorem n_1y : ¬ (("one" : Str) = "years") := by decide +kernel
theorem n_pa : ¬ (("post" : Str) = "ante") := by decide +kernel
theorem n_ap : ¬ (("ante" : Str) = "post") := by decide +kernel
/-! ### records -/
inductive Sim where
  | gap (a b : Str) (w : Int) | yrs (d : Str) (ds : List D)
inductive Rec where
  | sim (x : Sim) | lot (u : Bool) (d : Str) (k : Int) (ps : List (Str × Int)) | one (sides : List (List Sim))
def prt (x : Str × Int) : D := .tup [.str x.1, .int x.2]
def simD : Sim → D
  | .gap a b w => .tup [.str "gap", .str a, .str b, .int w]
  | .yrs d ds => .tup [.str "years", .str d, .tup ds]
def sideD (l : List Sim) : D := .tup (l.map simD)
def lotS (u : Bool) : Str := if u then "under" else "over"
def recD : Rec → D
  | .sim x => simD x
  | .lot u d k ps => .tup [.str (lotS u), .str d, .int k, .tup (ps.map prt)]
  | .one sides => .tup [.str "one", .tup (sides.map sideD)]
def Sim.In (nm : List Str) : Sim → Prop
  | .gap a b _ => a ∈ nm ∧ b ∈ nm
  | .yrs d _ => d ∈ nm
def Rec.In (nm : List Str) : Rec → Prop
  | .sim x => x.In nm
  | .lot _ d k ps => d ∈ nm ∧ (∀ x ∈ ps, x.1 ∈ nm) ∧ 1 ≤ k ∧ k ≤ ps.length ∧ ps.length ≤ 100
  | .one sides => sides ≠ [] ∧ ∀ l ∈ sides, l ≠ [] ∧ ∀ x ∈ l, x.In nm
def wayS (an : Bool) : Str := if an then "ante" else "post"
/-- by which parts it bounds which deed -/
def bp : Rec → Bool → Option (Str × Int × List (Str × Int))
  | .sim (.gap a b w), true => some (a, 1, [(b, w)])
  | .sim (.gap a b w), false => some (b, 1, [(a, w)])
  | .lot true d k ps, true => some (d, k, ps)
  | .lot false d k ps, false => some (d, k, ps)
  | _, _ => none
def bpD : Option (Str × Int × List (Str × Int)) → D
  | none => .non
  | some (d, k, ps) => .tup [.str d, .int k, .tup (ps.map prt)]
theorem bparts_spec (r : Rec) (an : Bool) (s : Store) : m_bounding_parts [recD r, .str (wayS an)] s = .ok (bpD (bp r an)) s := by
  cases r with
  | sim x => cases x <;> cases an <;> simp [m_bounding_parts, b_bounding_parts, recD, simD, wayS, bp, bpD, prt, zx0, zx1, zx2, zx3, n_yg, n_yu, n_yo, n_pa, n_ap]
  | lot u d k ps =>
    generalize hq : (ps.map prt) = q
    cases u <;> cases an <;> simp [m_bounding_parts, b_bounding_parts, recD, lotS, wayS, bp, bpD, zx0, zx1, zx2, zx3, n_ug, n_uo, n_og, n_ou, n_pa, n_ap, hq]
  | one sides =>
    generalize hq : (sides.map sideD) = q
    cases an <;> simp [m_bounding_parts, b_bounding_parts, recD, wayS, bp, bpD, zx0, zx1, n_1g, n_1u, n_1o, n_pa, n_ap, hq]
theorem bp_in {nm : List Str} {r : Rec} {an : Bool} (h : r.In nm) {d : Str} {k : Int} {ps : List (Str × Int)} (e : bp r an = some (d, k, ps)) : d ∈ nm ∧ (∀ x ∈ ps, x.1 ∈ nm) ∧ 1 ≤ k ∧ k ≤ ps.length ∧ ps.length ≤ 100 := by
  cases r with
  | sim x =>
    cases x with
    | gap a b w =>
      cases an <;> simp [bp] at e <;> obtain ⟨rfl, rfl, rfl⟩ := e
      · exact ⟨h.2, by simp [h.1], by omega, by simp, by simp⟩
      · exact ⟨h.1, by simp [h.2], by omega, by simp, by simp⟩
    | yrs d ds => cases an <;> simp [bp] at e
  | lot u d k ps => cases u <;> cases an <;> simp [bp] at e <;> obtain ⟨rfl, rfl, rfl⟩ := e <;> exact h
  | one sides => cases an <;> simp [bp] at e
/-! ### the law's own parts -/
def lp (r : Rec) (an : Bool) (deed : Str) : Int × List (Str × Int) := match bp r an with
  | some (d, k, ps) => if d = deed then (k, ps) else (1, [])
  | none => (1, [])
theorem lparts_spec (r : Rec) (an : Bool) (deed : Str) (s : Store) : ∃ s', m_d_law_parts [recD r, .str (wayS an), .str deed] s = .ok (.tup [.int (lp r an deed).1, .loc s.length]) s' ∧ s' = s ++ [.lst ((lp r an deed).2.map prt)] := by
  refine ⟨_, ?_, rfl⟩
  cases r with
  | sim x =>
    cases x with
    | gap a b w => cases an <;> by_cases c1 : a = deed <;> by_cases c2 : b = deed <;> simp [m_d_law_parts, b_d_law_parts, recD, simD, wayS, lp, bp, prt, zx0, zx1, zx2, zx3, n_go, n_gu, n_pa, n_ap, c1, c2]
    | yrs d ds => cases an <;> simp [m_d_law_parts, b_d_law_parts, recD, simD, wayS, lp, bp, prt, zx0, zx1, zx2, zx3, n_yg, n_yu, n_yo, n_pa, n_ap]
  | lot u d k ps =>
    have wl : ∀ s, dListA [.tup (ps.map prt)] s = some (.loc s.length, s ++ [.lst (ps.map prt)]) := fun s => rfl
    generalize hq : (ps.map prt) = q at wl
    cases u <;> cases an <;> by_cases c1 : d = deed <;> simp [m_d_law_parts, b_d_law_parts, recD, lotS, wayS, lp, bp, prt, zx0, zx1, zx2, zx3, n_ug, n_uo, n_og, n_ou, n_pa, n_ap, hq, wl, c1]
  | one sides =>
    generalize hq : (sides.map sideD) = q
    cases an <;> simp [m_d_law_parts, b_d_law_parts, recD, wayS, lp, bp, zx0, zx1, n_1g, n_1u, n_1o, n_pa, n_ap, hq]
end Law
namespace Law
open PySem Mi
/-! ### sorted, ints -/
theorem sort_ints (A : List Int) : sortOk (A.map D.int) ∧ ∃ M : List Int, sortD (A.map D.int) = M.map D.int ∧ M.Perm A ∧ M.Pairwise (fun a b => a ≤ b) := by
  have e : (fun x y : Int => PySem.W.dataLe false pyD (D.int x) (D.int y)) = fun x y => decide (x ≤ y) := PySem.W.dataLe_int (fun x : Int => x)
  refine ⟨⟨fun d hd => ?_, ?_, ?_⟩, A.mergeSort fun x y => decide (x ≤ y), ?_, List.mergeSort_perm _ _, ?_⟩
  · obtain ⟨x, _, rfl⟩ := List.mem_map.mp hd
    exact ⟨rfl, by show PyData.depth (.int x) ≤ 60; simp [PyData.depth]⟩
  · rw [List.map_map]
    exact PySem.W.AllAlike.of (enc := fun x => pyD (D.int x)) fun x y => by show PySem.W.alike (.int x) (.int y) = true; simp [PySem.W.alike]
  · rw [List.map_map]
    exact PySem.W.Sortable.others (enc := fun x => pyD (D.int x)) fun x => ⟨by show PyData.int x ≠ .none; simp, fun xs => by show PyData.int x ≠ .tuple xs; simp⟩
  · unfold sortD
    rw [← e, List.map_mergeSort (r := fun x y : Int => PySem.W.dataLe false pyD (D.int x) (D.int y)) (s := PySem.W.dataLe false pyD) fun _ _ _ _ => rfl]
  · refine (List.pairwise_mergeSort (le := fun x y : Int => decide (x ≤ y)) (fun a b c h1 h2 => by simp at h1 h2 ⊢; omega) (fun a b => by simp; omega) A).imp fun {a b} h => ?_
    simpa using h
/-! ### the places of the deeds -/
def plF (acc : List (L2.Key × D)) (p : Nat × Str) : List (L2.Key × D) := putD acc (.inr p.2) (.int (p.1 : Nat))
theorem dc_places {b : D} {s : Store} : ∀ (L : List (Nat × Str)) (acc : List (L2.Key × D)), acc.length + L.length ≤ 1000 →
    dcL always (gT 2 (gsC (gN 1) (gsC (gN 2) gsN))) tT ke_deed_places_2 le_deed_places_1 [some b, none, none] (L.map fun p => D.tup [.int (p.1 : Nat), .str p.2]) acc s = .ok (L.foldl plF acc) s
  | [], acc, h => by simp [dcL, always]
  | p :: L, acc, h => by
    have hl := putD_len acc (.inr p.2) (.int (p.1 : Nat))
    simp only [List.length_cons] at h
    have ih := dc_places (b := b) (s := s) L (plF acc p) (by unfold plF; omega)
    have hz : acc.length < sizeLine := lt_line (by omega)
    have ek : ke_deed_places_2 [some b, some (.int (p.1 : Nat)), some (.str p.2)] s = .ok (.str p.2) s := by simp [ke_deed_places_2]
    have ev : le_deed_places_1 [some b, some (.int (p.1 : Nat)), some (.str p.2)] s = .ok (.int (p.1 : Nat)) s := by simp [le_deed_places_1]
    rw [List.map_cons, List.foldl_cons]
    unfold dcL
    have eg : gT 2 (gsC (gN 1) (gsC (gN 2) gsN)) (D.tup [.int (p.1 : Nat), .str p.2]) [some b, none, none] = some [some b, some (.int (p.1 : Nat)), some (.str p.2)] := by simp
    simp only [eg, tT_eq, ek, ev]
    simp only [always, if_true, keyOf, hz]
    exact ih
theorem enm_str (deeds : List Str) : enm (deeds.map D.str) = ((List.range deeds.length).zip deeds).map fun p => D.tup [.int (p.1 : Nat), .str p.2] := by
  refine List.ext_getElem? fun i => ?_
  unfold enm
  rw [List.getElem?_mapIdx, List.getElem?_map, List.getElem?_map]
  by_cases h : i < deeds.length
  · have : ((List.range deeds.length).zip deeds)[i]? = some (i, deeds[i]) := by
      rw [List.getElem?_zip_eq_some]
      exact ⟨by simp [h], by simp [h]⟩
    simp [h, this]
  · have h' : deeds.length ≤ i := by omega
    have : ((List.range deeds.length).zip deeds)[i]? = none := by simp [h']
    simp [h', this]
theorem fold_get : ∀ (L : List (Nat × Str)) (acc : List (L2.Key × D)) (n : Str), (n ∈ L.map Prod.snd → ∃ j, getD (L.foldl plF acc) (.inr n) = some (.int (j : Nat)) ∧ (j, n) ∈ L) ∧ (n ∉ L.map Prod.snd → getD (L.foldl plF acc) (.inr n) = getD acc (.inr n))
  | [], acc, n => ⟨by simp, fun _ => rfl⟩
  | p :: L, acc, n => by
    obtain ⟨h1, h2⟩ := fold_get L (plF acc p) n
    rw [List.foldl_cons, List.map_cons]
    refine ⟨fun h => ?_, fun h => ?_⟩
    · by_cases c : n ∈ L.map Prod.snd
      · obtain ⟨j, e, hj⟩ := h1 c
        exact ⟨j, e, List.mem_cons_of_mem _ hj⟩
      · have e : n = p.2 := by
          rcases List.mem_cons.mp h with e | e
          · exact e
          · exact absurd e c
        refine ⟨p.1, ?_, by rw [e]; exact List.mem_cons_self⟩
        rw [h2 c, e]
        exact putD_get _ _ _
    · have c : n ∉ L.map Prod.snd := fun z => h (List.mem_cons_of_mem _ z)
      rw [h2 c]
      exact putD_other (fun e => h (by rw [Sum.inr.inj e]; exact List.mem_cons_self)) _ _
def bookD (first last : Int) (deeds : List Str) (X : D) : D := .tup [.int first, .int last, .tup (deeds.map D.str), X]
theorem places_spec (first last : Int) (deeds : List Str) (X : D) (hl : deeds.length ≤ 1000) (s : Store) : ∃ P : List (L2.Key × D), m_deed_places [bookD first last deeds X] s = .ok (.loc s.length) (s ++ [.dic P]) ∧ ∀ n ∈ deeds, ∃ j : Nat, getD P (.inr n) = some (.int (j : Nat)) ∧ deeds[j]? = some n := by
  obtain ⟨L, hL⟩ : ∃ L, L = (List.range deeds.length).zip deeds := ⟨_, rfl⟩
  have w := dc_places (b := bookD first last deeds X) (s := s) L [] (by rw [hL]; simp; omega)
  have e : enm (deeds.map D.str) = L.map fun p => D.tup [.int (p.1 : Nat), .str p.2] := by rw [hL]; exact enm_str deeds
  have i2 : dIxZ (bookD first last deeds X) (.int 2) s = some (.tup (deeds.map D.str), s) := zx2 _ _ _ _ _
  refine ⟨L.foldl plF [], ?_, fun n hn => ?_⟩
  · generalize bookD first last deeds X = B at *
    generalize deeds.map D.str = dm at *
    simp [m_deed_places, b_deed_places, i2, eDc, e, w]
  · obtain ⟨j, e1, hj⟩ := (fold_get L [] n).1 (by
      rw [hL]
      have : ((List.range deeds.length).zip deeds).map Prod.snd = deeds := by
        rw [List.map_snd_zip]; simp
      rw [this]; exact hn)
    refine ⟨j, e1, ?_⟩
    rw [hL] at hj
    obtain ⟨i, hi⟩ := List.mem_iff_getElem?.mp hj
    rw [List.getElem?_zip_eq_some] at hi
    have : i = j := by
      have := hi.1
      have lt := (List.getElem?_eq_some_iff.mp this).1
      simp at lt
      simp [lt] at this
      exact this
    rw [← this]
    exact hi.2
end Law
namespace Law
open PySem Mi
noncomputable def srt (A : List Int) : List Int := A.mergeSort fun x y => decide (x ≤ y)
theorem srt_ok (A : List Int) : sortOk (A.map D.int) ∧ sortD (A.map D.int) = (srt A).map D.int := by
  refine ⟨(sort_ints A).1, ?_⟩
  have e : (fun x y : Int => PySem.W.dataLe false pyD (D.int x) (D.int y)) = fun x y => decide (x ≤ y) := PySem.W.dataLe_int (fun x : Int => x)
  unfold sortD srt
  rw [← e, List.map_mergeSort (r := fun x y : Int => PySem.W.dataLe false pyD (D.int x) (D.int y)) (s := PySem.W.dataLe false pyD) fun _ _ _ _ => rfl]
theorem srt_perm (A : List Int) : (srt A).Perm A := List.mergeSort_perm _ _
theorem srt_len (A : List Int) : (srt A).length = A.length := (srt_perm A).length_eq
theorem srt_asc (A : List Int) : (srt A).Pairwise (fun a b => a ≤ b) := by
  refine (List.pairwise_mergeSort (le := fun x y : Int => decide (x ≤ y)) (fun a b c h1 h2 => by simp at h1 h2 ⊢; omega) (fun a b => by simp; omega) A).imp fun {a b} h => ?_
  simpa using h
def val (Y : Str → Int) (an : Bool) (x : Str × Int) : Int := if an then Y x.1 - x.2 else Y x.1 + x.2
def resD : Option Int → D
  | none => .non
  | some i => .int i
noncomputable def kth (Y : Str → Int) (an : Bool) (k : Nat) (ps : List (Str × Int)) : Option Int := if an then (srt (ps.map (val Y an)))[ps.length - k]? else (srt (ps.map (val Y an)))[k - 1]?
noncomputable def bnd (Y : Str → Int) (r : Rec) (an : Bool) (deed : Str) : Option Int := match bp r an with
  | none => none
  | some (d, k, ps) => if d = deed then kth Y an k.toNat ps else none
def datD (Y : Str → Int) (deeds : List Str) : D := .tup (deeds.map fun d => .int (Y d))
theorem dat_ix {Y : Str → Int} {deeds : List Str} {j : Nat} {n : Str} (h : deeds[j]? = some n) (s : Store) : dIxZ (datD Y deeds) (.int (j : Nat)) s = some (.int (Y n), s) := by
  unfold datD
  rw [dIxZ_tup, dIx_tup, atI_ofNat _ _ (.int (Y n)) (by simp [h])]
  rfl
theorem bound_spec (Y : Str → Int) (first last : Int) {deeds : List Str} (X : D) (hl : deeds.length ≤ 1000) {r : Rec} (hr : r.In deeds) (an : Bool) (deed : Str) (s : Store) :
    ∃ s', m_bound_of [bookD first last deeds X, recD r, .str (wayS an), .str deed, datD Y deeds] s = .ok (resD (bnd Y r an deed)) s' ∧ Ext s s' := by
  have wb := bparts_spec r an s
  obtain ⟨P, ep, hP⟩ := places_spec first last deeds X hl s
  have hb := fun {d k ps} (e : bp r an = some (d, k, ps)) => bp_in hr e
  generalize recD r = R at *
  generalize bookD first last deeds X = B at *
  cases e : bp r an with
  | none =>
    rw [e] at wb
    refine ⟨s, ?_, Ext.refl s⟩
    generalize datD Y deeds = DD at *
    generalize wayS an = W at *
    simp [m_bound_of, b_bound_of, wb, bnd, e, bpD, resD]
  | some q =>
    obtain ⟨d, k, ps⟩ := q
    rw [e] at wb
    obtain ⟨_, hps, k1, k2, hpl⟩ := hb e
    obtain ⟨kn, rfl⟩ := Int.eq_ofNat_of_zero_le (by omega : 0 ≤ k)
    by_cases c : d = deed
    · subst c
      have ix := fun {s : Store} {j : Nat} {n : Str} (h : deeds[j]? = some n) => dat_ix (Y := Y) h s
      obtain ⟨A, hA⟩ : ∃ A, A = ps.map (val Y an) := ⟨_, rfl⟩
      have lA : A.length = ps.length := by rw [hA]; simp
      have gP : (s ++ [Cell.dic P])[s.length]? = some (.dic P) := get_new _ _
      have look : ∀ x ∈ ps, ∃ j : Nat, dIxZ (.loc s.length) (.str x.1) (s ++ [.dic P]) = some (.int (j : Nat), s ++ [.dic P]) ∧ deeds[j]? = some x.1 := fun x hx => by
        obtain ⟨j, h1, h2⟩ := hP x.1 (hps x hx)
        exact ⟨j, by rw [dIxZ_locA]; exact dIxA_dic gP (k := .inr x.1) rfl h1, h2⟩
      obtain ⟨s1, hs1⟩ : ∃ s1, s1 = s ++ [Cell.dic P] := ⟨_, rfl⟩
      rw [← hs1] at gP look ep
      have x1 : Ext s s1 := by rw [hs1]; exact Ext.mk _ _
      have g2 : (s1 ++ [Cell.lst (A.map D.int)])[s1.length]? = some (.lst (A.map D.int)) := get_new _ _
      obtain ⟨q1, q2⟩ := srt_ok A
      have ws : dSorted [.loc s1.length] (s1 ++ [.lst (A.map D.int)]) = some (.loc (s1.length + 1), s1 ++ [.lst (A.map D.int)] ++ [.lst ((srt A).map D.int)]) := by
        have : seqOf (s1 ++ [Cell.lst (A.map D.int)]) (.loc s1.length) = some (A.map D.int) := by simp [seqOf, lstOf]
        simp only [dSorted, this, Option.bind_some, q1, if_true, q2, List.length_append, List.length_singleton]
      obtain ⟨s2, hs2⟩ : ∃ s2, s2 = s1 ++ [Cell.lst (A.map D.int)] := ⟨_, rfl⟩
      rw [← hs2] at ws g2
      have x2 : Ext s1 s2 := by rw [hs2]; exact Ext.mk _ _
      have l2 : s2.length = s1.length + 1 := by rw [hs2]; simp
      rw [← l2] at ws
      have g3 : (s2 ++ [Cell.lst ((srt A).map D.int)])[s2.length]? = some (.lst ((srt A).map D.int)) := get_new _ _
      have lS : (srt A).length = ps.length := by rw [srt_len, lA]
      have wl := dLen_loc g3
      rw [List.length_map, lS] at wl
      have hz : ps.length ≤ 1000000 := by omega
      refine ⟨s2 ++ [.lst ((srt A).map D.int)], ?_, (x1.trans x2).trans (Ext.mk _ _)⟩
      cases an with
      | true =>
        have e2 := lcL_map (gd := always) (g := gT 2 (gsC (gN 8) (gsC (gN 9) gsN))) (t := tT) (e := le_bound_of_2) (env := [some B, some R, some (.str "ante"), some (.str d), some (datD Y deeds), some (.tup [.str d, .int (kn : Nat), .tup (ps.map prt)]), some (.loc s.length), none, none, none]) (s := s1) trivial prt (fun x => D.int (val Y true x)) ps (fun x hx => by
          obtain ⟨j, w1, w2⟩ := look x hx
          have w3 := ix (s := s1) w2
          generalize datD Y deeds = DD at *
          generalize ps.map prt = pp at *
          simp [le_bound_of_2, pick, prt, w1, w3, val]) hz
        have eA : (ps.map fun x => D.int (val Y true x)) = A.map D.int := by rw [hA, List.map_map]; rfl
        rw [eA] at e2
        obtain ⟨a, _, ha, wx⟩ := ixL_map (f := D.int) g3 (i := (ps.length : Int) - kn) (by omega) (by omega)
        have wx' : dIxZ (.loc s2.length) (.int ((ps.length : Int) - kn)) (s2 ++ [.lst ((srt A).map D.int)]) = some (.int a, s2 ++ [.lst ((srt A).map D.int)]) := by rw [dIxZ_loc g3]; exact wx
        have hk : bnd Y r true d = some a := by
          have : ((ps.length : Int) - kn).toNat = ps.length - kn := by omega
          rw [this] at ha
          simp only [bnd, e, if_true, kth, ← hA, Int.toNat_natCast]
          exact ha
        rw [hk]
        generalize datD Y deeds = DD at *
        generalize (srt A).map D.int = sA at *
        rw [hs2] at ws wl wx'
        generalize A.map D.int = mA at *
        simp only [bpD] at wb
        generalize ps.map prt = pp at *
        simp only [wayS, if_true] at wb ⊢
        rw [hs2]
        simp only [List.append_assoc, List.cons_append, List.nil_append, List.length_append, List.length_singleton] at ws wl wx'
        simp [m_bound_of, b_bound_of, wb, ep, e2, zx0, zx1, zx2, resD, ws, wl, wx']
      | false =>
        have e2 := lcL_map (gd := always) (g := gT 2 (gsC (gN 8) (gsC (gN 9) gsN))) (t := tT) (e := le_bound_of_1) (env := [some B, some R, some (.str "post"), some (.str d), some (datD Y deeds), some (.tup [.str d, .int (kn : Nat), .tup (ps.map prt)]), some (.loc s.length), none, none, none]) (s := s1) trivial prt (fun x => D.int (val Y false x)) ps (fun x hx => by
          obtain ⟨j, w1, w2⟩ := look x hx
          have w3 := ix (s := s1) w2
          generalize datD Y deeds = DD at *
          generalize ps.map prt = pp at *
          simp [le_bound_of_1, pick, prt, w1, w3, val]) hz
        have eA : (ps.map fun x => D.int (val Y false x)) = A.map D.int := by rw [hA, List.map_map]; rfl
        rw [eA] at e2
        obtain ⟨a, _, ha, wx⟩ := ixL_map (f := D.int) g3 (i := (kn : Int) - 1) (by omega) (by omega)
        have wx' : dIxZ (.loc s2.length) (.int ((kn : Int) - 1)) (s2 ++ [.lst ((srt A).map D.int)]) = some (.int a, s2 ++ [.lst ((srt A).map D.int)]) := by rw [dIxZ_loc g3]; exact wx
        have hk : bnd Y r false d = some a := by
          have : ((kn : Int) - 1).toNat = kn - 1 := by omega
          rw [this] at ha
          simp only [bnd, e, if_true, kth, ← hA, Int.toNat_natCast]
          exact ha
        rw [hk]
        generalize datD Y deeds = DD at *
        generalize (srt A).map D.int = sA at *
        rw [hs2] at ws wl wx'
        generalize A.map D.int = mA at *
        simp only [bpD] at wb
        generalize ps.map prt = pp at *
        simp only [wayS, Bool.false_eq_true, if_false] at wb ⊢
        rw [hs2]
        simp only [List.append_assoc, List.cons_append, List.nil_append, List.length_append, List.length_singleton] at ws wl wx'
        simp [m_bound_of, b_bound_of, wb, ep, e2, zx0, zx1, zx2, resD, ws, wl, wx', n_pa]
    · refine ⟨s, ?_, Ext.refl s⟩
      simp only [bpD] at wb
      generalize datD Y deeds = DD at *
      generalize wayS an = W at *
      generalize ps.map prt = pp at *
      simp [m_bound_of, b_bound_of, wb, bnd, e, resD, zx0, c]
end Law
namespace Law
open PySem Mi
/-! ### the greatest that enough reach -/
def cnt (f : Int → Int) (A : List Int) (v : Int) : Nat := (A.filter fun o => decide (f v ≤ f o)).length
def bstep (f : Int → Int) (A : List Int) (k : Nat) (b : Option Int) (v : Int) : Option Int := match b with
  | none => if k ≤ cnt f A v then some v else none
  | some x => if k ≤ cnt f A v ∧ f x < f v then some v else some x
def Best (f : Int → Int) (A : List Int) (k : Nat) (L : List Int) (b : Option Int) : Prop := match b with
  | none => ∀ w ∈ L, ¬ k ≤ cnt f A w
  | some v => v ∈ L ∧ k ≤ cnt f A v ∧ ∀ w ∈ L, k ≤ cnt f A w → f w ≤ f v
theorem best_fold (f : Int → Int) (A : List Int) (k : Nat) : ∀ (R L : List Int) (b : Option Int), Best f A k L b → Best f A k (L ++ R) (R.foldl (bstep f A k) b)
  | [], L, b, h => by simpa using h
  | v :: R, L, b, h => by
    have h2 : Best f A k (L ++ [v]) (bstep f A k b v) := by
      unfold bstep
      cases b with
      | none =>
        by_cases c : k ≤ cnt f A v
        · simp only [if_pos c]
          refine ⟨by simp, c, fun w hw hc => ?_⟩
          rcases List.mem_append.mp hw with hw | hw
          · exact absurd hc (h w hw)
          · rw [List.mem_singleton.mp hw]; exact Int.le_refl _
        · simp only [if_neg c]
          intro w hw
          rcases List.mem_append.mp hw with hw | hw
          · exact h w hw
          · rw [List.mem_singleton.mp hw]; exact c
      | some x =>
        obtain ⟨h1, h2, h3⟩ := h
        by_cases c : k ≤ cnt f A v ∧ f x < f v
        · simp only [if_pos c]
          refine ⟨by simp, c.1, fun w hw hc => ?_⟩
          rcases List.mem_append.mp hw with hw | hw
          · have := h3 w hw hc
            omega
          · rw [List.mem_singleton.mp hw]; exact Int.le_refl _
        · simp only [if_neg c]
          refine ⟨by simp [h1], h2, fun w hw hc => ?_⟩
          rcases List.mem_append.mp hw with hw | hw
          · exact h3 w hw hc
          · rw [List.mem_singleton.mp hw] at hc ⊢
            have : ¬ f x < f v := fun z => c ⟨hc, z⟩
            omega
    have ih := best_fold f A k R (L ++ [v]) _ h2
    rw [List.append_assoc] at ih
    exact ih
theorem best_eq {f : Int → Int} (inj : ∀ x y, f x = f y → x = y) {A : List Int} {k : Nat} {b : Option Int} {a : Int} (h : Best f A k A b) (h2 : Best f A k A (some a)) : b = some a := by
  obtain ⟨a1, a2, a3⟩ := h2
  cases b with
  | none => exact absurd a2 (h a a1)
  | some v =>
    obtain ⟨b1, b2, b3⟩ := h
    have := a3 v b1 b2
    have := b3 a a1 a2
    rw [inj v a (by omega)]
theorem kth_best {f : Int → Int} {A M : List Int} (pm : M.Perm A) (as : M.Pairwise fun x y => f y ≤ f x) {k : Nat} (k1 : 1 ≤ k) {a : Int} (ha : M[k - 1]? = some a) : Best f A k A (some a) := by
  have hlt : k - 1 < M.length := (List.getElem?_eq_some_iff.mp ha).1
  have ce : ∀ v, cnt f A v = cnt f M v := fun v => ((pm.filter _).length_eq).symm
  have sp : M = M.take (k - 1) ++ a :: M.drop k := by
    have e := List.drop_eq_getElem_cons hlt
    have e2 : M[k - 1] = a := by
      have := List.getElem?_eq_getElem hlt
      rw [this] at ha
      exact Option.some.inj ha
    rw [e2, show k - 1 + 1 = k by omega] at e
    rw [← e, List.take_append_drop]
  have q := as
  rw [sp, List.pairwise_append, List.pairwise_cons] at q
  obtain ⟨_, ⟨q2, _⟩, q3⟩ := q
  have lt : (M.take (k - 1)).length = k - 1 := by simp; omega
  refine ⟨pm.mem_iff.mp (List.mem_of_getElem? ha), ?_, fun w _ hc => ?_⟩
  · rw [ce]
    unfold cnt
    rw [sp, List.filter_append, List.filter_cons, if_pos (by simp)]
    have : (M.take (k - 1)).filter (fun o => decide (f a ≤ f o)) = M.take (k - 1) := List.filter_eq_self.mpr fun o ho => by
      have := q3 o ho a (by simp)
      simpa using this
    rw [this, List.length_append, lt, List.length_cons]
    omega
  · rw [ce] at hc
    refine Int.not_lt.mp fun z => ?_
    have : cnt f M w ≤ k - 1 := by
      unfold cnt
      rw [sp, List.filter_append]
      have : (a :: M.drop k).filter (fun o => decide (f w ≤ f o)) = [] := List.filter_eq_nil_iff.mpr fun o ho => by
        rcases List.mem_cons.mp ho with rfl | ho
        · simp; omega
        · have := q2 o ho
          simp
          omega
      rw [this, List.append_nil]
      exact Nat.le_trans (List.length_filter_le _ _) (by omega)
    omega
def fW (an : Bool) (x : Int) : Int := if an then x else -x
theorem fW_inj (an : Bool) (x y : Int) (h : fW an x = fW an y) : x = y := by cases an <;> simp [fW] at h <;> omega
theorem kth_fold (Y : Str → Int) (an : Bool) {ps : List (Str × Int)} {k : Nat} (k1 : 1 ≤ k) (k2 : k ≤ ps.length) : ∃ a, kth Y an k ps = some a ∧ (ps.map (val Y an)).foldl (bstep (fW an) (ps.map (val Y an)) k) none = some a := by
  obtain ⟨A, hA⟩ : ∃ A, A = ps.map (val Y an) := ⟨_, rfl⟩
  have lA : A.length = ps.length := by rw [hA]; simp
  rw [← hA]
  have hS := srt_len A
  have b0 : Best (fW an) A k A (A.foldl (bstep (fW an) A k) none) := by
    have := best_fold (fW an) A k A [] none (fun w hw => by simp at hw)
    simpa using this
  cases an with
  | true =>
    have hlt : ps.length - k < (srt A).length := by omega
    refine ⟨(srt A)[ps.length - k], by simp [kth, ← hA, hlt], best_eq (fW_inj true) b0 (kth_best (M := (srt A).reverse) ((List.reverse_perm _).trans (srt_perm A)) ?_ k1 ?_)⟩
    · rw [List.pairwise_reverse]
      exact (srt_asc A).imp fun h => by simpa [fW] using h
    · rw [List.getElem?_reverse (by omega), show (srt A).length - 1 - (k - 1) = ps.length - k by omega]
      exact List.getElem?_eq_getElem hlt
  | false =>
    have hlt : k - 1 < (srt A).length := by omega
    refine ⟨(srt A)[k - 1], by simp [kth, ← hA, hlt], best_eq (fW_inj false) b0 (kth_best (M := srt A) (srt_perm A) ?_ k1 (List.getElem?_eq_getElem hlt))⟩
    exact (srt_asc A).imp fun h => by simp [fW]; omega
end Law
namespace Law
open PySem Mi
theorem fm_filter (p : Int → Bool) (A : List Int) : (A.filterMap fun o => if p o = true then some (D.int o) else none) = (A.filter p).map D.int := by
  induction A with
  | nil => rfl
  | cons a A ih =>
    rw [List.filterMap_cons, List.filter_cons]
    by_cases c : p a = true
    · simp [c, ih]
    · simp [c, ih]
def bEnv (R : D) (an : Bool) (deed : Str) (ly : Nat) (k : Int) (lp : Nat) (b : Option Int) (la : Nat) (o8 o9 o10 o11 : Option D) : Sl := [some R, some (.str (wayS an)), some (.str deed), some (.loc ly), some (.int k), some (.loc lp), some (resD b), some (.loc la), o8, o9, o10, o11]
theorem bturn_ante {R : D} {deed : Str} {ly lp la k : Nat} {b : Option Int} {A : List Int} {s : Store} (h : s[la]? = some (.lst (A.map D.int))) (hz : A.length ≤ 1000000) (v : Int) (o8 o9 o10 o11 : Option D) :
    ∃ (s' : Store), turn (gN 8) bl_d_law_bound_3 (.int v) (bEnv R true deed ly k lp b la o8 o9 o10 o11) s = .nx (bEnv R true deed ly k lp (bstep (fW true) A k b v) la (some (.int v)) o9 o10 o11) s' ∧ Ext s s' := by
  have e := lcL_fm (gd := fun s2 => s2[la]? = some (Cell.lst (A.map D.int))) (g := gN 11) (t := lt_d_law_bound_1) (e := le_d_law_bound_2) (env := [some R, some (.str "ante"), some (.str deed), some (.loc ly), some (.int k), some (.loc lp), some (resD b), some (.loc la), some (.int v), o9, o10, none]) (s := s) h D.int (fun o => if decide (v ≤ o) = true then some (D.int o) else none) A [] (fun o _ => by
    by_cases c : v ≤ o <;> simp [lt_d_law_bound_1, le_d_law_bound_2, pick, c]) (by simpa using hz)
  rw [fm_filter, List.nil_append] at e
  have ec : ((A.filter fun o => decide (v ≤ o)).map D.int).length = cnt (fW true) A v := by simp [cnt, fW]
  generalize (A.filter fun o => decide (v ≤ o)).map D.int = L at e ec
  have x1 := Ext.mk s [Cell.lst L]
  have g := get_new s (.lst L)
  have wl := dLen_loc g
  rw [ec] at wl
  refine ⟨s ++ [.lst L], ?_, x1⟩
  cases b with
  | none =>
    simp only [bstep]
    generalize cnt (fW true) A v = n at *
    simp only [resD] at e
    by_cases c : k ≤ n <;> simp [bEnv, wayS, turn, bl_d_law_bound_3, h, e, wl, resD, c]
  | some x =>
    simp only [bstep]
    generalize cnt (fW true) A v = n at *
    simp only [resD] at e
    by_cases c : k ≤ n <;> by_cases c2 : x < v <;> simp [bEnv, wayS, turn, bl_d_law_bound_3, h, e, wl, resD, c, c2, fW]
theorem bturn_post {R : D} {deed : Str} {ly lp la k : Nat} {b : Option Int} {A : List Int} {s : Store} (h : s[la]? = some (.lst (A.map D.int))) (hz : A.length ≤ 1000000) (v : Int) (o8 o9 o10 o11 : Option D) :
    ∃ (s' : Store), turn (gN 8) bl_d_law_bound_7 (.int v) (bEnv R false deed ly k lp b la o8 o9 o10 o11) s = .nx (bEnv R false deed ly k lp (bstep (fW false) A k b v) la (some (.int v)) o9 o10 o11) s' ∧ Ext s s' := by
  have e := lcL_fm (gd := fun s2 => s2[la]? = some (Cell.lst (A.map D.int))) (g := gN 11) (t := lt_d_law_bound_5) (e := le_d_law_bound_6) (env := [some R, some (.str "post"), some (.str deed), some (.loc ly), some (.int k), some (.loc lp), some (resD b), some (.loc la), some (.int v), o9, o10, none]) (s := s) h D.int (fun o => if decide (o ≤ v) = true then some (D.int o) else none) A [] (fun o _ => by
    by_cases c : o ≤ v <;> simp [lt_d_law_bound_5, le_d_law_bound_6, pick, c]) (by simpa using hz)
  rw [fm_filter, List.nil_append] at e
  have ec : ((A.filter fun o => decide (o ≤ v)).map D.int).length = cnt (fW false) A v := by simp [cnt, fW]
  generalize (A.filter fun o => decide (o ≤ v)).map D.int = L at e ec
  have x1 := Ext.mk s [Cell.lst L]
  have g := get_new s (.lst L)
  have wl := dLen_loc g
  rw [ec] at wl
  refine ⟨s ++ [.lst L], ?_, x1⟩
  cases b with
  | none =>
    simp only [bstep]
    generalize cnt (fW false) A v = n at *
    simp only [resD] at e
    by_cases c : k ≤ n <;> simp [bEnv, wayS, turn, bl_d_law_bound_7, h, e, wl, resD, c]
  | some x =>
    simp only [bstep]
    generalize cnt (fW false) A v = n at *
    simp only [resD] at e
    by_cases c : k ≤ n <;> by_cases c2 : v < x <;> simp [bEnv, wayS, turn, bl_d_law_bound_7, h, e, wl, resD, c, c2, fW]
theorem bloop {R : D} {an : Bool} {deed : Str} {ly lp la k : Nat} {A : List Int} {s : Store} (body : MS) (hb : ∀ {b : Option Int} {s : Store}, s[la]? = some (.lst (A.map D.int)) → ∀ (v : Int) (o8 o9 o10 o11 : Option D), ∃ (s' : Store), turn (gN 8) body (.int v) (bEnv R an deed ly k lp b la o8 o9 o10 o11) s = .nx (bEnv R an deed ly k lp (bstep (fW an) A k b v) la (some (.int v)) o9 o10 o11) s' ∧ Ext s s')
    (h : s[la]? = some (.lst (A.map D.int))) (o8 o9 o10 o11 : Option D) : ∃ (s' : Store) (o8' : Option D), forL (fun s2 => s2[la]? = some (Cell.lst (A.map D.int))) (gN 8) body (A.map D.int) (bEnv R an deed ly k lp none la o8 o9 o10 o11) s = .nx (bEnv R an deed ly k lp (A.foldl (bstep (fW an) A k) none) la o8' o9 o10 o11) s' ∧ Ext s s' := by
  obtain ⟨env', s', e, b, o8', rfl, x, hbq⟩ := forL_atT (gd := fun s2 => s2[la]? = some (Cell.lst (A.map D.int))) (g := gN 8) (b := body) (A.map D.int)
    (fun i env s' => ∃ (b : Option Int) (o8' : Option D), env = bEnv R an deed ly k lp b la o8' o9 o10 o11 ∧ Ext s s' ∧ b = (A.take i).foldl (bstep (fW an) A k) none)
    (fun i env s' ⟨b, o, _, x, _⟩ => x.get h) (fun i d env s1 hd ⟨b, o, he, x, hbq⟩ => by
      obtain ⟨v, hv, rfl⟩ := map_get hd
      subst he
      obtain ⟨s2, e2, x2⟩ := hb (b := b) (x.get h) v o o9 o10 o11
      rw [e2]
      refine ⟨_, _, rfl, x.trans x2, ?_⟩
      rw [List.take_succ, hv, List.foldl_append, ← hbq]
      rfl) (env := bEnv R an deed ly k lp none la o8 o9 o10 o11) (s := s) ⟨none, o8, rfl, Ext.refl s, rfl⟩
  rw [List.length_map, List.take_of_length_le (Nat.le_refl _)] at hbq
  subst hbq
  exact ⟨s', o8', e, x⟩
def YearsOf (Y : Str → Int) (nm : List Str) (ly : Nat) (s : Store) : Prop := ∃ yd, s[ly]? = some (.dic yd) ∧ ∀ n ∈ nm, getD yd (.inr n) = some (.int (Y n))
theorem YearsOf.look {Y : Str → Int} {nm : List Str} {ly : Nat} {s : Store} (h : YearsOf Y nm ly s) {n : Str} (hn : n ∈ nm) : dIxZ (.loc ly) (.str n) s = some (.int (Y n), s) := by
  obtain ⟨yd, h1, h2⟩ := h
  rw [dIxZ_locA]
  exact dIxA_dic h1 (k := .inr n) rfl (h2 n hn)
theorem YearsOf.ext {Y : Str → Int} {nm : List Str} {ly : Nat} {s s' : Store} (h : YearsOf Y nm ly s) (x : Ext s s') : YearsOf Y nm ly s' := let ⟨yd, h1, h2⟩ := h; ⟨yd, x.get h1, h2⟩
theorem lp_bnd (Y : Str → Int) {nm : List Str} {r : Rec} (hr : r.In nm) (an : Bool) (deed : Str) : (((lp r an deed).2.map (val Y an)).foldl (bstep (fW an) ((lp r an deed).2.map (val Y an)) (lp r an deed).1.toNat) none) = bnd Y r an deed ∧ 1 ≤ (lp r an deed).1 ∧ (∀ x ∈ (lp r an deed).2, x.1 ∈ nm) ∧ (lp r an deed).2.length ≤ 100 := by
  cases e : bp r an with
  | none => simp [lp, e, bnd]
  | some q =>
    obtain ⟨d, k, ps⟩ := q
    obtain ⟨_, hps, k1, k2, hpl⟩ := bp_in hr e
    by_cases c : d = deed
    · obtain ⟨a, h1, h2⟩ := kth_fold Y an (ps := ps) (k := k.toNat) (by omega) (by omega)
      simp only [lp, e, c, if_true, bnd]
      rw [h1]
      exact ⟨h2, k1, hps, hpl⟩
    · simp [lp, e, c, bnd]
theorem lbound_spec {Y : Str → Int} {nm : List Str} {ly : Nat} {s : Store} (hY : YearsOf Y nm ly s) {r : Rec} (hr : r.In nm) (an : Bool) (deed : Str) :
    ∃ s', m_d_law_bound [recD r, .str (wayS an), .str deed, .loc ly] s = .ok (resD (bnd Y r an deed)) s' ∧ Ext s s' := by
  obtain ⟨s1, e1, hs1⟩ := lparts_spec r an deed s
  obtain ⟨hb, k1, hps, hpl⟩ := lp_bnd Y hr an deed
  rw [← hb]
  clear hb
  generalize recD r = R at *
  generalize lp r an deed = q at *
  obtain ⟨k, ps⟩ := q
  simp only at *
  obtain ⟨k, rfl⟩ := Int.eq_ofNat_of_zero_le (by omega : 0 ≤ k)
  rw [Int.toNat_natCast]
  have x1 : Ext s s1 := by rw [hs1]; exact Ext.mk _ _
  have gp : s1[s.length]? = some (.lst (ps.map prt)) := by rw [hs1]; exact get_new _ _
  have hY1 := hY.ext x1
  obtain ⟨A, hA⟩ : ∃ A, A = ps.map (val Y an) := ⟨_, rfl⟩
  have lA : A.length = ps.length := by rw [hA]; simp
  rw [← hA]
  have hz : ps.length ≤ 1000000 := by omega
  have x2 := Ext.mk s1 [Cell.lst (A.map D.int)]
  have ga := get_new s1 (.lst (A.map D.int))
  cases an with
  | true =>
    have e2 := lcL_map (gd := fun s2 => s2[s.length]? = some (Cell.lst (ps.map prt))) (g := gT 2 (gsC (gN 9) (gsC (gN 10) gsN))) (t := tT) (e := le_d_law_bound_4) (env := [some R, some (.str "ante"), some (.str deed), some (.loc ly), some (.int (k : Nat)), some (.loc s.length), some .non, none, none, none, none, none]) (s := s1) gp prt (fun x => D.int (val Y true x)) ps (fun x hx => by
      have w1 := hY1.look (hps x hx)
      simp [le_d_law_bound_4, pick, prt, w1, val]) hz
    have eA : (ps.map fun x => D.int (val Y true x)) = A.map D.int := by rw [hA, List.map_map]; rfl
    rw [eA] at e2
    obtain ⟨s3, o8, e3, x3⟩ := bloop (R := R) (an := true) (deed := deed) (ly := ly) (lp := s.length) (k := k) bl_d_law_bound_3 (fun h v o8 o9 o10 o11 => bturn_ante h (by omega) v o8 o9 o10 o11) ga none none none none
    refine ⟨s3, ?_, (x1.trans x2).trans x3⟩
    generalize A.foldl (bstep (fW true) A k) none = b at *
    generalize A.map D.int = mA at *
    generalize ps.map prt = pp at *
    simp only [bEnv] at e3
    generalize resD b = bd at *
    simp only [resD, wayS, if_true] at e1 e3 ⊢
    simp [m_d_law_bound, b_d_law_bound, e1, gp, e2, ga, e3]
  | false =>
    have e2 := lcL_map (gd := fun s2 => s2[s.length]? = some (Cell.lst (ps.map prt))) (g := gT 2 (gsC (gN 9) (gsC (gN 10) gsN))) (t := tT) (e := le_d_law_bound_8) (env := [some R, some (.str "post"), some (.str deed), some (.loc ly), some (.int (k : Nat)), some (.loc s.length), some .non, none, none, none, none, none]) (s := s1) gp prt (fun x => D.int (val Y false x)) ps (fun x hx => by
      have w1 := hY1.look (hps x hx)
      simp [le_d_law_bound_8, pick, prt, w1, val]) hz
    have eA : (ps.map fun x => D.int (val Y false x)) = A.map D.int := by rw [hA, List.map_map]; rfl
    rw [eA] at e2
    obtain ⟨s3, o8, e3, x3⟩ := bloop (R := R) (an := false) (deed := deed) (ly := ly) (lp := s.length) (k := k) bl_d_law_bound_7 (fun h v o8 o9 o10 o11 => bturn_post h (by omega) v o8 o9 o10 o11) ga none none none none
    refine ⟨s3, ?_, (x1.trans x2).trans x3⟩
    generalize A.foldl (bstep (fW false) A k) none = b at *
    generalize A.map D.int = mA at *
    generalize ps.map prt = pp at *
    simp only [bEnv] at e3
    generalize resD b = bd at *
    simp only [resD, wayS, Bool.false_eq_true, if_false] at e1 e3 ⊢
    simp [m_d_law_bound, b_d_law_bound, e1, gp, e2, ga, e3, n_pa]
end Law
namespace Law
open PySem Mi
theorem same_spec (b : Option Int) (s : Store) : m_d_law_same [resD b, resD b] s = .ok (.bl true) s := by
  cases b <;> simp [m_d_law_same, b_d_law_same, resD, dIsi]
theorem zlast {α : Type} (f : α → D) (xs : List α) (x : α) (s : Store) : dIxZ (.tup ((xs ++ [x]).map f)) (.int (-1)) s = some (f x, s) := by
  rw [dIxZ_tup, List.map_append, dIx_tup]
  show (L2.atI (xs.map f ++ [f x]) (-1)).map _ = _
  rw [atI_neg1]
  rfl
theorem split_last {α : Type} {xs : List α} (h : xs ≠ []) : ∃ ys y, xs = ys ++ [y] := ⟨xs.dropLast, xs.getLast h, (List.dropLast_concat_getLast h).symm⟩
theorem split_head {α : Type} {xs : List α} (h : xs ≠ []) : ∃ y ys, xs = y :: ys := match xs, h with | y :: ys, _ => ⟨y, ys, rfl⟩
def Sim.deed : Sim → Str
  | .gap a _ _ => a
  | .yrs d _ => d
theorem Sim.deed_in {nm : List Str} {x : Sim} (h : x.In nm) : x.deed ∈ nm := by
  cases x with
  | gap a b w => exact h.1
  | yrs d ds => exact h
theorem sim1 (x : Sim) (s : Store) : dIxZ (simD x) (.int 1) s = some (.str x.deed, s) := by
  cases x <;> exact zx1 _ _ _ _
theorem named_spec {nm : List Str} {r : Rec} (hr : r.In nm) (s : Store) : ∃ L : List Str, m_d_law_named [recD r] s = .ok (.loc s.length) (s ++ [.lst (L.map D.str)]) ∧ (∀ x ∈ L, x ∈ nm) ∧ L.length ≤ 4 ∧ (∀ a b w, r = .sim (.gap a b w) → L = [a, b]) := by
  cases r with
  | sim x =>
    cases x with
    | gap a b w => exact ⟨[a, b], by simp [m_d_law_named, b_d_law_named, recD, simD, zx0, zx1, zx2], by simp; exact hr, by simp, fun a b w e => by cases e; rfl⟩
    | yrs d ds => exact ⟨[d], by simp [m_d_law_named, b_d_law_named, recD, simD, zx0, zx1, zx2, n_yg], by simp; exact hr, by simp, fun a b w e => by cases e⟩
  | lot u d k ps =>
    obtain ⟨h1, h2, h3, h4, h5⟩ := hr
    have hne : ps ≠ [] := fun e => by rw [e] at h4; simp at h4; omega
    obtain ⟨p0, pr, e0⟩ := split_head hne
    obtain ⟨qs, q, e1⟩ := split_last hne
    have hm : ps.length / 2 < ps.length := Nat.div_lt_self (List.length_pos_iff.mpr hne) (by omega)
    obtain ⟨m, hmm, hme, wm⟩ := ix_map (f := prt) (xs := ps) (i := ((ps.length / 2 : Nat) : Int)) (by omega) (by omega)
    have w0 : ∀ s, dIxZ (.tup (ps.map prt)) (.int 0) s = some (prt p0, s) := fun s => by rw [e0]; exact zx0 _ _ _
    have wl : ∀ s, dIxZ (.tup (ps.map prt)) (.int (-1)) s = some (prt q, s) := fun s => by rw [e1]; exact zlast prt qs q s
    have wm' : ∀ s, dIxZ (.tup (ps.map prt)) (.int ((ps.length : Int) / 2)) s = some (prt m, s) := fun s => by rw [dIxZ_tup]; exact wm s
    have wn : ∀ s, dLen [.tup (ps.map prt)] s = some (.int ps.length, s) := fun s => by simp
    have in0 : p0.1 ∈ nm := h2 p0 (by rw [e0]; simp)
    have inq : q.1 ∈ nm := h2 q (by rw [e1]; simp)
    have z0 : ∀ (p : Str × Int) s, dIxZ (prt p) (.int 0) s = some (.str p.1, s) := fun p s => zx0 _ _ _
    refine ⟨[d, p0.1, m.1, q.1], ?_, by simp [h1, in0, inq, h2 m hmm], by simp, fun a b w e => by cases e⟩
    generalize hpp : ps.map prt = pp at *
    cases u <;> simp [m_d_law_named, b_d_law_named, recD, hpp, lotS, zx0, zx1, zx3, w0, wl, wm', wn, z0, n_ug, n_uy, n_u1, n_og, n_oy, n_o1]
  | one sides =>
    obtain ⟨h1, h2⟩ := hr
    obtain ⟨l0, lr, e0⟩ := split_head h1
    obtain ⟨ms, l1, e1⟩ := split_last h1
    obtain ⟨g1, g2⟩ := h2 l0 (by rw [e0]; simp)
    obtain ⟨g3, g4⟩ := h2 l1 (by rw [e1]; simp)
    obtain ⟨x0, xr, f0⟩ := split_head g1
    obtain ⟨ys, x1, f1⟩ := split_last g3
    have w0 : ∀ s, dIxZ (.tup (sides.map sideD)) (.int 0) s = some (sideD l0, s) := fun s => by rw [e0]; exact zx0 _ _ _
    have w1 : ∀ s, dIxZ (.tup (sides.map sideD)) (.int (-1)) s = some (sideD l1, s) := fun s => by rw [e1]; exact zlast sideD ms l1 s
    have w2 : ∀ s, dIxZ (sideD l0) (.int 0) s = some (simD x0, s) := fun s => by rw [f0]; exact zx0 _ _ _
    have w3 : ∀ s, dIxZ (sideD l1) (.int (-1)) s = some (simD x1, s) := fun s => by rw [f1]; exact zlast simD ys x1 s
    have w4 := sim1 x0
    have w5 := sim1 x1
    refine ⟨[x0.deed, x1.deed], ?_, by simp [Sim.deed_in (g2 x0 (by rw [f0]; simp)), Sim.deed_in (g4 x1 (by rw [f1]; simp))], by simp, fun a b w e => by cases e⟩
    generalize hpp : sides.map sideD = pp at *
    generalize sideD l0 = d0 at *
    generalize sideD l1 = d1 at *
    generalize simD x0 = d2 at *
    generalize simD x1 = d3 at *
    simp [m_d_law_named, b_d_law_named, recD, hpp, zx0, zx1, w0, w1, w2, w3, w4, w5, n_1g, n_1y]
/-! ### the draws of a record -/
theorem int_spec {c p : Nat} {s : Store} (h : Pool c p s) (aimed : Int) : ∃ (w : Int) (s' : Store), m_d_law_integer [.loc p, .int aimed] s = .ok (.int w) s' ∧ Pool c p s' ∧ Kp2 c p s s' := by
  obtain ⟨k, s1, e1, k0, k1, p1, kp1⟩ := draw_spec h (many := 8) (by omega) (by omega)
  by_cases c0 : k = 0
  · obtain ⟨j, s2, e2, j0, j1, p2, kp2⟩ := draw_spec p1 (many := 7) (by omega) (by omega)
    exact ⟨j - 3, s2, by simp [m_d_law_integer, b_d_law_integer, e1, c0, e2], p2, kp1.trans kp2⟩
  by_cases c1 : k = 1
  · obtain ⟨j, s2, e2, j0, j1, p2, kp2⟩ := draw_spec p1 (many := 6001) (by omega) (by omega)
    exact ⟨j - 3000, s2, by simp [m_d_law_integer, b_d_law_integer, e1, c1, e2], p2, kp1.trans kp2⟩
  by_cases c2 : k = 2
  · obtain ⟨j, s2, e2, j0, j1, p2, kp2⟩ := draw_spec p1 (many := 2) (by omega) (by omega)
    obtain ⟨w, _, _, hw⟩ := ix_map (f := D.int) (xs := [-3000, 3000]) (i := j) j0 (by simpa using j1)
    have hw' : dIxZ (.tup [.int (-3000), .int 3000]) (.int j) s2 = some (.int w, s2) := by rw [dIxZ_tup]; exact hw s2
    exact ⟨w, s2, by simp [m_d_law_integer, b_d_law_integer, e1, c2, e2, hw'], p2, kp1.trans kp2⟩
  · obtain ⟨j, s2, e2, j0, j1, p2, kp2⟩ := draw_spec p1 (many := 3) (by omega) (by omega)
    exact ⟨_, s2, by simp [m_d_law_integer, b_d_law_integer, e1, c0, c1, c2, e2]; rfl, p2, kp1.trans kp2⟩
/-- the names at ln: two of them differ -/
structure Nm (nm : List Str) : Prop where
  ne : ∃ a b, a ∈ nm ∧ b ∈ nm ∧ a ≠ b
  lo : 2 ≤ nm.length
  hi : nm.length ≤ 40
theorem fm_str (p : Str → Bool) (A : List Str) : (A.filterMap fun o => if p o = true then some (D.str o) else none) = (A.filter p).map D.str := by
  induction A with
  | nil => rfl
  | cons a A ih =>
    rw [List.filterMap_cons, List.filter_cons]
    by_cases c : p a = true
    · simp [c, ih]
    · simp [c, ih]
theorem other_spec {c p ln : Nat} {nm : List Str} {s : Store} (h : Pool c p s) (hN : Nm nm) (g : s[ln]? = some (.lst (nm.map D.str))) (nn : ln ≠ p ∧ ln ≠ c) (deed : Str) :
    ∃ (o : Str) (s' : Store), m_d_law_other [.loc p, .loc ln, .str deed] s = .ok (.str o) s' ∧ o ∈ nm ∧ Pool c p s' ∧ Kp2 c p s s' := by
  have e := lcL_fm (gd := fun s2 => s2[ln]? = some (Cell.lst (nm.map D.str))) (g := gN 4) (t := lt_d_law_other_1) (e := le_d_law_other_2) (env := [some (.loc p), some (.loc ln), some (.str deed), none, none]) (s := s) g D.str (fun o => if decide (o ≠ deed) = true then some (D.str o) else none) nm [] (fun o _ => by
    by_cases c : o = deed <;> simp [lt_d_law_other_1, le_d_law_other_2, pick, c]) (by have := hN.hi; simp; omega)
  rw [fm_str, List.nil_append] at e
  obtain ⟨L, hL⟩ : ∃ L, L = nm.filter fun o => decide (o ≠ deed) := ⟨_, rfl⟩
  rw [← hL] at e
  have l0 : 0 < L.length := by
    obtain ⟨a, b, ha, hb, hab⟩ := hN.ne
    have : ∃ x, x ∈ L := by
      by_cases c : a = deed
      · exact ⟨b, by rw [hL]; exact List.mem_filter.mpr ⟨hb, by simp; exact fun z => hab (by rw [c, z])⟩⟩
      · exact ⟨a, by rw [hL]; exact List.mem_filter.mpr ⟨ha, by simpa using c⟩⟩
    exact List.length_pos_iff_exists_mem.mpr this
  have l1 : L.length ≤ 40 := by
    rw [hL]
    exact Nat.le_trans (List.length_filter_le _ _) hN.hi
  have x1 := Ext.mk s [Cell.lst (L.map D.str)]
  have gL := get_new s (.lst (L.map D.str))
  have wl := dLen_loc gL
  rw [List.length_map] at wl
  have p1 := h.app [Cell.lst (L.map D.str)]
  obtain ⟨j, s2, e2, j0, j1, p2, kp2⟩ := draw_spec p1 (many := L.length) (by omega) (by omega)
  have nlt : s.length ≠ p ∧ s.length ≠ c := ⟨Nat.ne_of_gt h.lt.1, Nat.ne_of_gt h.lt.2⟩
  obtain ⟨o, ho, _, wo⟩ := ixL_map (kp2.get gL nlt.1 nlt.2) j0 (by omega)
  have wo' : dIxZ (.loc s.length) (.int j) s2 = some (.str o, s2) := by rw [dIxZ_loc (kp2.get gL nlt.1 nlt.2)]; exact wo
  refine ⟨o, s2, ?_, by rw [hL] at ho; exact (List.mem_filter.mp ho).1, p2, (Kp2.app c p s _).trans kp2⟩
  generalize L.map D.str = Ld at *
  simp [m_d_law_other, b_d_law_other, g, e, wl, e2, wo']
end Law
namespace Law
open PySem Mi
theorem Kp2.setNew {c p l : Nat} {s s' : Store} (k : Kp2 c p s s') (h : s.length ≤ l) (x : Cell) : Kp2 c p s (s'.set l x) :=
  ⟨by rw [List.length_set]; exact k.1, fun i hi a b => by rw [List.getElem?_set_ne (by omega)]; exact k.2 i hi a b⟩
theorem zix_int {xs : List Int} {i : Int} (h0 : 0 ≤ i) (h1 : i < xs.length) : ∃ a, a ∈ xs ∧ ∀ s, dIxZ (.tup (xs.map D.int)) (.int i) s = some (.int a, s) := by
  obtain ⟨a, h, _, w⟩ := ix_map (f := D.int) h0 h1
  exact ⟨a, h, fun s => by rw [dIxZ_tup]; exact w s⟩
theorem dates_spec {c p : Nat} {s : Store} (h : Pool c p s) (first : Int) : ∃ (ds : List D) (s' : Store), m_d_law_dates [.loc p, .int first] s = .ok (.tup ds) s' ∧ Pool c p s' ∧ Kp2 c p s s' := by
  have x0 := Ext.mk s [Cell.lst []]
  have p0 := h.app [Cell.lst []]
  have k0 := Kp2.app c p s [Cell.lst []]
  have g0 := get_new s (.lst [])
  have nlt : s.length ≠ p ∧ s.length ≠ c := ⟨Nat.ne_of_gt h.lt.1, Nat.ne_of_gt h.lt.2⟩
  obtain ⟨a, s1, e1, _, _, p1, k1⟩ := draw_spec p0 (many := 3) (by omega) (by omega)
  obtain ⟨j, s2, e2, j0, j1, p2, k2⟩ := draw_spec p1 (many := 5) (by omega) (by omega)
  obtain ⟨n, hn, wn⟩ := zix_int (xs := [0, 1, 2, 3, 12]) j0 (by simpa using j1)
  have hn2 : 0 ≤ n ∧ n ≤ 12 := by
    simp only [List.mem_cons, List.mem_nil_iff, or_false] at hn
    omega
  have g2 := (k1.trans k2).get g0 nlt.1 nlt.2
  have k02 := (k0.trans k1).trans k2
  generalize hL : s.length = ld at *
  have er := rangeOf_int s2 n hn2.1 (by omega)
  obtain ⟨at0, hat⟩ : ∃ at0, at0 = max (-9999) (first - 2) + a := ⟨_, rfl⟩
  obtain ⟨env', s', e, at_, ds, o4, o5, o6, rfl, p3, k3, g3, _⟩ := forL_atT (gd := always) (g := gN 4) (b := bl_d_law_dates_1) (rng n.toNat)
    (fun i env s' => ∃ (at_ : Int) (ds : List D) (o4 o5 o6 : Option D), env = [some (.loc p), some (.int first), some (.loc ld), some (.int at_), o4, o5, o6] ∧ Pool c p s' ∧ Kp2 c p s s' ∧ s'[ld]? = some (.lst ds) ∧ ds.length ≤ i) (fun _ _ _ _ => trivial)
    (env := [some (.loc p), some (.int first), some (.loc ld), some (.int at0), none, none, none]) (s := s2) (fun i x env s3 hx ⟨at_, ds, o4, o5, o6, he, p3, k3, g3, hl⟩ => by
      subst he
      obtain ⟨hi, rfl⟩ := rng_get hx
      obtain ⟨a1, s4, e4, _, _, p4, k4⟩ := draw_spec p3 (many := 3) (by omega) (by omega)
      obtain ⟨a2, s5, e5, _, _, p5, k5⟩ := draw_spec p4 (many := 3) (by omega) (by omega)
      have g5 := (k4.trans k5).get g3 nlt.1 nlt.2
      have k35 := (k3.trans k4).trans k5
      by_cases c1 : at_ + a1 + a2 ≤ 9999
      · have wa := dAppend_loc g5 (by omega) (.tup [.int (at_ + a1), .int (at_ + a1 + a2)])
        simp [bl_d_law_dates_1, e4, e5, c1, tyOk_list g5, wa]
        exact ⟨p5.set nlt.1 nlt.2 _, k35.setNew (by omega) _, _, get_set g5, by simp; omega⟩
      · simp [bl_d_law_dates_1, e4, e5, c1]
        exact ⟨p5, k35, ds, g5, by omega⟩) ⟨at0, [], none, none, none, rfl, p2, k02, g2, by simp⟩
  refine ⟨ds, s', ?_, p3, k3⟩
  have wt := dTuple_loc g3
  simp only [List.map_cons, List.map_nil] at wn
  simp [m_d_law_dates, b_d_law_dates, hL, e1, ← hat, e2, wn, er, e, wt]
structure WS (c p ln ly : Nat) (Y : Str → Int) (nm : List Str) (s : Store) : Prop where
  hp : Pool c p s
  gn : s[ln]? = some (.lst (nm.map D.str))
  nn : ln ≠ p ∧ ln ≠ c
  hY : YearsOf Y nm ly s
  ny : ly ≠ p ∧ ly ≠ c
  hN : Nm nm
section
variable {c p ln ly : Nat} {Y : Str → Int} {nm : List Str} {s s' : Store}
theorem WS.kp (w : WS c p ln ly Y nm s) (hp : Pool c p s') (k : Kp2 c p s s') : WS c p ln ly Y nm s' :=
  ⟨hp, k.get w.gn w.nn.1 w.nn.2, w.nn, let ⟨yd, h1, h2⟩ := w.hY; ⟨yd, k.get h1 w.ny.1 w.ny.2, h2⟩, w.ny, w.hN⟩
theorem WS.ext (w : WS c p ln ly Y nm s) (r : Store) : WS c p ln ly Y nm (s ++ r) := w.kp (w.hp.app r) (Kp2.app c p s r)
theorem WS.look (w : WS c p ln ly Y nm s) {n : Str} (hn : n ∈ nm) : dIxZ (.loc ly) (.str n) s = some (.int (Y n), s) := w.hY.look hn
/-- one of the names -/
theorem WS.pick (w : WS c p ln ly Y nm s) : ∃ (j : Int) (d : Str) (s' : Store), dLen [.loc ln] s = some (.int nm.length, s) ∧ m_d_law_draw [.loc p, .int nm.length] s = .ok (.int j) s' ∧ dIxZ (.loc ln) (.int j) s' = some (.str d, s') ∧ d ∈ nm ∧ WS c p ln ly Y nm s' ∧ Kp2 c p s s' := by
  have wl := dLen_loc w.gn
  rw [List.length_map] at wl
  have := w.hN.lo
  have := w.hN.hi
  obtain ⟨j, s1, e1, j0, j1, p1, k1⟩ := draw_spec w.hp (many := nm.length) (by omega) (by omega)
  have w1 := w.kp p1 k1
  obtain ⟨d, hd, _, wd⟩ := ixL_map w1.gn j0 j1
  exact ⟨j, d, s1, wl, e1, by rw [dIxZ_loc w1.gn]; exact wd, hd, w1, k1⟩
theorem simple_spec (w : WS c p ln ly Y nm s) (first : Int) : ∃ (x : Sim) (s' : Store), m_d_law_simple [.loc p, .loc ln, .loc ly, .int first] s = .ok (simD x) s' ∧ x.In nm ∧ WS c p ln ly Y nm s' ∧ Kp2 c p s s' := by
  obtain ⟨j, d, s1, wl, e1, wd, hd, w1, k1⟩ := w.pick
  obtain ⟨a, s2, e2, a0, a1, p2, k2⟩ := draw_spec w1.hp (many := 4) (by omega) (by omega)
  have w2 := w1.kp p2 k2
  by_cases c1 : a = 3
  · obtain ⟨ds, s3, e3, p3, k3⟩ := dates_spec p2 first
    exact ⟨.yrs d ds, s3, by simp [m_d_law_simple, b_d_law_simple, simD, wl, e1, wd, e2, c1, e3], hd, w2.kp p3 k3, (k1.trans k2).trans k3⟩
  · obtain ⟨o, s3, e3, ho, p3, k3⟩ := other_spec p2 w2.hN w2.gn w2.nn d
    have w3 := w2.kp p3 k3
    have l1 := w3.look ho
    have l2 := w3.look hd
    obtain ⟨v, s4, e4, p4, k4⟩ := int_spec p3 (Y o - Y d)
    exact ⟨.gap d o v, s4, by simp [m_d_law_simple, b_d_law_simple, simD, wl, e1, wd, e2, c1, e3, l1, l2, e4], ⟨hd, ho⟩, w3.kp p4 k4, ((k1.trans k2).trans k3).trans k4⟩
theorem lot_spec (w : WS c p ln ly Y nm s) (u : Bool) : ∃ (r : Rec) (s' : Store), m_d_law_lot [.loc p, .loc ln, .loc ly, .str (lotS u)] s = .ok (recD r) s' ∧ r.In nm ∧ WS c p ln ly Y nm s' ∧ Kp2 c p s s' := by
  obtain ⟨j, d, s1, wl, e1, wd, hd, w1, k1⟩ := w.pick
  have w1' := w1.ext [Cell.lst []]
  have k1' := k1.trans (Kp2.app c p s1 [Cell.lst []])
  have g0 := get_new s1 (.lst [])
  have nlt : s1.length ≠ p ∧ s1.length ≠ c := ⟨Nat.ne_of_gt w1.hp.lt.1, Nat.ne_of_gt w1.hp.lt.2⟩
  have hls : s.length ≤ s1.length := k1.1
  have nln : ln ≠ s1.length := Nat.ne_of_lt (lt_of_get w1.gn)
  have nly : ly ≠ s1.length := by
    obtain ⟨yd, h1, _⟩ := w1.hY
    exact Nat.ne_of_lt (lt_of_get h1)
  obtain ⟨m, s2, e2, m0, m1, p2, k2⟩ := draw_spec w1'.hp (many := 7) (by omega) (by omega)
  have w2 := w1'.kp p2 k2
  have g2 := k2.get g0 nlt.1 nlt.2
  have k02 := k1'.trans k2
  obtain ⟨s10, hs10⟩ : ∃ s10, s10 = s1 ++ [Cell.lst []] := ⟨_, rfl⟩
  rw [← hs10] at e2
  generalize hlp : s1.length = lp at *
  have er := rangeOf_int s2 (2 + m) (by omega) (by omega)
  obtain ⟨env', s3, e, ps, o6, o7, o8, rfl, w3, k3, g3, hpl, hps⟩ := forL_atT (gd := always) (g := gN 6) (b := bl_d_law_lot_1) (rng (2 + m).toNat)
    (fun i env s' => ∃ (ps : List (Str × Int)) (o6 o7 o8 : Option D), env = [some (.loc p), some (.loc ln), some (.loc ly), some (.str (lotS u)), some (.str d), some (.loc lp), o6, o7, o8] ∧ WS c p ln ly Y nm s' ∧ Kp2 c p s s' ∧ s'[lp]? = some (.lst (ps.map prt)) ∧ ps.length = i ∧ ∀ x ∈ ps, x.1 ∈ nm) (fun _ _ _ _ => trivial)
    (env := [some (.loc p), some (.loc ln), some (.loc ly), some (.str (lotS u)), some (.str d), some (.loc lp), none, none, none]) (s := s2) (fun i x env s3 hx ⟨ps, o6, o7, o8, he, w3, k3, g3, hl, hps⟩ => by
      subst he
      obtain ⟨hi, rfl⟩ := rng_get hx
      obtain ⟨o, s4, e4, ho, p4, k4⟩ := other_spec w3.hp w3.hN w3.gn w3.nn d
      have w4 := w3.kp p4 k4
      have l1 := w4.look ho
      have l2 := w4.look hd
      have g4 := k4.get g3 nlt.1 nlt.2
      obtain ⟨v, s5, e5, p5, k5⟩ := int_spec p4 (if u then Y o - Y d else -(Y o - Y d))
      have w5 := w4.kp p5 k5
      have g5 := k5.get g4 nlt.1 nlt.2
      have k35 := (k3.trans k4).trans k5
      have wa := dAppend_loc g5 (by simp; omega) (prt (o, v))
      have fin : ∃ (ps' : List (Str × Int)), WS c p ln ly Y nm (s5.set lp (.lst (ps.map prt ++ [prt (o, v)]))) ∧ Kp2 c p s (s5.set lp (.lst (ps.map prt ++ [prt (o, v)]))) ∧ (s5.set lp (.lst (ps.map prt ++ [prt (o, v)])))[lp]? = some (.lst (ps'.map prt)) ∧ ps'.length = i + 1 ∧ ∀ x ∈ ps', x.1 ∈ nm := by
        refine ⟨ps ++ [(o, v)], ⟨w5.hp.set nlt.1 nlt.2 _, by rw [List.getElem?_set_ne (Ne.symm nln)]; exact w5.gn, w5.nn, ?_, w5.ny, w5.hN⟩, k35.setNew hls _, by rw [get_set g5]; simp, by simp [hl], fun y hy => ?_⟩
        · obtain ⟨yd, h1, h2⟩ := w5.hY
          exact ⟨yd, by rw [List.getElem?_set_ne (Ne.symm nly)]; exact h1, h2⟩
        · rcases List.mem_append.mp hy with hy | hy
          · exact hps y hy
          · rw [List.mem_singleton.mp hy]; exact ho
      have ty4 := tyOk_list g4
      simp only [prt] at wa fin
      cases u with
      | true =>
        simp only [if_true] at e5
        simp only [lotS, if_true]
        simp [bl_d_law_lot_1, e4, l1, l2, n_uo, ty4, e5, wa]
        simpa [prt] using fin
      | false =>
        simp only [Bool.false_eq_true, if_false] at e5
        simp only [lotS, Bool.false_eq_true, if_false]
        simp [bl_d_law_lot_1, e4, l1, l2, ty4, e5, wa]
        simpa [prt] using fin) ⟨[], none, none, none, rfl, w2, k02, g2, by simp, by simp⟩
  rw [rng_len] at hpl
  have wl3 := dLen_loc g3
  rw [List.length_map] at wl3
  obtain ⟨k, s4, e4, k0, k1', p4, k4⟩ := draw_spec w3.hp (many := (ps.length : Int) - 1) (by omega) (by omega)
  have wt := dTuple_loc (k4.get g3 nlt.1 nlt.2)
  refine ⟨.lot u d (1 + k) ps, s4, ?_, ⟨hd, hps, by omega, by omega, by omega⟩, w3.kp p4 k4, k3.trans k4⟩
  generalize hpp : ps.map prt = pp at *
  generalize hlu : lotS u = lu at *
  simp only [recD, hpp, hlu]
  simp [m_d_law_lot, b_d_law_lot, wl, e1, wd, ← hs10, hlp, e2, er, e, wl3, e4, wt]
end
end Law
namespace Law
open PySem Mi
section
variable {c p ln ly : Nat} {Y : Str → Int} {nm : List Str} {s s' : Store}
theorem WS.set (w : WS c p ln ly Y nm s) {l : Nat} (a : l ≠ p ∧ l ≠ c) (b : ln ≠ l) (d : ly ≠ l) (x : Cell) : WS c p ln ly Y nm (s.set l x) := by
  refine ⟨w.hp.set a.1 a.2 _, by rw [List.getElem?_set_ne (Ne.symm b)]; exact w.gn, w.nn, ?_, w.ny, w.hN⟩
  obtain ⟨yd, h1, h2⟩ := w.hY
  exact ⟨yd, by rw [List.getElem?_set_ne (Ne.symm d)]; exact h1, h2⟩
theorem WS.new (w : WS c p ln ly Y nm s) : (s.length ≠ p ∧ s.length ≠ c) ∧ ln ≠ s.length ∧ ly ≠ s.length := by
  obtain ⟨yd, h1, _⟩ := w.hY
  exact ⟨⟨Nat.ne_of_gt w.hp.lt.1, Nat.ne_of_gt w.hp.lt.2⟩, Nat.ne_of_lt (lt_of_get w.gn), Nat.ne_of_lt (lt_of_get h1)⟩
theorem side_spec (w : WS c p ln ly Y nm s) (first : Int) {n : Nat} (h1 : 1 ≤ n) (h2 : n ≤ 3) (a4 o5 o6 : Option D) : ∃ (l : List Sim) (s' : Store), lcL always (gN 6) tT le_d_law_free_1 [some (.loc p), some (.loc ln), some (.loc ly), some (.int first), a4, o5, o6] (rng n) [] s = .ok (l.map simD) s' ∧ l ≠ [] ∧ (∀ x ∈ l, x.In nm) ∧ WS c p ln ly Y nm s' ∧ Kp2 c p s s' := by
  obtain ⟨acc, s', e, l, rfl, hl, hin, w', k'⟩ := lcL_at (gd := always) (g := gN 6) (t := tT) (e := le_d_law_free_1) (env := [some (.loc p), some (.loc ln), some (.loc ly), some (.int first), a4, o5, o6]) (rng n)
    (fun k acc s' => ∃ l : List Sim, acc = l.map simD ∧ l.length = k ∧ (∀ x ∈ l, x.In nm) ∧ WS c p ln ly Y nm s' ∧ Kp2 c p s s') (fun _ _ _ _ => trivial) (fun k d acc s1 hk ⟨l, ha, hl, hin, w1, k1⟩ => by
      subst ha
      obtain ⟨hk', rfl⟩ := rng_get hk
      obtain ⟨x, s2, e2, hx, w2, k2⟩ := simple_spec w1 first
      simp [le_d_law_free_1, pick, e2]
      exact ⟨by omega, l ++ [x], by simp, by simp [hl], fun y hy => by
        rcases List.mem_append.mp hy with hy | hy
        · exact hin y hy
        · rw [List.mem_singleton.mp hy]; exact hx, w2, k1.trans k2⟩) (acc := []) (s := s) ⟨[], rfl, rfl, by simp, w, Kp2.refl c p s⟩
  rw [rng_len] at hl
  exact ⟨l, s', e, fun z => by rw [z] at hl; simp at hl; omega, hin, w', k'⟩
theorem free_spec (w : WS c p ln ly Y nm s) (first : Int) : ∃ (r : Rec) (s' : Store), m_d_law_free [.loc p, .loc ln, .loc ly, .int first] s = .ok (recD r) s' ∧ r.In nm ∧ WS c p ln ly Y nm s' ∧ Kp2 c p s s' := by
  obtain ⟨nlt, nln, nly⟩ := w.new
  have w1 := w.ext [Cell.lst []]
  have k1 := Kp2.app c p s [Cell.lst []]
  have g1 := get_new s (.lst [])
  have hls : s.length ≤ s.length := Nat.le_refl _
  obtain ⟨m, s2, e2, m0, m1, p2, k2⟩ := draw_spec w1.hp (many := 3) (by omega) (by omega)
  have w2 := w1.kp p2 k2
  have g2 := k2.get g1 nlt.1 nlt.2
  have k02 := k1.trans k2
  obtain ⟨s1, hs1⟩ : ∃ s1, s1 = s ++ [Cell.lst []] := ⟨_, rfl⟩
  rw [← hs1] at e2
  obtain ⟨lf, hlf⟩ : ∃ lf, lf = s.length := ⟨_, rfl⟩
  rw [← hlf] at nlt nln nly g2
  have er := rangeOf_int s2 (2 + m) (by omega) (by omega)
  obtain ⟨env', s3, e, ss, o5, o6, rfl, w3, k3, g3, hsl, hin⟩ := forL_atT (gd := always) (g := gN 5) (b := bl_d_law_free_2) (rng (2 + m).toNat)
    (fun i env s' => ∃ (ss : List (List Sim)) (o5 o6 : Option D), env = [some (.loc p), some (.loc ln), some (.loc ly), some (.int first), some (.loc lf), o5, o6] ∧ WS c p ln ly Y nm s' ∧ Kp2 c p s s' ∧ s'[lf]? = some (.lst (ss.map sideD)) ∧ ss.length = i ∧ ∀ l ∈ ss, l ≠ [] ∧ ∀ x ∈ l, x.In nm) (fun _ _ _ _ => trivial)
    (env := [some (.loc p), some (.loc ln), some (.loc ly), some (.int first), some (.loc lf), none, none]) (s := s2) (fun i x env s3 hx ⟨ss, o5, o6, he, w3, k3, g3, hl, hin⟩ => by
      subst he
      obtain ⟨hi, rfl⟩ := rng_get hx
      obtain ⟨n, s4, e4, n0, n1, p4, k4⟩ := draw_spec w3.hp (many := 3) (by omega) (by omega)
      have w4 := w3.kp p4 k4
      obtain ⟨nn, rfl⟩ := Int.eq_ofNat_of_zero_le n0
      have er4 := rangeOf_int s4 (1 + (nn : Int)) (by omega) (by omega)
      rw [show (1 + (nn : Int)).toNat = 1 + nn by omega] at er4
      obtain ⟨l, s5, e5, hne, hin5, w5, k5⟩ := side_spec w4 first (n := 1 + nn) (by omega) (by omega) (some (.loc lf)) (some (.int (i : Nat))) none
      have k35 := (k3.trans k4).trans k5
      have g5 := (k4.trans k5).get g3 nlt.1 nlt.2
      have k6 := Kp2.app c p s5 [Cell.lst (l.map simD)]
      have w6 := w5.ext [Cell.lst (l.map simD)]
      have g6 := k6.get g5 nlt.1 nlt.2
      have wt := dTuple_loc (get_new s5 (.lst (l.map simD)))
      have wa := dAppend_loc g6 (by simp; omega) (sideD l)
      have ty := tyOk_list g3
      have fin : ∃ (ss' : List (List Sim)) , WS c p ln ly Y nm ((s5 ++ [Cell.lst (l.map simD)]).set lf (.lst (ss.map sideD ++ [sideD l]))) ∧ Kp2 c p s ((s5 ++ [Cell.lst (l.map simD)]).set lf (.lst (ss.map sideD ++ [sideD l]))) ∧ ((s5 ++ [Cell.lst (l.map simD)]).set lf (.lst (ss.map sideD ++ [sideD l])))[lf]? = some (.lst (ss'.map sideD)) ∧ ss'.length = i + 1 ∧ ∀ l ∈ ss', l ≠ [] ∧ ∀ x ∈ l, x.In nm :=
        ⟨ss ++ [l], w6.set nlt nln nly _, (k35.trans k6).setNew (Nat.le_of_eq hlf.symm) _, by rw [get_set g6]; simp, by simp [hl], fun y hy => by
          rcases List.mem_append.mp hy with hy | hy
          · exact hin y hy
          · rw [List.mem_singleton.mp hy]; exact ⟨hne, hin5⟩⟩
      simp only [sideD] at wa fin
      generalize hlm : l.map simD = lm at *
      generalize hsm : ss.map (fun l => D.tup (l.map simD)) = sm at *
      have hsm' : ss.map sideD = sm := hsm
      rw [hsm'] at wa fin
      obtain ⟨s6, hs6⟩ : ∃ s6, s6 = s5 ++ [Cell.lst lm] := ⟨_, rfl⟩
      rw [← hs6] at wt wa fin
      generalize hs7 : s6.set lf (Cell.lst (sm ++ [D.tup lm])) = s7 at *
      simp [bl_d_law_free_2, ty, e4, er4, e5, ← hs6, wt, wa]
      simpa using fin) ⟨[], none, none, rfl, w2, k02, g2, by simp, by simp⟩
  rw [rng_len] at hsl
  have wt := dTuple_loc g3
  refine ⟨.one ss, s3, ?_, ⟨fun z => by rw [z] at hsl; simp at hsl; omega, hin⟩, w3, k3⟩
  simp only [recD]
  generalize ss.map sideD = sm at *
  simp [m_d_law_free, b_d_law_free, ← hs1, ← hlf, e2, er, e, wt]
end
end Law
namespace Law
open PySem Mi
theorem frame_spec {c p : Nat} {s : Store} (h : Pool c p s) : ∃ (first last : Int) (s' : Store), m_d_law_frame [.loc p] s = .ok (.tup [.int first, .int last]) s' ∧ 0 ≤ last - first ∧ last - first ≤ 3000 ∧ Pool c p s' ∧ Kp2 c p s s' := by
  obtain ⟨hb, s1, r1, hb0, hb1, p1, k1⟩ := draw_spec h (many := 4) (by omega) (by omega)
  have second : ∀ (w : Int) (s2 : Store), 0 ≤ w → w ≤ 3000 → Pool c p s2 → Kp2 c p s s2 → ∃ (pl a : Int) (s3 s4 : Store) (f : Int), m_d_law_draw [.loc p, .int 4] s2 = .ok (.int pl) s3 ∧ Pool c p s4 ∧ Kp2 c p s s4 ∧
      ((pl < 2 ∧ m_d_law_draw [.loc p, .int (w + 1)] s3 = .ok (.int a) s4 ∧ f = -a) ∨ (pl = 2 ∧ m_d_law_draw [.loc p, .int (19999 - w)] s3 = .ok (.int a) s4 ∧ f = a - 9999) ∨ (¬ pl < 2 ∧ ¬ pl = 2 ∧ m_d_law_draw [.loc p, .int 2] s3 = .ok (.int a) s4 ∧ dIxZ (.tup [.int (-9999), .int (9999 - w)]) (.int a) s4 = some (.int f, s4))) := fun w s2 w0 w1 p2 k2 => by
    obtain ⟨pl, s3, r3, pl0, pl1, p3, k3⟩ := draw_spec p2 (many := 4) (by omega) (by omega)
    by_cases c1 : pl < 2
    · obtain ⟨a, s4, r4, _, _, p4, k4⟩ := draw_spec p3 (many := w + 1) (by omega) (by omega)
      exact ⟨pl, a, s3, s4, -a, r3, p4, (k2.trans k3).trans k4, .inl ⟨c1, r4, rfl⟩⟩
    by_cases c2 : pl = 2
    · obtain ⟨a, s4, r4, _, _, p4, k4⟩ := draw_spec p3 (many := 19999 - w) (by omega) (by omega)
      exact ⟨pl, a, s3, s4, a - 9999, r3, p4, (k2.trans k3).trans k4, .inr (.inl ⟨c2, r4, rfl⟩)⟩
    · obtain ⟨a, s4, r4, a0, a1, p4, k4⟩ := draw_spec p3 (many := 2) (by omega) (by omega)
      obtain ⟨f, _, wf⟩ := zix_int (xs := [-9999, 9999 - w]) a0 (by simpa using a1)
      exact ⟨pl, a, s3, s4, f, r3, p4, (k2.trans k3).trans k4, .inr (.inr ⟨c1, c2, r4, wf s4⟩)⟩
  by_cases c1 : hb < 3
  · obtain ⟨n, hn, wn⟩ := zix_int (xs := [6, 61, 3001]) hb0 (by simpa using c1)
    have hn2 : 6 ≤ n ∧ n ≤ 3001 := by
      simp only [List.mem_cons, List.mem_nil_iff, or_false] at hn
      omega
    obtain ⟨w, s2, r2, w0, w1, p2, k2⟩ := draw_spec p1 (many := n) (by omega) (by omega)
    simp only [List.map_cons, List.map_nil] at wn
    obtain ⟨pl, a, s3, s4, f, r3, p4, k4, hh⟩ := second w s2 w0 (by omega) p2 (k1.trans k2)
    refine ⟨f, f + w, s4, ?_, by omega, by omega, p4, k4⟩
    rcases hh with ⟨q1, q2, rfl⟩ | ⟨rfl, q2, rfl⟩ | ⟨q1, q0, q2, q3⟩
    · simp [m_d_law_frame, b_d_law_frame, r1, c1, wn, r2, r3, q1, q2]
    · simp [m_d_law_frame, b_d_law_frame, r1, c1, wn, r2, r3, q2]
    · simp [m_d_law_frame, b_d_law_frame, r1, c1, wn, r2, r3, q1, q0, q2, q3]
  · obtain ⟨pl, a, s3, s4, f, r3, p4, k4, hh⟩ := second 3000 s1 (by omega) (by omega) p1 k1
    refine ⟨f, f + 3000, s4, ?_, by omega, by omega, p4, k4⟩
    rcases hh with ⟨q1, q2, rfl⟩ | ⟨rfl, q2, rfl⟩ | ⟨q1, q0, q2, q3⟩
    · simp at q2
      simp [m_d_law_frame, b_d_law_frame, r1, c1, r3, q1, q2]
    · simp at q2
      simp [m_d_law_frame, b_d_law_frame, r1, c1, r3, q2]
    · simp at q3
      simp [m_d_law_frame, b_d_law_frame, r1, c1, r3, q1, q0, q2, q3]
theorem years_spec {c p : Nat} {s : Store} (h : Pool c p s) {first last : Int} (h0 : 0 ≤ last - first) (h1 : last - first ≤ 3000) {many : Nat} (hm : many ≤ 40) :
    ∃ (l : Nat) (ys : List Int) (s' : Store), m_d_law_years [.loc p, .int first, .int last, .int many] s = .ok (.loc l) s' ∧ s'[l]? = some (.lst (ys.map D.int)) ∧ ys.length = many ∧ s.length ≤ l ∧ Pool c p s' ∧ Kp2 c p s s' := by
  obtain ⟨b, s1, r1, b0, b1, p1, k1⟩ := draw_spec h (many := last - first + 1) (by omega) (by omega)
  obtain ⟨hb, s2, r2, _, _, p2, k2⟩ := draw_spec p1 (many := 3) (by omega) (by omega)
  have g3 := get_new s2 (.lst (([] : List Int).map D.int))
  have p3 := p2.app [Cell.lst (([] : List Int).map D.int)]
  have k3 := (k1.trans k2).trans (Kp2.app c p s2 [Cell.lst (([] : List Int).map D.int)])
  have nlt : s2.length ≠ p ∧ s2.length ≠ c := ⟨Nat.ne_of_gt p2.lt.1, Nat.ne_of_gt p2.lt.2⟩
  have hle : s.length ≤ s2.length := (k1.trans k2).1
  obtain ⟨s3, hs3⟩ : ∃ s3, s3 = s2 ++ [Cell.lst (([] : List Int).map D.int)] := ⟨_, rfl⟩
  rw [← hs3] at g3 p3 k3
  obtain ⟨l, hl⟩ : ∃ l, l = s2.length := ⟨_, rfl⟩
  rw [← hl] at g3 nlt hle
  have er := rangeOf_int s3 (many : Int) (by omega) (by omega)
  rw [Int.toNat_natCast] at er
  obtain ⟨env', s', e, ys, o7, rfl, p4, k4, g4, hyl⟩ := forL_atT (gd := always) (g := gN 7) (b := bl_d_law_years_1) (rng many)
    (fun i env s' => ∃ (ys : List Int) (o7 : Option D), env = [some (.loc p), some (.int first), some (.int last), some (.int many), some (.int b), some (.int hb), some (.loc l), o7] ∧ Pool c p s' ∧ Kp2 c p s s' ∧ s'[l]? = some (.lst (ys.map D.int)) ∧ ys.length = i) (fun _ _ _ _ => trivial)
    (env := [some (.loc p), some (.int first), some (.int last), some (.int many), some (.int b), some (.int hb), some (.loc l), none]) (s := s3) (fun i x env s4 hx ⟨ys, o7, he, p4, k4, g4, hyl⟩ => by
      subst he
      obtain ⟨hi, rfl⟩ := rng_get hx
      have ty := tyOk_list g4
      have fin : ∀ (y : Int) (s5 : Store), Pool c p s5 → Kp2 c p s4 s5 → ∃ s6, dAppend (.loc l) [.int y] s5 = some (.non, s6) ∧ ∃ ys' : List Int, Pool c p s6 ∧ Kp2 c p s s6 ∧ s6[l]? = some (.lst (ys'.map D.int)) ∧ ys'.length = i + 1 := fun y s5 p5 k5 => by
        have g5 := k5.get g4 nlt.1 nlt.2
        refine ⟨_, dAppend_loc g5 (by simp; omega) (.int y), ys ++ [y], p5.set nlt.1 nlt.2 _, (k4.trans k5).setNew hle _, by rw [get_set g5]; simp, by simp [hyl]⟩
      by_cases c1 : hb = 0
      · obtain ⟨a, s5, r5, _, _, p5, k5⟩ := draw_spec p4 (many := last - first + 1) (by omega) (by omega)
        obtain ⟨s6, wa, ys', q1, q2, q3⟩ := fin (first + a) s5 p5 k5
        simp [bl_d_law_years_1, c1, ty, r5, wa]
        exact ⟨q1, q2, ys', q3⟩
      by_cases c2 : hb = 1
      · obtain ⟨a, s5, r5, _, _, p5, k5⟩ := draw_spec p4 (many := 3) (by omega) (by omega)
        obtain ⟨s6, wa, ys', q1, q2, q3⟩ := fin (min last (first + b + a)) s5 p5 k5
        simp [bl_d_law_years_1, c2, ty, r5, wa]
        exact ⟨q1, q2, ys', q3⟩
      · obtain ⟨a, s5, r5, a0, a1, p5, k5⟩ := draw_spec p4 (many := 3) (by omega) (by omega)
        obtain ⟨y, _, wy⟩ := zix_int (xs := [first, last, first + b]) a0 (by simpa using a1)
        obtain ⟨s6, wa, ys', q1, q2, q3⟩ := fin y s5 p5 k5
        simp only [List.map_cons, List.map_nil] at wy
        simp [bl_d_law_years_1, c1, c2, ty, r5, wy, wa]
        exact ⟨q1, q2, ys', q3⟩) ⟨[], none, rfl, p3, k3, g3, by simp⟩
  rw [rng_len] at hyl
  refine ⟨l, ys, s', ?_, g4, hyl, hle, p4, k4⟩
  simp only [List.map_nil] at hs3
  simp [m_d_law_years, b_d_law_years, r1, r2, ← hs3, ← hl, er, e]
end Law
namespace Law
open PySem Mi
/-! ### names -/
def lets : Str := "abcdefghijklmnopqrstuvwxyz"
def sgns : Str := lets ++ "0123456789"
def lc : List Nat := lets.cps.toList
def sc : List Nat := sgns.cps.toList
theorem lc_len : lc.length = 26 := by decide +kernel
theorem sc_len : sc.length = 36 := by decide +kernel
theorem lc_nd : lc.Nodup := by decide +kernel
theorem sc_nd : sc.Nodup := by decide +kernel
def ch (l : List Nat) (i : Int) : Nat := l.getD i.toNat 0
def one1 (n : Nat) : Str := ⟨#[n]⟩
theorem let_ix {i : Int} (h0 : 0 ≤ i) (h1 : i < 26) (s : Store) : dIxZ (.str lets) (.int i) s = some (.str (one1 (ch lc i)), s) := by
  rw [dIxZ_str (by decide +kernel)]
  obtain ⟨n, rfl⟩ := Int.eq_ofNat_of_zero_le h0
  have hn : n < lc.length := by rw [lc_len]; omega
  have : L2.atI lets.cps.toList ((n : Nat) : Int) = some lc[n] := L2.atI_nat (by show lc[n]? = _; simp [hn])
  rw [this]
  simp [ch, one1, hn]
theorem sgn_ix {i : Int} (h0 : 0 ≤ i) (h1 : i < 36) (s : Store) : dIxZ (.str sgns) (.int i) s = some (.str (one1 (ch sc i)), s) := by
  rw [dIxZ_str (by decide +kernel)]
  obtain ⟨n, rfl⟩ := Int.eq_ofNat_of_zero_le h0
  have hn : n < sc.length := by rw [sc_len]; omega
  have : L2.atI sgns.cps.toList ((n : Nat) : Int) = some sc[n] := L2.atI_nat (by show sc[n]? = _; simp [hn])
  rw [this]
  simp [ch, one1, hn]
theorem ch_inj {l : List Nat} (nd : l.Nodup) {i j : Int} (h0 : 0 ≤ i) (h1 : i < l.length) (h2 : 0 ≤ j) (h3 : j < l.length) (e : ch l i = ch l j) : i = j := by
  have a : i.toNat < l.length := by omega
  have b : j.toNat < l.length := by omega
  unfold ch at e
  rw [List.getD_eq_getElem?_getD, List.getD_eq_getElem?_getD, List.getElem?_eq_getElem a, List.getElem?_eq_getElem b] at e
  have e' : l[i.toNat]? = l[j.toNat]? := by
    rw [List.getElem?_eq_getElem a, List.getElem?_eq_getElem b]
    exact congrArg some e
  have := (List.getElem?_inj a nd).mp e'
  omega
theorem sadd {a b : Str} (ha : a.length ≤ 1000) (hb : b.length ≤ 1000) (s : Store) : dAdd (.str a) (.str b) s = some (.str (a ++ b), s) := dAdd_s (by omega) s
theorem one_len (n : Nat) : (one1 n).length = 1 := rfl
def nm0 (b a : Int) : Str := one1 (ch lc ((b + a / 14) % 26)) ++ repS "0" (a % 14 / 2) ++ repS "'" (a % 2)
def nm1 (b h c : Int) : Str := repS "q" (b % 5) ++ one1 (ch lc (c % 26)) ++ one1 (ch sc (c / 26)) ++ repS "z" (h % 2) ++ repS "'" (h % 3 / 2)
def nm2 (c : Int) : Str := one1 (ch lc (c % 26)) ++ one1 (ch sc (c / 26)) ++ repS (one1 (ch sc (c % 36))) (c % 7) ++ repS "'" (c % 2)
def nmF (st b h a : Int) : Str := if st = 0 then nm0 b a else if st = 1 then nm1 b h ((b + a * h) % 936) else nm2 ((b + a * h) % 936)
theorem cps_app (a b : Str) : (a ++ b).cps.toList = a.cps.toList ++ b.cps.toList := by
  show (a.cps ++ b.cps).toList = _
  simp
theorem str_list {a b : Str} (h : a = b) : a.cps.toList = b.cps.toList := by rw [h]
theorem pre_ne {P R R2 : List Nat} {x y x2 y2 : Nat} (h : P ++ x :: y :: R = P ++ x2 :: y2 :: R2) : x = x2 ∧ y = y2 := by
  have := List.append_cancel_left h
  simp at this
  exact ⟨this.1, this.2.1⟩
theorem nm_ne {st b h : Int} (b0 : 0 ≤ b) (b1 : b < 936) (h0 : 0 < h) (h1 : h < 936) : nmF st b h 0 ≠ nmF st b h 1 := by
  have cne : (b + 0 * h) % 936 ≠ (b + 1 * h) % 936 := by omega
  have d0 : 0 ≤ (b + 0 * h) % 936 ∧ (b + 0 * h) % 936 < 936 := by omega
  have d1 : 0 ≤ (b + 1 * h) % 936 ∧ (b + 1 * h) % 936 < 936 := by omega
  have key : ∀ c c2 : Int, 0 ≤ c → c < 936 → 0 ≤ c2 → c2 < 936 → ch lc (c % 26) = ch lc (c2 % 26) → ch sc (c / 26) = ch sc (c2 / 26) → c = c2 := fun c c2 a1 a2 a3 a4 e1 e2 => by
    have f1 := ch_inj lc_nd (by omega) (by rw [lc_len]; omega) (by omega) (by rw [lc_len]; omega) e1
    have f2 := ch_inj sc_nd (by omega) (by rw [sc_len]; omega) (by omega) (by rw [sc_len]; omega) e2
    omega
  unfold nmF
  by_cases c0 : st = 0
  · rw [if_pos c0, if_pos c0]
    intro e
    have := congrArg Str.length e
    unfold nm0 at this
    rw [PySem.Str.length_append, PySem.Str.length_append, PySem.Str.length_append, PySem.Str.length_append, repS_length, repS_length, repS_length, repS_length, one_len, one_len] at this
    simp at this
    exact absurd this (by decide +kernel)
  · rw [if_neg c0, if_neg c0]
    by_cases c1 : st = 1
    · rw [if_pos c1, if_pos c1]
      intro e
      have := str_list e
      unfold nm1 at this
      simp only [cps_app, List.append_assoc] at this
      obtain ⟨e1, e2⟩ := pre_ne (P := (repS "q" (b % 5)).cps.toList) this
      exact cne (key _ _ d0.1 d0.2 d1.1 d1.2 e1 e2)
    · rw [if_neg c1, if_neg c1]
      intro e
      have := str_list e
      unfold nm2 at this
      simp only [cps_app, List.append_assoc] at this
      obtain ⟨e1, e2⟩ := pre_ne (P := []) this
      exact cne (key _ _ d0.1 d0.2 d1.1 d1.2 e1 e2)
end Law
namespace Law
open PySem Mi
theorem rep_le (z : Str) {k : Int} (h : k ≤ 10) (hz : z.length = 1) : (repS z k).length ≤ 10 := by rw [repS_length, hz]; omega
theorem app_le {a b : Str} {m n : Nat} (h1 : a.length ≤ m) (h2 : b.length ≤ n) : (a ++ b).length ≤ m + n := by rw [PySem.Str.length_append]; omega
theorem mulS1 {z : Str} (hz : z.length = 1) {k : Int} (h0 : 0 ≤ k) (h1 : k ≤ 10) (s : Store) : dMulS (.str z) (.int k) s = some (.str (repS z k), s) := dMulS_str h0 (by omega) (by rw [hz]; omega) s
theorem hops : ∀ h ∈ ([1, 5, 7, 11, 25, 35] : List Int), 0 < h ∧ h < 936 := by decide
theorem names_turn {p l : Nat} {many st b h : Int} (i : Nat) (hi : i ≤ 40) (b0 : 0 ≤ b) (b1 : b < 936) (h0 : 0 < h) (h1 : h < 936) {xs : List D} {s : Store} (g : s[l]? = some (.lst xs)) (hx : xs.length ≤ 1000) (o8 o9 : Option D) :
    ∃ o9', turn (gN 8) bl_d_law_names_1 (.int (i : Nat)) [some (.loc p), some (.int many), some (.str lets), some (.str sgns), some (.int st), some (.int b), some (.int h), some (.loc l), o8, o9] s =
      .nx [some (.loc p), some (.int many), some (.str lets), some (.str sgns), some (.int st), some (.int b), some (.int h), some (.loc l), some (.int (i : Nat)), o9'] (s.set l (.lst (xs ++ [.str (nmF st b h i)]))) := by
  obtain ⟨a, ha⟩ : ∃ a : Int, a = (i : Nat) := ⟨_, rfl⟩
  rw [← ha]
  have a0 : 0 ≤ a ∧ a ≤ 40 := by omega
  obtain ⟨cc, hc⟩ : ∃ cc, cc = (b + a * h) % 936 := ⟨_, rfl⟩
  have c0 : 0 ≤ cc ∧ cc < 936 := by omega
  refine ⟨some (.int cc), ?_⟩
  have wm : ∀ s, dMul (.int a) (.int h) s = some (.int (a * h), s) := fun s => dMul_r a h s ⟨by omega, by omega⟩
  have ty := tyOk_list g
  have wa := fun d => dAppend_loc g (by omega) d
  by_cases s0 : st = 0
  · have e1 := let_ix (i := (b + a / 14) % 26) (by omega) (by omega)
    have e2 := mulS1 (z := "0") (by decide +kernel) (k := a % 14 / 2) (by omega) (by omega)
    have e3 := mulS1 (z := "'") (by decide +kernel) (k := a % 2) (by omega) (by omega)
    have l1 := one_len (ch lc ((b + a / 14) % 26))
    have l2 := rep_le "0" (k := a % 14 / 2) (by omega) (by decide +kernel)
    have l3 := rep_le "'" (k := a % 2) (by omega) (by decide +kernel)
    have en : nmF st b h a = one1 (ch lc ((b + a / 14) % 26)) ++ repS "0" (a % 14 / 2) ++ repS "'" (a % 2) := by unfold nmF nm0; rw [if_pos s0]
    rw [en]
    generalize one1 (ch lc ((b + a / 14) % 26)) = z1 at *
    generalize repS "0" (a % 14 / 2) = z2 at *
    generalize repS "'" (a % 2) = z3 at *
    have d1 := sadd (a := z1) (b := z2) (by omega) (by omega)
    have d2 := sadd (a := z1 ++ z2) (b := z3) (by have := app_le (Nat.le_of_eq l1) l2; omega) (by omega)
    generalize lets = LL at *
    simp [turn, bl_d_law_names_1, s0, wm, ← hc, e1, e2, e3, d1, d2, ty, wa]
  · by_cases s1 : st = 1
    · have e1 := mulS1 (z := "q") (by decide +kernel) (k := b % 5) (by omega) (by omega)
      have e2 := let_ix (i := cc % 26) (by omega) (by omega)
      have e3 := sgn_ix (i := cc / 26) (by omega) (by omega)
      have e4 := mulS1 (z := "z") (by decide +kernel) (k := h % 2) (by omega) (by omega)
      have e5 := mulS1 (z := "'") (by decide +kernel) (k := h % 3 / 2) (by omega) (by omega)
      have l1 := rep_le "q" (k := b % 5) (by omega) (by decide +kernel)
      have l2 := one_len (ch lc (cc % 26))
      have l3 := one_len (ch sc (cc / 26))
      have l4 := rep_le "z" (k := h % 2) (by omega) (by decide +kernel)
      have l5 := rep_le "'" (k := h % 3 / 2) (by omega) (by decide +kernel)
      have en : nmF st b h a = repS "q" (b % 5) ++ one1 (ch lc (cc % 26)) ++ one1 (ch sc (cc / 26)) ++ repS "z" (h % 2) ++ repS "'" (h % 3 / 2) := by unfold nmF nm1; rw [if_neg s0, if_pos s1, ← hc]
      rw [en]
      generalize repS "q" (b % 5) = z1 at *
      generalize one1 (ch lc (cc % 26)) = z2 at *
      generalize one1 (ch sc (cc / 26)) = z3 at *
      generalize repS "z" (h % 2) = z4 at *
      generalize repS "'" (h % 3 / 2) = z5 at *
      have m1 := app_le l1 (Nat.le_of_eq l2)
      have m2 := app_le m1 (Nat.le_of_eq l3)
      have m3 := app_le m2 l4
      have d1 := sadd (a := z1) (b := z2) (by omega) (by omega)
      have d2 := sadd (a := z1 ++ z2) (b := z3) (by omega) (by omega)
      have d3 := sadd (a := z1 ++ z2 ++ z3) (b := z4) (by omega) (by omega)
      have d4 := sadd (a := z1 ++ z2 ++ z3 ++ z4) (b := z5) (by omega) (by omega)
      generalize lets = LL at *
      generalize sgns = SS at *
      simp [turn, bl_d_law_names_1, s1, wm, ← hc, e1, e2, e3, e4, e5, d1, d2, d3, d4, ty, wa]
    · have e2 := let_ix (i := cc % 26) (by omega) (by omega)
      have e3 := sgn_ix (i := cc / 26) (by omega) (by omega)
      have e4 := sgn_ix (i := cc % 36) (by omega) (by omega)
      have e5 := mulS1 (z := one1 (ch sc (cc % 36))) (one_len _) (k := cc % 7) (by omega) (by omega)
      have e6 := mulS1 (z := "'") (by decide +kernel) (k := cc % 2) (by omega) (by omega)
      have l2 := one_len (ch lc (cc % 26))
      have l3 := one_len (ch sc (cc / 26))
      have l4 := rep_le (one1 (ch sc (cc % 36))) (k := cc % 7) (by omega) (one_len _)
      have l5 := rep_le "'" (k := cc % 2) (by omega) (by decide +kernel)
      have en : nmF st b h a = one1 (ch lc (cc % 26)) ++ one1 (ch sc (cc / 26)) ++ repS (one1 (ch sc (cc % 36))) (cc % 7) ++ repS "'" (cc % 2) := by unfold nmF nm2; rw [if_neg s0, if_neg s1, ← hc]
      rw [en]
      generalize repS (one1 (ch sc (cc % 36))) (cc % 7) = z4 at *
      generalize one1 (ch lc (cc % 26)) = z2 at *
      generalize one1 (ch sc (cc / 26)) = z3 at *
      generalize one1 (ch sc (cc % 36)) = z1 at *
      generalize repS "'" (cc % 2) = z5 at *
      have m2 := app_le (Nat.le_of_eq l2) (Nat.le_of_eq l3)
      have m3 := app_le m2 l4
      have d2 := sadd (a := z2) (b := z3) (by omega) (by omega)
      have d3 := sadd (a := z2 ++ z3) (b := z4) (by omega) (by omega)
      have d4 := sadd (a := z2 ++ z3 ++ z4) (b := z5) (by omega) (by omega)
      generalize lets = LL at *
      generalize sgns = SS at *
      simp [turn, bl_d_law_names_1, s0, s1, wm, ← hc, e2, e3, e4, e5, e6, d2, d3, d4, ty, wa]
theorem two_of {L : List Str} {a b : Str} (h0 : L[0]? = some a) (h1 : L[1]? = some b) : ∃ r, L = a :: b :: r := by
  match L, h0, h1 with
  | x :: y :: r, h0, h1 =>
    simp at h0 h1
    exact ⟨r, by rw [h0, h1]⟩
theorem names_spec {c p : Nat} {s : Store} (h : Pool c p s) {many : Nat} (m0 : 2 ≤ many) (m1 : many ≤ 40) :
    ∃ (l : Nat) (nm : List Str) (s' : Store), m_d_law_names [.loc p, .int many] s = .ok (.loc l) s' ∧ s'[l]? = some (.lst (nm.map D.str)) ∧ nm.length = many ∧ (∃ n0 n1 r, nm = n0 :: n1 :: r ∧ n0 ≠ n1) ∧ Nm nm ∧ s.length ≤ l ∧ Pool c p s' ∧ Kp2 c p s s' := by
  obtain ⟨st, s1, r1, _, _, p1, k1⟩ := draw_spec h (many := 3) (by omega) (by omega)
  obtain ⟨b, s2, r2, b0, b1, p2, k2⟩ := draw_spec p1 (many := 936) (by omega) (by omega)
  obtain ⟨j, s3, r3, j0, j1, p3, k3⟩ := draw_spec p2 (many := 6) (by omega) (by omega)
  obtain ⟨hp, hmem, wh⟩ := zix_int (xs := [1, 5, 7, 11, 25, 35]) j0 (by simpa using j1)
  obtain ⟨h0, h1⟩ := hops hp hmem
  have k03 := (k1.trans k2).trans k3
  have p4 := p3.app [Cell.lst []]
  have k4 := k03.trans (Kp2.app c p s3 [Cell.lst []])
  have g4 := get_new s3 (.lst [])
  have nlt : s3.length ≠ p ∧ s3.length ≠ c := ⟨Nat.ne_of_gt p3.lt.1, Nat.ne_of_gt p3.lt.2⟩
  have hle : s.length ≤ s3.length := k03.1
  obtain ⟨s4, hs4⟩ : ∃ s4, s4 = s3 ++ [Cell.lst []] := ⟨_, rfl⟩
  rw [← hs4] at g4 p4 k4
  obtain ⟨l, hl⟩ : ∃ l, l = s3.length := ⟨_, rfl⟩
  rw [← hl] at g4 nlt hle
  have er := rangeOf_int s4 (many : Int) (by omega) (by omega)
  rw [Int.toNat_natCast] at er
  obtain ⟨env', s', e, o8, o9, rfl, p5, k5, g5⟩ := forL_atT (gd := always) (g := gN 8) (b := bl_d_law_names_1) (rng many)
    (fun i env s' => ∃ (o8 o9 : Option D), env = [some (.loc p), some (.int many), some (.str lets), some (.str sgns), some (.int st), some (.int b), some (.int hp), some (.loc l), o8, o9] ∧ Pool c p s' ∧ Kp2 c p s s' ∧ s'[l]? = some (.lst (((List.range i).map fun a => nmF st b hp (a : Nat)).map D.str))) (fun _ _ _ _ => trivial)
    (env := [some (.loc p), some (.int many), some (.str lets), some (.str sgns), some (.int st), some (.int b), some (.int hp), some (.loc l), none, none]) (s := s4) (fun i x env s5 hx ⟨o8, o9, he, p5, k5, g5⟩ => by
      subst he
      obtain ⟨hi, rfl⟩ := rng_get hx
      obtain ⟨o9', e5⟩ := names_turn (p := p) (many := many) (st := st) i (by omega) b0 b1 h0 h1 g5 (by simp; omega) o8 o9
      rw [e5]
      exact ⟨_, _, rfl, p5.set nlt.1 nlt.2 _, k5.setNew hle _, by rw [get_set g5, List.range_succ]; simp⟩) ⟨none, none, rfl, p4, k4, g4⟩
  rw [rng_len] at g5
  have sp : ∃ n0 n1 r, ((List.range many).map fun a => nmF st b hp (a : Nat)) = n0 :: n1 :: r ∧ n0 ≠ n1 := by
    obtain ⟨r, hr⟩ := two_of (L := (List.range many).map fun a => nmF st b hp (a : Nat)) (a := nmF st b hp 0) (b := nmF st b hp 1) (by rw [List.getElem?_map, List.getElem?_range (by omega)]; rfl) (by rw [List.getElem?_map, List.getElem?_range (by omega)]; rfl)
    exact ⟨_, _, r, hr, nm_ne b0 b1 h0 h1⟩
  refine ⟨l, _, s', ?_, g5, by simp, sp, ⟨⟨nmF st b hp 0, nmF st b hp 1, ?_, ?_, nm_ne b0 b1 h0 h1⟩, by simpa using m0, by simpa using m1⟩, hle, p5, k5⟩
  · have w1 := sadd (a := lets) (b := "0123456789") (by decide +kernel) (by decide +kernel)
    have e1 : (lets ++ "0123456789" : Str) = sgns := rfl
    rw [e1] at w1
    have e0 : (("abcdefghijklmnopqrstuvwxyz" : Str)) = lets := rfl
    simp only [List.map_cons, List.map_nil] at wh
    unfold m_d_law_names b_d_law_names
    rw [e0]
    generalize lets = LL at *
    generalize sgns = SS at *
    simp [w1, r1, r2, r3, wh, ← hs4, ← hl, er, e]
  · exact List.mem_map.mpr ⟨0, by simp; omega, by simp⟩
  · exact List.mem_map.mpr ⟨1, by simp; omega, by simp⟩
end Law
namespace Law
open PySem Mi
/-! ### dict(zip(names, row)) -/
theorem keys_str : ∀ nm : List Str, keysZ (nm.map D.str) = some (nm.map Sum.inr)
  | [] => rfl
  | z :: nm => by
    rw [List.map_cons, List.map_cons]
    unfold keysZ
    rw [keys_str nm]
    rfl
theorem merge_get : ∀ (L : List (L2.Key × D)) (acc : List (L2.Key × D)) (n : L2.Key), (∀ x ∈ L, ∃ y : Int, x.2 = .int y) → (n ∈ L.map Prod.fst → ∃ y : Int, getD (mergeD acc L) n = some (.int y)) ∧ (n ∉ L.map Prod.fst → getD (mergeD acc L) n = getD acc n)
  | [], acc, n, _ => ⟨by simp, fun _ => rfl⟩
  | x :: L, acc, n, hv => by
    obtain ⟨h1, h2⟩ := merge_get L (putD acc x.1 x.2) n (fun z hz => hv z (List.mem_cons_of_mem _ hz))
    show (n ∈ x.1 :: L.map Prod.fst → ∃ y : Int, getD (mergeD (putD acc x.1 x.2) L) n = some (.int y)) ∧ (n ∉ x.1 :: L.map Prod.fst → getD (mergeD (putD acc x.1 x.2) L) n = getD acc n)
    refine ⟨fun h => ?_, fun h => ?_⟩
    · by_cases c : n ∈ L.map Prod.fst
      · exact h1 c
      · have e : n = x.1 := (List.mem_cons.mp h).resolve_right c
        obtain ⟨y, hy⟩ := hv x List.mem_cons_self
        refine ⟨y, ?_⟩
        rw [h2 c, e, putD_get, hy]
    · have c : n ∉ L.map Prod.fst := fun z => h (List.mem_cons_of_mem _ z)
      rw [h2 c]
      exact putD_other (fun e => h (by rw [e]; exact List.mem_cons_self)) _ _
theorem zip_spec {s : Store} {ln l : Nat} {nm : List Str} {ys : List Int} (h1 : s[ln]? = some (.lst (nm.map D.str))) (h2 : s[l]? = some (.lst (ys.map D.int))) (hl : ys.length = nm.length) :
    ∃ (yd : List (L2.Key × D)) (Y : Str → Int), dDictZip [.loc ln, .loc l] s = some (.loc s.length, s ++ [.dic yd]) ∧ YearsOf Y nm s.length (s ++ [.dic yd]) := by
  obtain ⟨yd, hyd⟩ : ∃ yd, yd = mergeD [] ((nm.map Sum.inr).zip (ys.map D.int)) := ⟨_, rfl⟩
  refine ⟨yd, fun n => match getD yd (.inr n) with | some (.int y) => y | _ => 0, ?_, yd, get_new _ _, fun n hn => ?_⟩
  · have a : lstOf s (.loc ln) = some (nm.map D.str) := by simp [lstOf, h1]
    have b : lstOf s (.loc l) = some (ys.map D.int) := by simp [lstOf, h2]
    have e : (nm.map Sum.inr : List L2.Key).length = (ys.map D.int).length := by simp [hl]
    simp only [dDictZip, a, b, Option.bind_some, keys_str, e, if_true, hyd]
  · obtain ⟨q, _⟩ := merge_get ((nm.map Sum.inr).zip (ys.map D.int)) [] (.inr n) (fun x hx => by
      have := (List.of_mem_zip hx).2
      obtain ⟨y, _, e⟩ := List.mem_map.mp this
      exact ⟨y, e.symm⟩)
    obtain ⟨y, hy⟩ := q (by
      rw [List.map_fst_zip (by simp [hl])]
      exact List.mem_map.mpr ⟨n, hn, rfl⟩)
    rw [← hyd] at hy
    simp only [hy]
/-! ### the list of records -/
structure W2 (c p ln ly lr : Nat) (Y : Str → Int) (nm : List Str) (R : List Rec) (s : Store) : Prop where
  w : WS c p ln ly Y nm s
  gr : s[lr]? = some (.lst (R.map recD))
  nr : lr ≠ p ∧ lr ≠ c
  nln : ln ≠ lr
  nly : ly ≠ lr
  hR : ∀ r ∈ R, r.In nm
section
variable {c p ln ly lr : Nat} {Y : Str → Int} {nm : List Str} {R : List Rec} {s s' : Store}
theorem W2.kp (h : W2 c p ln ly lr Y nm R s) (hw : WS c p ln ly Y nm s') (k : Kp2 c p s s') : W2 c p ln ly lr Y nm R s' :=
  ⟨hw, k.get h.gr h.nr.1 h.nr.2, h.nr, h.nln, h.nly, h.hR⟩
theorem W2.kpp (h : W2 c p ln ly lr Y nm R s) (hp : Pool c p s') (k : Kp2 c p s s') : W2 c p ln ly lr Y nm R s' := h.kp (h.w.kp hp k) k
theorem W2.ext (h : W2 c p ln ly lr Y nm R s) (x : Ext s s') : W2 c p ln ly lr Y nm R s' := by
  obtain ⟨r, rfl⟩ := x
  exact h.kp (h.w.ext r) (Kp2.app c p s r)
theorem W2.ty (h : W2 c p ln ly lr Y nm R s) : tyOk "list" s (.loc lr) = true := tyOk_list h.gr
theorem W2.add (h : W2 c p ln ly lr Y nm R s) {r : Rec} (hr : r.In nm) (hz : R.length ≤ 1000) : ∃ s', dAppend (.loc lr) [recD r] s = some (.non, s') ∧ W2 c p ln ly lr Y nm (R ++ [r]) s' ∧ s'.length = s.length ∧ ∀ l, l ≠ lr → s'[l]? = s[l]? := by
  refine ⟨_, dAppend_loc h.gr (by simp; omega) (recD r), ⟨h.w.set h.nr h.nln h.nly _, by rw [get_set h.gr]; simp, h.nr, h.nln, h.nly, fun x hx => ?_⟩, by simp, fun l hl => List.getElem?_set_ne (Ne.symm hl)⟩
  rcases List.mem_append.mp hx with hx | hx
  · exact h.hR x hx
  · rw [List.mem_singleton.mp hx]; exact hr
end
end Law
namespace Law
open PySem Mi
section
variable {c p ln ly lr : Nat} {Y : Str → Int} {nm : List Str} {R : List Rec} {s s' : Store} {first : Int}
theorem lots_loop (h : W2 c p ln ly lr Y nm R s) (hz : R.length ≤ 100) (a0 a2 a3 a5 a6 a9 a11 a12 a13 a14 a15 a16 a17 a18 a19 a20 a21 a22 a23 a24 : Option D) : ∃ (s' : Store) (R' : List Rec) (o11 : Option D), forL always (gN 11) bl_law_12 [.str "under", .str "over", .str "under", .str "over", .str "under", .str "over"] [a0, some (.loc p), a2, a3, some (.int first), a5, a6, some (.loc ln), some (.loc ly), a9, some (.loc lr), a11, a12, a13, a14, a15, a16, a17, a18, a19, a20, a21, a22, a23, a24] s = .nx [a0, some (.loc p), a2, a3, some (.int first), a5, a6, some (.loc ln), some (.loc ly), a9, some (.loc lr), o11, a12, a13, a14, a15, a16, a17, a18, a19, a20, a21, a22, a23, a24] s' ∧ W2 c p ln ly lr Y nm (R ++ R') s' ∧ R'.length = 6 := by
  have hk : ∀ z ∈ [("under" : Str), "over", "under", "over", "under", "over"], ∃ u, z = lotS u := by
    intro z hz
    simp only [List.mem_cons, List.mem_nil_iff, or_false] at hz
    rcases hz with rfl | rfl | rfl | rfl | rfl | rfl
    · exact ⟨true, rfl⟩
    · exact ⟨false, rfl⟩
    · exact ⟨true, rfl⟩
    · exact ⟨false, rfl⟩
    · exact ⟨true, rfl⟩
    · exact ⟨false, rfl⟩
  obtain ⟨env', s', e, R', o11, rfl, h', hl⟩ := forL_atT (gd := always) (g := gN 11) (b := bl_law_12) ([("under" : Str), "over", "under", "over", "under", "over"].map D.str)
    (fun i env s' => ∃ (R' : List Rec) (o11 : Option D), env = [a0, some (.loc p), a2, a3, some (.int first), a5, a6, some (.loc ln), some (.loc ly), a9, some (.loc lr), o11, a12, a13, a14, a15, a16, a17, a18, a19, a20, a21, a22, a23, a24] ∧ W2 c p ln ly lr Y nm (R ++ R') s' ∧ R'.length = i) (fun _ _ _ _ => trivial)
    (env := [a0, some (.loc p), a2, a3, some (.int first), a5, a6, some (.loc ln), some (.loc ly), a9, some (.loc lr), a11, a12, a13, a14, a15, a16, a17, a18, a19, a20, a21, a22, a23, a24]) (s := s) (fun i d env s1 hd ⟨R', o11, he, h1, hl⟩ => by
      subst he
      have hi : i < 6 := (List.getElem?_eq_some_iff.mp hd).1
      obtain ⟨z, hz, rfl⟩ := map_get hd
      obtain ⟨u, rfl⟩ := hk z (List.mem_of_getElem? hz)
      have ty := h1.ty
      obtain ⟨r, s2, r2, hr, w2, k2⟩ := lot_spec h1.w u
      have h2 := h1.kp w2 k2
      obtain ⟨s3, r3, h3, _, _⟩ := h2.add hr (by simp; omega)
      generalize lotS u = z at *
      simp [bl_law_12, ty, r2, r3]
      rw [List.append_assoc] at h3
      exact ⟨R' ++ [r], h3, by simp [hl]⟩) ⟨[], a11, rfl, by rw [List.append_nil]; exact h, rfl⟩
  exact ⟨s', R', o11, e, h', hl⟩
def kindS : Rec → Str
  | .sim (.gap _ _ _) => "gap"
  | .sim (.yrs _ _) => "years"
  | .lot u _ _ _ => lotS u
  | .one _ => "one"
theorem kind_ix (r : Rec) (s : Store) : dIxZ (recD r) (.int 0) s = some (.str (kindS r), s) := by
  cases r with
  | sim x => cases x <;> exact zx0 _ _ _
  | lot u d k ps => exact zx0 _ _ _
  | one ss => exact zx0 _ _ _
theorem dig_spec (i : Nat) (s : Store) : ∃ y z : Str, dStr [.int ((i : Int) % 3)] s = some (.str y, s) ∧ dAdd (.str "dig") (.str y) s = some (.str z, s) := by
  have h : (i : Int) % 3 = 0 ∨ (i : Int) % 3 = 1 ∨ (i : Int) % 3 = 2 := by omega
  have g : ((i : Int) % 3).natAbs.log2 < 1920 := Nat.lt_of_le_of_lt (Nat.log2_le_self _) (by omega)
  refine ⟨toString ((i : Int) % 3), "dig" ++ (toString ((i : Int) % 3) : Str), by simp only [dStr]; rw [if_pos g], dAdd_s ?_ s⟩
  rcases h with h | h | h <;> rw [h] <;> decide +kernel
theorem told_spec (h : W2 c p ln ly lr Y nm R s) (hz : R.length ≤ 100) (lo : Str) (a0 a2 a3 a5 a6 a9 a11 a14 a15 a16 a17 a18 a19 a20 a21 a22 a23 a24 : Option D) : ∃ (T : List D), lcL always (gN 13) lt_law_10 le_law_11 [a0, some (.loc p), a2, a3, some (.int first), a5, a6, some (.loc ln), some (.loc ly), a9, some (.loc lr), a11, some (.str lo), none, a14, a15, a16, a17, a18, a19, a20, a21, a22, a23, a24] (rng R.length) [] s = .ok T s ∧ T.length ≤ R.length := by
  obtain ⟨T, s', e, rfl, hl⟩ := lcL_at (gd := always) (g := gN 13) (t := lt_law_10) (e := le_law_11) (env := [a0, some (.loc p), a2, a3, some (.int first), a5, a6, some (.loc ln), some (.loc ly), a9, some (.loc lr), a11, some (.str lo), none, a14, a15, a16, a17, a18, a19, a20, a21, a22, a23, a24]) (rng R.length) (fun k acc s' => s' = s ∧ acc.length ≤ k) (fun _ _ _ _ => trivial) (fun k d acc s1 hk ⟨hs, hl⟩ => by
      subst hs
      obtain ⟨hk', rfl⟩ := rng_get hk
      obtain ⟨r, hr, _, wr⟩ := ixL_map h.gr (i := (k : Int)) (by omega) (by omega)
      have wr' : dIxZ (.loc lr) (.int (k : Nat)) s1 = some (recD r, s1) := by rw [dIxZ_loc h.gr]; exact wr
      have wk := kind_ix r s1
      have wn := dNotIn_of (dInB_tupS (kindS r) ["over", lo] s1)
      obtain ⟨y, z, z1, z2⟩ := dig_spec k s1
      simp only [List.map_cons, List.map_nil] at wn
      generalize recD r = rd at *
      generalize kindS r = kd at *
      by_cases cc : kd ∈ ([("over" : Str), lo] : List Str)
      · simp only [cc, decide_true, Bool.not_true] at wn
        simp [pick, lt_law_10, wr', wk, wn]
        omega
      · simp only [cc, decide_false, Bool.not_false] at wn
        simp [pick, lt_law_10, le_law_11, wr', wk, wn, z1, z2]
        omega) (acc := []) (s := s) ⟨rfl, by simp⟩
  rw [rng_len] at hl
  exact ⟨T, e, hl⟩
def annD (x : Sim) : D := .tup [.str "ann", simD x]
theorem ann_loop (h : W2 c p ln ly lr Y nm R s) {lt : Nat} {T : List D} (gt : s[lt]? = some (.lst T)) (ht : T.length ≤ 100) (nt : lt ≠ p ∧ lt ≠ c) (n1 : ln ≠ lt) (n2 : ly ≠ lt) (n3 : lr ≠ lt) {n : Nat} (hn0 : 1 ≤ n) (hn : n ≤ 120) (a0 a2 a3 a5 a6 a9 a11 a12 a13 a15 a16 a17 a18 a19 a20 a21 a22 a23 a24 : Option D) :
    ∃ (s' : Store) (T' : List D) (x : Sim) (o13 : Option D), forL always (gN 13) bl_law_9 (rng n) [a0, some (.loc p), a2, a3, some (.int first), a5, a6, some (.loc ln), some (.loc ly), a9, some (.loc lr), a11, a12, a13, some (.loc lt), a15, a16, a17, a18, a19, a20, a21, a22, a23, a24] s = .nx [a0, some (.loc p), a2, a3, some (.int first), a5, a6, some (.loc ln), some (.loc ly), a9, some (.loc lr), a11, a12, o13, some (.loc lt), a15, a16, a17, a18, a19, a20, a21, a22, a23, a24] s' ∧ W2 c p ln ly lr Y nm R s' ∧ s'[lt]? = some (.lst (T' ++ [annD x])) ∧ T'.length ≤ 300 ∧ x.In nm := by
  obtain ⟨env', s', e, T', o13, rfl, h', g', hl, hx⟩ := forL_atT (gd := always) (g := gN 13) (b := bl_law_9) (rng n)
    (fun i env s' => ∃ (T' : List D) (o13 : Option D), env = [a0, some (.loc p), a2, a3, some (.int first), a5, a6, some (.loc ln), some (.loc ly), a9, some (.loc lr), a11, a12, o13, some (.loc lt), a15, a16, a17, a18, a19, a20, a21, a22, a23, a24] ∧ W2 c p ln ly lr Y nm R s' ∧ s'[lt]? = some (.lst T') ∧ T'.length ≤ T.length + i ∧ (1 ≤ i → ∃ (T2 : List D) (x : Sim), T' = T2 ++ [annD x] ∧ x.In nm)) (fun _ _ _ _ => trivial)
    (env := [a0, some (.loc p), a2, a3, some (.int first), a5, a6, some (.loc ln), some (.loc ly), a9, some (.loc lr), a11, a12, a13, some (.loc lt), a15, a16, a17, a18, a19, a20, a21, a22, a23, a24]) (s := s) (fun i d env s1 hd ⟨T', o13, he, h1, g1, hl, _⟩ => by
      subst he
      obtain ⟨hi, rfl⟩ := rng_get hd
      have ty := tyOk_list g1
      obtain ⟨x, s2, r2, hx, w2, k2⟩ := simple_spec h1.w first
      have h2 := h1.kp w2 k2
      have g2 := k2.get g1 nt.1 nt.2
      have wa := dAppend_loc g2 (by omega) (annD x)
      have h3 : W2 c p ln ly lr Y nm R (s2.set lt (.lst (T' ++ [annD x]))) := ⟨w2.set nt n1 n2 _, by rw [List.getElem?_set_ne (Ne.symm n3)]; exact h2.gr, h2.nr, h2.nln, h2.nly, h2.hR⟩
      have g3 : (s2.set lt (.lst (T' ++ [annD x])))[lt]? = some (.lst (T' ++ [annD x])) := get_set g2
      have fin : ∃ (T3 : List D), W2 c p ln ly lr Y nm R (s2.set lt (.lst (T' ++ [annD x]))) ∧ (s2.set lt (.lst (T' ++ [annD x])))[lt]? = some (.lst T3) ∧ T3.length ≤ T.length + (i + 1) ∧ ∃ (T2 : List D) (x : Sim), T3 = T2 ++ [annD x] ∧ x.In nm :=
        ⟨_, h3, g3, by simp; omega, T', x, rfl, hx⟩
      have ea : annD x = .tup [.str "ann", simD x] := rfl
      rw [ea] at wa
      rw [ea] at fin
      generalize simD x = xd at *
      generalize s2.set lt (.lst (T' ++ [D.tup [.str "ann", xd]])) = s3 at *
      simp [bl_law_9, ty, r2, wa]
      obtain ⟨T3, q1, q2, q3, q4⟩ := fin
      exact ⟨q1, T3, q2, q3, q4⟩) ⟨T, a13, rfl, h, gt, by omega, fun z => by omega⟩
  rw [rng_len] at hl hx
  obtain ⟨T2, x, rfl, hxi⟩ := hx hn0
  exact ⟨s', T2, x, o13, e, h', g', by simp at hl; omega, hxi⟩
end
end Law
namespace Law
open PySem Mi
noncomputable def askD (Y : Str → Int) (x : Rec × Bool × Str) : D := .tup [recD x.1, .str (wayS x.2.1), .str x.2.2, resD (bnd Y x.1 x.2.1 x.2.2)]
def two (r : Rec) (d : Str) : List (Rec × Bool × Str) := [(r, true, d), (r, false, d)]
structure W3 (c p ln ly lr la : Nat) (Y : Str → Int) (nm : List Str) (R : List Rec) (A : List (Rec × Bool × Str)) (s : Store) : Prop where
  h : W2 c p ln ly lr Y nm R s
  ga : s[la]? = some (.lst (A.map (askD Y)))
  na : la ≠ p ∧ la ≠ c
  a1 : ln ≠ la
  a2 : ly ≠ la
  a3 : lr ≠ la
  hA : ∀ x ∈ A, x.1.In nm
section
variable {c p ln ly lr la : Nat} {Y : Str → Int} {nm : List Str} {R : List Rec} {A : List (Rec × Bool × Str)} {s s' : Store}
theorem W3.ext (w : W3 c p ln ly lr la Y nm R A s) (x : Ext s s') : W3 c p ln ly lr la Y nm R A s' := ⟨w.h.ext x, x.get w.ga, w.na, w.a1, w.a2, w.a3, w.hA⟩
theorem W3.kpp (w : W3 c p ln ly lr la Y nm R A s) (hp : Pool c p s') (k : Kp2 c p s s') : W3 c p ln ly lr la Y nm R A s' := ⟨w.h.kpp hp k, k.get w.ga w.na.1 w.na.2, w.na, w.a1, w.a2, w.a3, w.hA⟩
theorem W3.ty (w : W3 c p ln ly lr la Y nm R A s) : tyOk "list" s (.loc la) = true := tyOk_list w.ga
theorem W3.add (w : W3 c p ln ly lr la Y nm R A s) {x : Rec × Bool × Str} (hx : x.1.In nm) (hz : A.length ≤ 100000) : ∃ s', dAppend (.loc la) [askD Y x] s = some (.non, s') ∧ W3 c p ln ly lr la Y nm R (A ++ [x]) s' ∧ s'.length = s.length ∧ ∀ l, l ≠ la → s'[l]? = s[l]? := by
  refine ⟨_, dAppend_loc w.ga (by simp; omega) (askD Y x), ⟨⟨w.h.w.set w.na w.a1 w.a2 _, by rw [List.getElem?_set_ne (Ne.symm w.a3)]; exact w.h.gr, w.h.nr, w.h.nln, w.h.nly, w.h.hR⟩, by rw [get_set w.ga]; simp, w.na, w.a1, w.a2, w.a3, fun y hy => ?_⟩, by simp, fun l hl => List.getElem?_set_ne (Ne.symm hl)⟩
  rcases List.mem_append.mp hy with hy | hy
  · exact w.hA y hy
  · rw [List.mem_singleton.mp hy]; exact hx
theorem ask_body (w : W3 c p ln ly lr la Y nm R A s) {r : Rec} (hr : r.In nm) (d : Str) (hz : A.length ≤ 10000) (a0 a1 a2 a3 a4 a5 a6 a7 a9 a10 a11 a12 a13 a14 a15 a16 a18 a21 a22 a23 a24 : Option D) : ∃ s', bl_law_6 [a0, a1, a2, a3, a4, a5, a6, a7, some (.loc ly), a9, a10, a11, a12, a13, a14, a15, a16, some (.str d), a18, some (.loc la), some (recD r), a21, a22, a23, a24] s = .nx [a0, a1, a2, a3, a4, a5, a6, a7, some (.loc ly), a9, a10, a11, a12, a13, a14, a15, a16, some (.str d), a18, some (.loc la), some (recD r), a21, a22, a23, a24] s' ∧ W3 c p ln ly lr la Y nm R (A ++ two r d) s' ∧ s.length ≤ s'.length ∧ ∀ l, l < s.length → l ≠ la → s'[l]? = s[l]? := by
  obtain ⟨s1, r1, x1⟩ := lbound_spec w.h.w.hY hr true d
  have w1 := w.ext x1
  obtain ⟨s2, r2, w2, l2, f2⟩ := w1.add (x := (r, true, d)) hr (by omega)
  obtain ⟨s3, r3, x3⟩ := lbound_spec w2.h.w.hY hr false d
  have w3 := w2.ext x3
  obtain ⟨s4, r4, w4, l4, f4⟩ := w3.add (x := (r, false, d)) hr (by simp; omega)
  have ty1 := w.ty
  have ty2 := w2.ty
  have e1 := x1.le
  have e3 := x3.le
  refine ⟨s4, ?_, by rw [List.append_assoc] at w4; exact w4, by omega, fun l hl hn => ?_⟩
  · simp only [askD, wayS, if_true, Bool.false_eq_true, if_false] at r1 r2 r3 r4
    generalize recD r = rd at *
    simp [bl_law_6, ty1, ty2, r1, r2, r3, r4]
  · obtain ⟨q1, hq1⟩ := x1
    obtain ⟨q3, hq3⟩ := x3
    rw [f4 l hn, hq3, List.getElem?_append_left (by omega), f2 l hn, hq1, List.getElem?_append_left hl]
theorem ask_inner (w : W3 c p ln ly lr la Y nm R A s) {r : Rec} (hr : r.In nm) {ds : List Str} {ld : Nat} (gd : s[ld]? = some (.lst (ds.map D.str))) (nd : ld ≠ la) (hz : A.length ≤ 5000) (hd : ds.length ≤ 10) (a0 a1 a2 a3 a4 a5 a6 a7 a9 a10 a11 a12 a13 a14 a15 a16 a17 a18 a21 a22 a23 a24 : Option D) :
    ∃ (s' : Store) (o17 : Option D), forL (fun s2 => s2[ld]? = some (Cell.lst (ds.map D.str))) (gN 17) bl_law_6 (ds.map D.str) [a0, a1, a2, a3, a4, a5, a6, a7, some (.loc ly), a9, a10, a11, a12, a13, a14, a15, a16, a17, a18, some (.loc la), some (recD r), a21, a22, a23, a24] s = .nx [a0, a1, a2, a3, a4, a5, a6, a7, some (.loc ly), a9, a10, a11, a12, a13, a14, a15, a16, o17, a18, some (.loc la), some (recD r), a21, a22, a23, a24] s' ∧ W3 c p ln ly lr la Y nm R (A ++ ds.flatMap (two r)) s' := by
  obtain ⟨env', s', e, A', o17, rfl, w', hA', _, _⟩ := forL_atT (gd := fun s2 => s2[ld]? = some (Cell.lst (ds.map D.str))) (g := gN 17) (b := bl_law_6) (ds.map D.str)
    (fun i env s' => ∃ (A' : List (Rec × Bool × Str)) (o17 : Option D), env = [a0, a1, a2, a3, a4, a5, a6, a7, some (.loc ly), a9, a10, a11, a12, a13, a14, a15, a16, o17, a18, some (.loc la), some (recD r), a21, a22, a23, a24] ∧ W3 c p ln ly lr la Y nm R A' s' ∧ A' = A ++ (ds.take i).flatMap (two r) ∧ s'[ld]? = some (.lst (ds.map D.str)) ∧ A'.length ≤ A.length + 2 * i) (fun _ _ _ ⟨_, _, _, _, _, g, _⟩ => g)
    (env := [a0, a1, a2, a3, a4, a5, a6, a7, some (.loc ly), a9, a10, a11, a12, a13, a14, a15, a16, a17, a18, some (.loc la), some (recD r), a21, a22, a23, a24]) (s := s) (fun i x env s1 hx ⟨A', o17, he, w1, hA', g1, hl⟩ => by
      subst he
      have hi : i < ds.length := by
        have := (List.getElem?_eq_some_iff.mp hx).1
        simpa using this
      obtain ⟨d, hd', rfl⟩ := map_get hx
      obtain ⟨s2, r2, w2, l2, f2⟩ := ask_body w1 hr d (by omega) a0 a1 a2 a3 a4 a5 a6 a7 a9 a10 a11 a12 a13 a14 a15 a16 a18 a21 a22 a23 a24
      have g2 : s2[ld]? = some (.lst (ds.map D.str)) := by rw [f2 ld (lt_of_get g1) nd]; exact g1
      have hA2 : A' ++ two r d = A ++ (ds.take (i + 1)).flatMap (two r) := by
        rw [List.take_succ, hd', hA', List.flatMap_append]
        simp
      have fin : ∃ (A2 : List (Rec × Bool × Str)), W3 c p ln ly lr la Y nm R A2 s2 ∧ A2 = A ++ (ds.take (i + 1)).flatMap (two r) ∧ s2[ld]? = some (.lst (ds.map D.str)) ∧ A2.length ≤ A.length + 2 * (i + 1) := ⟨_, w2, hA2, g2, by simp [two]; omega⟩
      simp only [turn, gN, List.set_cons_succ, List.set_cons_zero, Option.bind_some]
      simp [r2]
      exact fin) ⟨A, a17, rfl, w, by simp, gd, by omega⟩
  rw [List.length_map, List.take_of_length_le (Nat.le_refl _)] at hA'
  rw [hA'] at w'
  exact ⟨s', o17, e, w'⟩
theorem ask_loop (w : W3 c p ln ly lr la Y nm R [] s) (hR : R.length ≤ 100) {n0 n1 : Str} {w0 : Int} {R' : List Rec} (hR0 : R = .sim (.gap n0 n1 w0) :: R') (a0 a2 a4 a5 a6 a9 a11 a12 a13 a14 a15 a16 a17 a18 a20 a21 a22 a23 a24 : Option D) :
    ∃ (s' : Store) (o17 o20 : Option D) (A : List (Rec × Bool × Str)), forL (fun s2 => s2[lr]? = some (Cell.lst (R.map recD))) (gN 20) bl_law_7 (R.map recD) [a0, some (.loc p), a2, some (.int nm.length), a4, a5, a6, some (.loc ln), some (.loc ly), a9, some (.loc lr), a11, a12, a13, a14, a15, a16, a17, a18, some (.loc la), a20, a21, a22, a23, a24] s = .nx [a0, some (.loc p), a2, some (.int nm.length), a4, a5, a6, some (.loc ln), some (.loc ly), a9, some (.loc lr), a11, a12, a13, a14, a15, a16, o17, a18, some (.loc la), o20, a21, a22, a23, a24] s' ∧ W3 c p ln ly lr la Y nm R A s' ∧ A.length ≤ 2000 ∧ ∃ B, A = two (.sim (.gap n0 n1 w0)) n0 ++ two (.sim (.gap n0 n1 w0)) n1 ++ B := by
  obtain ⟨env', s', e, A, o17, o20, rfl, w', hl, hB⟩ := forL_atT (gd := fun s2 => s2[lr]? = some (Cell.lst (R.map recD))) (g := gN 20) (b := bl_law_7) (R.map recD)
    (fun i env s' => ∃ (A : List (Rec × Bool × Str)) (o17 o20 : Option D), env = [a0, some (.loc p), a2, some (.int nm.length), a4, a5, a6, some (.loc ln), some (.loc ly), a9, some (.loc lr), a11, a12, a13, a14, a15, a16, o17, a18, some (.loc la), o20, a21, a22, a23, a24] ∧ W3 c p ln ly lr la Y nm R A s' ∧ A.length ≤ 10 * i ∧ (1 ≤ i → ∃ B, A = two (.sim (.gap n0 n1 w0)) n0 ++ two (.sim (.gap n0 n1 w0)) n1 ++ B)) (fun _ _ _ ⟨_, _, _, _, w, _⟩ => w.h.gr)
    (env := [a0, some (.loc p), a2, some (.int nm.length), a4, a5, a6, some (.loc ln), some (.loc ly), a9, some (.loc lr), a11, a12, a13, a14, a15, a16, a17, a18, some (.loc la), a20, a21, a22, a23, a24]) (s := s) (fun i x env s1 hx ⟨A, o17, o20, he, w1, hl, hB⟩ => by
      subst he
      have hi : i < R.length := by
        have := (List.getElem?_eq_some_iff.mp hx).1
        simpa using this
      obtain ⟨r, hr', rfl⟩ := map_get hx
      have hr := w1.h.hR r (List.mem_of_getElem? hr')
      obtain ⟨L, e1, hL, hL4, hLg⟩ := named_spec hr s1
      have x1 := Ext.mk s1 [Cell.lst (L.map D.str)]
      have w2 := w1.ext x1
      have g2 := get_new s1 (.lst (L.map D.str))
      have lo := w1.h.w.hN.lo
      have hi2 := w1.h.w.hN.hi
      have nlt : s1.length ≠ p ∧ s1.length ≠ c := ⟨Nat.ne_of_gt w1.h.w.hp.lt.1, Nat.ne_of_gt w1.h.w.hp.lt.2⟩
      obtain ⟨j, s3, e3, j0, j1, p3, k3⟩ := draw_spec w2.h.w.hp (many := nm.length) (by omega) (by omega)
      have w3 := w2.kpp p3 k3
      have g3 := k3.get g2 nlt.1 nlt.2
      obtain ⟨d, hd, _, wd⟩ := ixL_map w3.h.w.gn j0 j1
      have wd' : dIxZ (.loc ln) (.int j) s3 = some (.str d, s3) := by rw [dIxZ_loc w3.h.w.gn]; exact wd
      have x4 := Ext.mk s3 [Cell.lst ([d].map D.str)]
      have w4 := w3.ext x4
      have g4 := get_new s3 (.lst ([d].map D.str))
      have wa := dAdd_loc (x4.get g3) g4 (by simp; omega)
      rw [← List.map_append] at wa
      have x5 := Ext.mk (s3 ++ [Cell.lst ([d].map D.str)]) [Cell.lst ((L ++ [d]).map D.str)]
      have w5 := w4.ext x5
      have g5 := get_new (s3 ++ [Cell.lst ([d].map D.str)]) (.lst ((L ++ [d]).map D.str))
      have nd : (s3 ++ [Cell.lst ([d].map D.str)]).length ≠ la := Nat.ne_of_gt (lt_of_get w4.ga)
      obtain ⟨s6, o17', e6, w6⟩ := ask_inner w5 hr g5 nd (by omega) (by simp; omega) a0 (some (.loc p)) a2 (some (.int nm.length)) a4 a5 a6 (some (.loc ln)) a9 (some (.loc lr)) a11 a12 a13 a14 a15 a16 o17 a18 a21 a22 a23 a24
      have fl : (A ++ (L ++ [d]).flatMap (two r)).length ≤ 10 * (i + 1) := by
        have : ((L ++ [d]).flatMap (two r)).length = 2 * (L ++ [d]).length := by
          generalize L ++ [d] = q
          induction q with
          | nil => rfl
          | cons a q ih => rw [List.flatMap_cons, List.length_append, ih]; simp [two]; omega
        rw [List.length_append, this]
        simp
        omega
      have hB2 : ∃ B, A ++ (L ++ [d]).flatMap (two r) = two (.sim (.gap n0 n1 w0)) n0 ++ two (.sim (.gap n0 n1 w0)) n1 ++ B := by
        by_cases c0 : i = 0
        · subst c0
          have hA0 : A = [] := List.length_eq_zero_iff.mp (by omega)
          rw [hR0] at hr'
          have er : r = .sim (.gap n0 n1 w0) := by simpa using hr'.symm
          rw [hA0, hLg n0 n1 w0 er, er]
          exact ⟨two (.sim (.gap n0 n1 w0)) d, by simp [two]⟩
        · obtain ⟨B, hB⟩ := hB (by omega)
          exact ⟨B ++ (L ++ [d]).flatMap (two r), by rw [hB]; simp [List.append_assoc]⟩
      have fin : ∃ (A2 : List (Rec × Bool × Str)), W3 c p ln ly lr la Y nm R A2 s6 ∧ A2.length ≤ 10 * (i + 1) ∧ ∃ B, A2 = two (.sim (.gap n0 n1 w0)) n0 ++ two (.sim (.gap n0 n1 w0)) n1 ++ B := ⟨_, w6, fl, hB2⟩
      generalize (L ++ [d]).map D.str = Ld at *
      simp only [List.map_cons, List.map_nil] at wa e6 g5
      generalize L.map D.str = Lm at *
      generalize recD r = rd at *
      simp only [List.append_assoc, List.cons_append, List.nil_append, List.length_append, List.length_singleton] at wa e6 g5
      simp [turn, bl_law_7, e1, e3, wd', wa, g5, e6]
      exact fin) ⟨[], a17, a20, rfl, w, by simp, fun z => by omega⟩
  rw [List.length_map] at hl hB
  exact ⟨s', o17, o20, A, e, w', by omega, hB (by rw [hR0]; simp)⟩
end
end Law
namespace Law
open PySem Mi
theorem Sim.mono {nm ds : List Str} (h : ∀ n ∈ nm, n ∈ ds) {x : Sim} (hx : x.In nm) : x.In ds := by
  cases x with
  | gap a b w => exact ⟨h _ hx.1, h _ hx.2⟩
  | yrs d q => exact h _ hx
theorem Rec.mono {nm ds : List Str} (h : ∀ n ∈ nm, n ∈ ds) {r : Rec} (hr : r.In nm) : r.In ds := by
  cases r with
  | sim x => exact Sim.mono h hr
  | lot u d k ps => exact ⟨h _ hr.1, fun x hx => h _ (hr.2.1 x hx), hr.2.2⟩
  | one ss => exact ⟨hr.1, fun l hl => ⟨(hr.2 l hl).1, fun x hx => Sim.mono h ((hr.2 l hl).2 x hx)⟩⟩
section
variable {Y : Str → Int} {first last : Int} {deeds : List Str} {s : Store}
theorem chk1_turn (X : D) (hl : deeds.length ≤ 1000) (x : Rec × Bool × Str) (hx : x.1.In deeds) (a0 a1 a2 a3 a4 a5 a6 a7 a8 a9 a10 a11 a12 a13 a14 a15 a17 a19 a20 a21 a22 a23 a24 : Option D) : ∃ s', turn (gT 4 (gsC (gN 20) (gsC (gN 21) (gsC (gN 17) (gsC (gN 22) (gsN)))))) bl_law_5 (askD Y x) [a0, a1, a2, a3, a4, a5, a6, a7, a8, a9, a10, a11, a12, a13, a14, a15, some (bookD first last deeds X), a17, some (datD Y deeds), a19, a20, a21, a22, a23, a24] s = .nx [a0, a1, a2, a3, a4, a5, a6, a7, a8, a9, a10, a11, a12, a13, a14, a15, some (bookD first last deeds X), some (.str x.2.2), some (datD Y deeds), a19, some (recD x.1), some (.str (wayS x.2.1)), some (resD (bnd Y x.1 x.2.1 x.2.2)), a23, a24] s' ∧ Ext s s' := by
  obtain ⟨s1, r1, x1⟩ := bound_spec Y first last X hl hx x.2.1 x.2.2 s
  have r2 := same_spec (bnd Y x.1 x.2.1 x.2.2) s1
  refine ⟨s1, ?_, x1⟩
  unfold askD
  have pm : ∀ a b c d e : D, permL [4, 3, 2, 1, 0] [a, b, c, d, e] = [e, d, c, b, a] := fun _ _ _ _ _ => rfl
  generalize recD x.1 = rd at *
  generalize resD (bnd Y x.1 x.2.1 x.2.2) = bd at *
  generalize bookD first last deeds X = B at *
  generalize datD Y deeds = DD at *
  generalize wayS x.2.1 = W at *
  generalize x.2.2 = dd at *
  simp [turn, bl_law_5, eCallKw, pm, r1, r2]
theorem chk1_loop (X : D) (hl : deeds.length ≤ 1000) {A : List (Rec × Bool × Str)} {la : Nat} (g : s[la]? = some (.lst (A.map (askD Y)))) (hA : ∀ x ∈ A, x.1.In deeds) (a0 a1 a2 a3 a4 a5 a6 a7 a8 a9 a10 a11 a12 a13 a14 a15 a17 a19 a20 a21 a22 a23 a24 : Option D) :
    ∃ (s' : Store) (o17 o20 o21 o22 : Option D), forL (fun s2 => s2[la]? = some (Cell.lst (A.map (askD Y)))) (gT 4 (gsC (gN 20) (gsC (gN 21) (gsC (gN 17) (gsC (gN 22) (gsN)))))) bl_law_5 (A.map (askD Y)) [a0, a1, a2, a3, a4, a5, a6, a7, a8, a9, a10, a11, a12, a13, a14, a15, some (bookD first last deeds X), a17, some (datD Y deeds), a19, a20, a21, a22, a23, a24] s = .nx [a0, a1, a2, a3, a4, a5, a6, a7, a8, a9, a10, a11, a12, a13, a14, a15, some (bookD first last deeds X), o17, some (datD Y deeds), a19, o20, o21, o22, a23, a24] s' ∧ Ext s s' := by
  obtain ⟨env', s', e, o17, o20, o21, o22, rfl, x⟩ := forL_atT (gd := fun s2 => s2[la]? = some (Cell.lst (A.map (askD Y)))) (g := (gT 4 (gsC (gN 20) (gsC (gN 21) (gsC (gN 17) (gsC (gN 22) (gsN))))))) (b := bl_law_5) (A.map (askD Y))
    (fun i env s' => ∃ (o17 o20 o21 o22 : Option D), env = [a0, a1, a2, a3, a4, a5, a6, a7, a8, a9, a10, a11, a12, a13, a14, a15, some (bookD first last deeds X), o17, some (datD Y deeds), a19, o20, o21, o22, a23, a24] ∧ Ext s s') (fun _ _ _ ⟨_, _, _, _, _, x⟩ => x.get g)
    (env := [a0, a1, a2, a3, a4, a5, a6, a7, a8, a9, a10, a11, a12, a13, a14, a15, some (bookD first last deeds X), a17, some (datD Y deeds), a19, a20, a21, a22, a23, a24]) (s := s) (fun i d env s1 hd ⟨o17, o20, o21, o22, he, x1⟩ => by
      subst he
      obtain ⟨x, hx, rfl⟩ := map_get hd
      obtain ⟨s2, r2, x2⟩ := chk1_turn (Y := Y) (first := first) (last := last) (s := s1) X hl x (hA x (List.mem_of_getElem? hx)) a0 a1 a2 a3 a4 a5 a6 a7 a8 a9 a10 a11 a12 a13 a14 a15 o17 a19 o20 o21 o22 a23 a24
      rw [r2]
      exact ⟨_, _, _, _, rfl, x1.trans x2⟩) ⟨a17, a20, a21, a22, rfl, Ext.refl s⟩
  exact ⟨s', o17, o20, o21, o22, e, x⟩
theorem chk2_turn (X : D) (hl : deeds.length ≤ 1000) (x : Rec × Bool × Str) (hx : x.1.In deeds) (a0 a1 a2 a3 a4 a5 a6 a7 a8 a9 a10 a11 a12 a13 a14 a15 a16 a17 a19 a20 a21 a22 a24 : Option D) : ∃ s', turn (gT 4 (gsC (gN 20) (gsC (gN 21) (gsC (gN 17) (gsC (gN 22) (gsN)))))) bl_law_4 (askD Y x) [a0, a1, a2, a3, a4, a5, a6, a7, a8, a9, a10, a11, a12, a13, a14, a15, a16, a17, some (datD Y deeds), a19, a20, a21, a22, some (bookD first last deeds X), a24] s = .nx [a0, a1, a2, a3, a4, a5, a6, a7, a8, a9, a10, a11, a12, a13, a14, a15, a16, some (.str x.2.2), some (datD Y deeds), a19, some (recD x.1), some (.str (wayS x.2.1)), some (resD (bnd Y x.1 x.2.1 x.2.2)), some (bookD first last deeds X), a24] s' ∧ Ext s s' := by
  obtain ⟨s1, r1, x1⟩ := bound_spec Y first last X hl hx x.2.1 x.2.2 s
  have r2 := same_spec (bnd Y x.1 x.2.1 x.2.2) s1
  refine ⟨s1, ?_, x1⟩
  unfold askD
  have pm : ∀ a b c d e : D, permL [4, 3, 2, 1, 0] [a, b, c, d, e] = [e, d, c, b, a] := fun _ _ _ _ _ => rfl
  generalize recD x.1 = rd at *
  generalize resD (bnd Y x.1 x.2.1 x.2.2) = bd at *
  generalize bookD first last deeds X = B at *
  generalize datD Y deeds = DD at *
  generalize wayS x.2.1 = W at *
  generalize x.2.2 = dd at *
  simp [turn, bl_law_4, eCallKw, pm, r1, r2]
theorem chk2_loop (X : D) (hl : deeds.length ≤ 1000) {A : List (Rec × Bool × Str)} {la : Nat} (g : s[la]? = some (.lst (A.map (askD Y)))) (hA : ∀ x ∈ A, x.1.In deeds) (a0 a1 a2 a3 a4 a5 a6 a7 a8 a9 a10 a11 a12 a13 a14 a15 a16 a17 a19 a20 a21 a22 a24 : Option D) :
    ∃ (s' : Store) (o17 o20 o21 o22 : Option D), forL (fun s2 => s2[la]? = some (Cell.lst (A.map (askD Y)))) (gT 4 (gsC (gN 20) (gsC (gN 21) (gsC (gN 17) (gsC (gN 22) (gsN)))))) bl_law_4 (A.map (askD Y)) [a0, a1, a2, a3, a4, a5, a6, a7, a8, a9, a10, a11, a12, a13, a14, a15, a16, a17, some (datD Y deeds), a19, a20, a21, a22, some (bookD first last deeds X), a24] s = .nx [a0, a1, a2, a3, a4, a5, a6, a7, a8, a9, a10, a11, a12, a13, a14, a15, a16, o17, some (datD Y deeds), a19, o20, o21, o22, some (bookD first last deeds X), a24] s' ∧ Ext s s' := by
  obtain ⟨env', s', e, o17, o20, o21, o22, rfl, x⟩ := forL_atT (gd := fun s2 => s2[la]? = some (Cell.lst (A.map (askD Y)))) (g := (gT 4 (gsC (gN 20) (gsC (gN 21) (gsC (gN 17) (gsC (gN 22) (gsN))))))) (b := bl_law_4) (A.map (askD Y))
    (fun i env s' => ∃ (o17 o20 o21 o22 : Option D), env = [a0, a1, a2, a3, a4, a5, a6, a7, a8, a9, a10, a11, a12, a13, a14, a15, a16, o17, some (datD Y deeds), a19, o20, o21, o22, some (bookD first last deeds X), a24] ∧ Ext s s') (fun _ _ _ ⟨_, _, _, _, _, x⟩ => x.get g)
    (env := [a0, a1, a2, a3, a4, a5, a6, a7, a8, a9, a10, a11, a12, a13, a14, a15, a16, a17, some (datD Y deeds), a19, a20, a21, a22, some (bookD first last deeds X), a24]) (s := s) (fun i d env s1 hd ⟨o17, o20, o21, o22, he, x1⟩ => by
      subst he
      obtain ⟨x, hx, rfl⟩ := map_get hd
      obtain ⟨s2, r2, x2⟩ := chk2_turn (Y := Y) (first := first) (last := last) (s := s1) X hl x (hA x (List.mem_of_getElem? hx)) a0 a1 a2 a3 a4 a5 a6 a7 a8 a9 a10 a11 a12 a13 a14 a15 a16 o17 a19 o20 o21 o22 a24
      rw [r2]
      exact ⟨_, _, _, _, rfl, x1.trans x2⟩) ⟨a17, a20, a21, a22, rfl, Ext.refl s⟩
  exact ⟨s', o17, o20, o21, o22, e, x⟩
theorem perm_map {α : Type} (f : α → D) (is : List Nat) (xs : List α) : permL is (xs.map f) = (permL is xs).map f := by
  unfold permL
  rw [List.map_filterMap]
  refine congrArg (fun g => List.filterMap g is) (funext fun i => ?_)
  rw [List.getElem?_map]
theorem step_len (a : Int) (n : Nat) : (stepIs (some a) (some 30) (some 3) n).length ≤ 100 := by
  unfold stepIs sliceRange sliceBounds
  simp
  split <;> omega
theorem step_spec {s : Store} {la : Nat} {A : List (Rec × Bool × Str)} (h : s[la]? = some (.lst (A.map (askD Y)))) (a : Int) : ∃ B : List (Rec × Bool × Str), dStep (.loc la) (some a) (some 30) (some 3) s = some (.loc s.length, s ++ [.lst (B.map (askD Y))]) ∧ ∀ x ∈ B, x ∈ A := by
  refine ⟨permL (stepIs (some a) (some 30) (some 3) (A.map (askD Y)).length) A, ?_, fun x hx => mem_perm hx⟩
  have e : lstOf s (.loc la) = some (A.map (askD Y)) := by simp [lstOf, h]
  have hz : (permL (stepIs (some a) (some 30) (some 3) (A.map (askD Y)).length) (A.map (askD Y))).length ≤ sizeLine := le_line (Nat.le_trans (perm_length _ _) (Nat.le_trans (step_len _ _) (by omega)))
  unfold dStep
  rw [e, Option.bind_some, if_pos ⟨by simp, hz⟩, perm_map]
end
end Law
namespace Law
open PySem Mi
noncomputable def b_C : MS := (sSeq (sSet 15 (eFn dTuple (aCons (eFn dSorted (aCons (eV 7) (aNil))) (aNil))))
  (sSeq (sSet 16 (eTup (aCons (eV 4) (aCons (eV 5) (aCons (eV 15) (aCons (eFn dTuple (aCons (eV 14) (aNil))) (aNil)))))))
  (sSeq (sSet 18 (eFn dTuple (aCons (eLc (iSeq (eV 15)) [17] (gN 17) (tT) (le_law_8)) (aNil))))
  (sSeq (sSet 19 (eLst (aNil)))
  (sSeq (sFor (iSeq (eV 10)) (gN 20) (bl_law_7))
  (sSeq (sFor (iSeq (eV 19)) (gT 4 (gsC (gN 20) (gsC (gN 21) (gsC (gN 17) (gsC (gN 22) (gsN)))))) (bl_law_5))
  (sSeq (sSet 23 (eTup (aCons (eV 4) (aCons (eV 5) (aCons (eV 15) (aCons (eTup (aNil)) (aNil)))))))
  (sSeq (sFor (iSeq (eStep (eV 19) (oSome (eCall m_d_law_draw (aCons (eV 1) (aCons (eC (.int 5)) (aNil))))) (oSome (eC (.int 30))) (oSome (eC (.int 3))))) (gT 4 (gsC (gN 20) (gsC (gN 21) (gsC (gN 17) (gsC (gN 22) (gsN)))))) (bl_law_4))
  (sSeq (sSet 24 (eLc (iSeq (eV 19)) [6] (gN 6) (tT) (le_law_3)))
  (sRet (eAnd (e2 dGe (eFn dLen (aCons (eLc (iSeq (eV 24)) [22] (gN 22) (lt_law_1) (le_law_2)) (aNil))) (eC (.int 2))) (e2 dIn (eC .non) (eV 24)))))))))))))
noncomputable def b_B : MS := (sSeq (sSet 10 (eLst (aCons (eTup (aCons (eC (.str "gap")) (aCons (e2 dIxZ (eV 7) (eC (.int 0))) (aCons (e2 dIxZ (eV 7) (eC (.int 1))) (aCons (eCall m_d_law_integer (aCons (eV 1) (aCons (eV 9) (aNil)))) (aNil)))))) (aNil))))
  (sSeq (sExpr (eMt "list" dAppend (eV 10) (aCons (eTup (aCons (eC (.str "years")) (aCons (e2 dIxZ (eV 7) (eC (.int 1))) (aCons (eCall m_d_law_dates (aCons (eV 1) (aCons (eV 4) (aNil)))) (aNil))))) (aNil))))
  (sSeq (sFor (iSeq (eTup (aCons (eC (.str "under")) (aCons (eC (.str "over")) (aCons (eC (.str "under")) (aCons (eC (.str "over")) (aCons (eC (.str "under")) (aCons (eC (.str "over")) (aNil))))))))) (gN 11) (bl_law_12))
  (sSeq (sExpr (eMt "list" dAppend (eV 10) (aCons (eCall m_d_law_free (aCons (eV 1) (aCons (eV 7) (aCons (eV 8) (aCons (eV 4) (aNil)))))) (aNil))))
  (sSeq (sExpr (eMt "list" dAppend (eV 10) (aCons (eCall m_d_law_simple (aCons (eV 1) (aCons (eV 7) (aCons (eV 8) (aCons (eV 4) (aNil)))))) (aNil))))
  (sSeq (sSet 12 (e2 dIxZ (eTup (aCons (eC (.str "under")) (aCons (eC (.str "over")) (aCons (eC (.str "one")) (aNil))))) (eCall m_d_law_draw (aCons (eV 1) (aCons (eC (.int 3)) (aNil))))))
  (sSeq (sSet 14 (eLc (iRange1 (aCons (eFn dLen (aCons (eV 10) (aNil))) (aNil))) [13] (gN 13) (lt_law_10) (le_law_11)))
  (sSeq (sIf (tTru (eV 2)) (sSeq (sFor (iRange1 (aCons (e2 dSub (eC (.int 120)) (eFn dLen (aCons (eV 14) (aNil)))) (aNil))) (gN 13) (bl_law_9))
  (sExpr (eMt "list" dAppend (eV 10) (aCons (e2 dIxZ (e2 dIxZ (eV 14) (e1 dNeg (eC (.int 1)))) (eC (.int 1))) (aNil))))) (sNil))
  b_C))))))))
noncomputable def b_A : MS := (sSeq (sAsg (gT 2 (gsC (gN 4) (gsC (gN 5) (gsN)))) (eCall m_d_law_frame (aCons (eV 1) (aNil))))
  (sSeq (sSet 6 (eCall m_d_law_years (aCons (eV 1) (aCons (eV 4) (aCons (eV 5) (aCons (eV 3) (aNil)))))))
  (sSeq (sSet 7 (eCall m_d_law_names (aCons (eV 1) (aCons (eV 3) (aNil)))))
  (sSeq (sSet 8 (eFn dDictZip (aCons (eV 7) (aCons (eV 6) (aNil)))))
  (sSeq (sSet 9 (e2 dSub (e2 dIxZ (eV 8) (e2 dIxZ (eV 7) (eC (.int 1)))) (e2 dIxZ (eV 8) (e2 dIxZ (eV 7) (eC (.int 0))))))
  b_B)))))
theorem b_law_eq : b_law = sSeq (sSet 1 (eCall m_d_law_pool (aCons (eV 0) (aNil))))
  (sSeq (sSet 2 (e2 dEq (eCall m_d_law_draw (aCons (eV 1) (aCons (eC (.int 7)) (aNil)))) (eC (.int 3))))
  (sSeq (sSet 3 (e2 dAdd (eC (.int 2)) (eCall m_d_law_draw (aCons (eV 1) (aCons (eC (.int 6)) (aNil))))))
  (sSeq (sIf (tTru (eV 2)) (sSet 3 (eC (.int 40))) (sNil))
  b_A))) := rfl
section
variable {P : RS → Prop} {e : ME D} {g : D → Sl → Option Sl} {r : MS} {ev env2 : Sl} {s s' : Store} {d : D}
theorem st_asg (h : e ev s = .ok d s') (h2 : g d ev = some env2) (k : P (r env2 s')) : P (sSeq (sAsg g e) r ev s) := by
  show P (RS.bind ((e ev s).then ev fun d s => match g d ev with | some env' => .nx env' s | none => .no) r)
  rw [h]
  show P (RS.bind (match g d ev with | some env' => .nx env' s' | none => .no) r)
  rw [h2]
  exact k
end
theorem fm_res : ∀ L : List (Option Int), (L.filterMap fun o => match o with | none => none | some i => some (D.int i)) = (L.filterMap id).map D.int
  | [] => rfl
  | none :: L => by simpa using fm_res L
  | some a :: L => by simpa using fm_res L
theorem in_non {L : List (Option Int)} (h : none ∈ L) {l : Nat} {s : Store} (g : s[l]? = some (.lst (L.map resD))) : dIn .non (.loc l) s = some (.bl true, s) := by
  have fl : (L.map resD).all flatD = true := by
    rw [List.all_map, List.all_eq_true]
    intro o _
    cases o <;> rfl
  have an : ((L.map resD).any fun z => eqD z .non) = true := by
    rw [List.any_map, List.any_eq_true]
    exact ⟨none, h, rfl⟩
  have e : inFlat .non (L.map resD) = some true := by
    unfold inFlat
    rw [if_pos ⟨rfl, fl⟩, an]
  exact dIn_of (by simp [dInB, dicOf, dctOf, seqOf, lstOf, g, e])
theorem end_spec {L : List (Option Int)} {a b : Int} {M : List (Option Int)} (hL : L = some a :: none :: none :: some b :: M) (hz : L.length ≤ 5000) {ld : Nat} {s : Store} (g : s[ld]? = some (.lst (L.map resD))) (a0 a1 a2 a3 a4 a5 a6 a7 a8 a9 a10 a11 a12 a13 a14 a15 a16 a17 a18 a19 a20 a21 a22 a23 : Option D) :
    ∃ s', (eAnd (e2 dGe (eFn dLen (aCons (eLc (iSeq (eV 24)) [22] (gN 22) (lt_law_1) (le_law_2)) (aNil))) (eC (.int 2))) (e2 dIn (eC .non) (eV 24))) [a0, a1, a2, a3, a4, a5, a6, a7, a8, a9, a10, a11, a12, a13, a14, a15, a16, a17, a18, a19, a20, a21, a22, a23, some (.loc ld)] s = .ok (.bl true) s' := by
  have e := lcL_fm (gd := fun s2 => s2[ld]? = some (Cell.lst (L.map resD))) (g := gN 22) (t := lt_law_1) (e := le_law_2) (env := [a0, a1, a2, a3, a4, a5, a6, a7, a8, a9, a10, a11, a12, a13, a14, a15, a16, a17, a18, a19, a20, a21, none, a23, some (.loc ld)]) (s := s) g resD (fun o => match o with | none => none | some i => some (D.int i)) L [] (fun o _ => by
    cases o <;> simp [lt_law_1, le_law_2, pick, resD]) (by simp; omega)
  rw [fm_res, List.nil_append] at e
  have x1 := Ext.mk s [Cell.lst ((L.filterMap id).map D.int)]
  have wl := dLen_loc (get_new s (.lst ((L.filterMap id).map D.int)))
  rw [List.length_map] at wl
  have h2 : 2 ≤ (L.filterMap id).length := by rw [hL]; simp
  have wi := in_non (L := L) (by rw [hL]; simp) (x1.get g)
  have h2' : (2 : Int) ≤ ((L.filterMap id).length : Int) := by omega
  generalize (L.filterMap id).length = n at *
  generalize (L.filterMap id).map D.int = Q at *
  generalize L.map resD = LL at *
  refine ⟨s ++ [.lst Q], ?_⟩
  simp [g, e, wl, h2, h2', wi]
theorem bnd_four (Y : Str → Int) {n0 n1 : Str} (h : n0 ≠ n1) (w : Int) : ∃ a b, bnd Y (.sim (.gap n0 n1 w)) true n0 = some a ∧ bnd Y (.sim (.gap n0 n1 w)) false n0 = none ∧ bnd Y (.sim (.gap n0 n1 w)) true n1 = none ∧ bnd Y (.sim (.gap n0 n1 w)) false n1 = some b := by
  obtain ⟨a, ha, _⟩ := kth_fold Y true (ps := [(n1, w)]) (k := 1) (by omega) (by simp)
  obtain ⟨b, hb, _⟩ := kth_fold Y false (ps := [(n0, w)]) (k := 1) (by omega) (by simp)
  exact ⟨a, b, by simp [bnd, bp, ha], by simp [bnd, bp, Ne.symm h], by simp [bnd, bp, h], by simp [bnd, bp, hb]⟩
section
variable {c p ln ly lr lt : Nat} {Y : Str → Int} {nm : List Str} {R : List Rec} {s : Store} {first last : Int}
theorem C_true (w2 : W2 c p ln ly lr Y nm R s) (hR : R.length ≤ 100) {n0 n1 : Str} {w0 : Int} {R' : List Rec} (hR0 : R = .sim (.gap n0 n1 w0) :: R') (hne : n0 ≠ n1) {T : List D} (gt : s[lt]? = some (.lst T)) (hT : T.length ≤ 1000) (a0 a2 a6 a9 a11 a12 a13 a15 a16 a17 a18 a19 a20 a21 a22 a23 a24 : Option D) :
    Yes (b_C [a0, some (.loc p), a2, some (.int nm.length), some (.int first), some (.int last), a6, some (.loc ln), some (.loc ly), a9, some (.loc lr), a11, a12, a13, some (.loc lt), a15, a16, a17, a18, a19, a20, a21, a22, a23, a24] s) := by
  unfold b_C
  obtain ⟨so, M, hM, lM, pM⟩ := sort_strs nm
  have lo := w2.w.hN.lo
  have hi := w2.w.hN.hi
  have x1 := Ext.mk s [Cell.lst (M.map D.str)]
  have ws : dSorted [.loc ln] s = some (.loc s.length, s ++ [.lst (M.map D.str)]) := by
    have : seqOf s (.loc ln) = some (nm.map D.str) := by simp [seqOf, lstOf, w2.w.gn]
    simp only [dSorted, this, Option.bind_some, so, if_true, hM]
  have wt := dTuple_loc (get_new s (.lst (M.map D.str)))
  have w21 := w2.ext x1
  have gt1 := x1.get gt
  obtain ⟨s1, hs1⟩ : ∃ s1, s1 = s ++ [Cell.lst (M.map D.str)] := ⟨_, rfl⟩
  rw [← hs1] at ws wt w21 gt1
  refine st_set (d := .tup (M.map D.str)) (s' := s1) (by generalize M.map D.str = dm at *; simp [ws, wt]) ?_
  simp only [List.set_cons_succ, List.set_cons_zero]
  have wt2 := dTuple_loc gt1
  refine st_set (d := bookD first last M (.tup T)) (s' := s1) (by unfold bookD; generalize M.map D.str = dm at *; simp [wt2]) ?_
  simp only [List.set_cons_succ, List.set_cons_zero]
  have mm : ∀ n, n ∈ M ↔ n ∈ nm := fun n => pM.mem_iff
  have e3 := lcL_map (gd := always) (g := gN 17) (t := tT) (e := le_law_8) (env := [a0, some (.loc p), a2, some (.int nm.length), some (.int first), some (.int last), a6, some (.loc ln), some (.loc ly), a9, some (.loc lr), a11, a12, a13, some (.loc lt), some (.tup (M.map D.str)), some (bookD first last M (.tup T)), none, a18, a19, a20, a21, a22, a23, a24]) (s := s1) trivial D.str (fun n => D.int (Y n)) M (fun n hn => by
    have := w21.w.look ((mm n).mp hn)
    simp [le_law_8, pick, this]) (by omega)
  have x2 := Ext.mk s1 [Cell.lst (M.map fun n => D.int (Y n))]
  have wt3 := dTuple_loc (get_new s1 (.lst (M.map fun n => D.int (Y n))))
  have w22 := w21.ext x2
  obtain ⟨s2, hs2⟩ : ∃ s2, s2 = s1 ++ [Cell.lst (M.map fun n => D.int (Y n))] := ⟨_, rfl⟩
  rw [← hs2] at wt3 w22
  refine st_set (d := datD Y M) (s' := s2) (by unfold datD; generalize (M.map fun n => D.int (Y n)) = dy at *; generalize bookD first last M (.tup T) = BB at *; generalize M.map D.str = dm at *; simp [e3, ← hs2, wt3]) ?_
  simp only [List.set_cons_succ, List.set_cons_zero]
  have x3 := Ext.mk s2 [Cell.lst (([] : List (Rec × Bool × Str)).map (askD Y))]
  have w23 := w22.ext x3
  have ga := get_new s2 (.lst (([] : List (Rec × Bool × Str)).map (askD Y)))
  have la_ne : s2.length ≠ p ∧ s2.length ≠ c := w22.w.new.1
  have w3 : W3 c p ln ly lr s2.length Y nm R [] (s2 ++ [Cell.lst (([] : List (Rec × Bool × Str)).map (askD Y))]) := ⟨w23, ga, la_ne, w22.w.new.2.1, w22.w.new.2.2, Nat.ne_of_lt (lt_of_get w22.gr), fun x hx => by simp at hx⟩
  refine st_set (d := .loc s2.length) (s' := s2 ++ [Cell.lst (([] : List (Rec × Bool × Str)).map (askD Y))]) (by simp) ?_
  simp only [List.set_cons_succ, List.set_cons_zero]
  generalize s2 ++ [Cell.lst (([] : List (Rec × Bool × Str)).map (askD Y))] = s3 at *
  generalize s2.length = la at *
  obtain ⟨s4, o17, o20, A, e4, w4, hA, B, hB⟩ := ask_loop w3 hR hR0 a0 a2 (some (.int first)) (some (.int last)) a6 a9 a11 a12 a13 (some (.loc lt)) (some (.tup (M.map D.str))) (some (bookD first last M (.tup T))) a17 (some (datD Y M)) a20 a21 a22 a23 a24
  refine st_for (x := Itm.mk (R.map recD) (fun s2 => s2[lr]? = some (Cell.lst (R.map recD)))) (s' := s3) ?_ e4 ?_
  · have := w3.h.gr
    generalize R.map recD = Rm at *
    simp [this]
  have inM : ∀ x ∈ A, x.1.In M := fun x hx => Rec.mono (fun n hn => (mm n).mpr hn) (w4.hA x hx)
  obtain ⟨s5, p17, p20, p21, p22, e5, x5⟩ := chk1_loop (Y := Y) (first := first) (last := last) (.tup T) (by omega : M.length ≤ 1000) w4.ga inM a0 (some (.loc p)) a2 (some (.int nm.length)) (some (.int first)) (some (.int last)) a6 (some (.loc ln)) (some (.loc ly)) a9 (some (.loc lr)) a11 a12 a13 (some (.loc lt)) (some (.tup (M.map D.str))) (o17) (some (.loc la)) (o20) a21 a22 a23 a24
  refine st_for (x := Itm.mk (A.map (askD Y)) (fun s2 => s2[la]? = some (Cell.lst (A.map (askD Y))))) (s' := s4) ?_ e5 ?_
  · have := w4.ga
    generalize A.map (askD Y) = Am at *
    simp [this]
  have w5 := w4.ext x5
  refine st_set (d := bookD first last M (.tup [])) (s' := s5) (by unfold bookD; generalize M.map D.str = dm at *; simp) ?_
  simp only [List.set_cons_succ, List.set_cons_zero]
  obtain ⟨k, s6, e6, k0, k1, p6, kp6⟩ := draw_spec w5.h.w.hp (many := 5) (by omega) (by omega)
  have w6 := w5.kpp p6 kp6
  obtain ⟨B2, e7, hB2⟩ := step_spec w6.ga k
  have x7 := Ext.mk s6 [Cell.lst (B2.map (askD Y))]
  have w7 := w6.ext x7
  have g7 := get_new s6 (.lst (B2.map (askD Y)))
  obtain ⟨s8, q17, q20, q21, q22, e8, x8⟩ := chk2_loop (Y := Y) (first := first) (last := last) (.tup []) (by omega : M.length ≤ 1000) g7 (fun x hx => inM x (hB2 x hx)) a0 (some (.loc p)) a2 (some (.int nm.length)) (some (.int first)) (some (.int last)) a6 (some (.loc ln)) (some (.loc ly)) a9 (some (.loc lr)) a11 a12 a13 (some (.loc lt)) (some (.tup (M.map D.str))) (some (bookD first last M (.tup T))) (p17) (some (.loc la)) (p20) (p21) (p22) a24
  refine st_for (x := Itm.mk (B2.map (askD Y)) (fun s2 => s2[s6.length]? = some (Cell.lst (B2.map (askD Y))))) (s' := s6 ++ [Cell.lst (B2.map (askD Y))]) ?_ e8 ?_
  · generalize B2.map (askD Y) = Bm at *
    generalize bookD first last M (.tup []) = BB at *
    generalize bookD first last M (.tup T) = BB2 at *
    generalize datD Y M = DD at *
    simp [eStep, e6, e7, g7]
  have w8 := w7.ext x8
  obtain ⟨L, hL⟩ : ∃ L, L = A.map fun x => bnd Y x.1 x.2.1 x.2.2 := ⟨_, rfl⟩
  have e9 := lcL_map (gd := fun s2 => s2[la]? = some (Cell.lst (A.map (askD Y)))) (g := gN 6) (t := tT) (e := le_law_3) (env := [a0, some (.loc p), a2, some (.int nm.length), some (.int first), some (.int last), none, some (.loc ln), some (.loc ly), a9, some (.loc lr), a11, a12, a13, some (.loc lt), some (.tup (M.map D.str)), some (bookD first last M (.tup T)), q17, some (datD Y M), some (.loc la), q20, q21, q22, some (bookD first last M (.tup [])), a24]) (s := s8) w8.ga (askD Y) (fun x => resD (bnd Y x.1 x.2.1 x.2.2)) A (fun x _ => by
    have z : ∀ s, dIxZ (askD Y x) (.int 3) s = some (resD (bnd Y x.1 x.2.1 x.2.2), s) := fun s => zx3 _ _ _ _ _ _
    generalize askD Y x = ax at *
    simp [le_law_3, pick, z]) (by omega)
  have eL : (A.map fun x => resD (bnd Y x.1 x.2.1 x.2.2)) = L.map resD := by rw [hL, List.map_map]; rfl
  rw [eL] at e9
  refine st_set (d := .loc s8.length) (s' := s8 ++ [.lst (L.map resD)]) (by
    have := w8.ga
    generalize A.map (askD Y) = Am at *
    generalize L.map resD = Lm at *
    generalize bookD first last M (.tup []) = BB at *
    generalize bookD first last M (.tup T) = BB2 at *
    generalize datD Y M = DD at *
    simp [this, e9]) ?_
  simp only [List.set_cons_succ, List.set_cons_zero]
  obtain ⟨a, b, b1, b2, b3, b4⟩ := bnd_four Y hne w0
  have hL2 : L = some a :: none :: none :: some b :: (B.map fun x => bnd Y x.1 x.2.1 x.2.2) := by
    rw [hL, hB]
    simp [two, b1, b2, b3, b4]
  obtain ⟨s9, e10⟩ := end_spec hL2 (by rw [hL]; simp; omega) (get_new s8 (.lst (L.map resD))) a0 (some (.loc p)) a2 (some (.int nm.length)) (some (.int first)) (some (.int last)) a6 (some (.loc ln)) (some (.loc ly)) a9 (some (.loc lr)) a11 a12 a13 (some (.loc lt)) (some (.tup (M.map D.str))) (some (bookD first last M (.tup T))) (q17) (some (datD Y M)) (some (.loc la)) (q20) (q21) (q22) (some (bookD first last M (.tup [])))
  exact st_ret (d := .bl true) (s' := s9) e10 ⟨s9, rfl⟩
end
end Law
namespace Law
open PySem Mi
section
variable {c p ln ly : Nat} {Y : Str → Int} {nm : List Str} {s : Store} {first last : Int}
theorem B_true (w : WS c p ln ly Y nm s) {n0 n1 : Str} {nr : List Str} (hnm : nm = n0 :: n1 :: nr) (hne : n0 ≠ n1) (lg : Bool) (aimed : Int) (a0 a6 a10 a11 a12 a13 a14 a15 a16 a17 a18 a19 a20 a21 a22 a23 a24 : Option D) : Yes (b_B [a0, some (.loc p), some (.bl lg), some (.int nm.length), some (.int first), some (.int last), a6, some (.loc ln), some (.loc ly), some (.int aimed), a10, a11, a12, a13, a14, a15, a16, a17, a18, a19, a20, a21, a22, a23, a24] s) := by
  unfold b_B
  have z0 : ∀ {s}, WS c p ln ly Y nm s → dIxZ (.loc ln) (.int 0) s = some (.str n0, s) := fun w => by rw [dIxZ_locA, dIxA_loc w.gn, hnm]; simp
  have z1 : ∀ {s}, WS c p ln ly Y nm s → dIxZ (.loc ln) (.int 1) s = some (.str n1, s) := fun w => by rw [dIxZ_locA, dIxA_loc w.gn, hnm]; simp
  have i0 : n0 ∈ nm := by rw [hnm]; simp
  have i1 : n1 ∈ nm := by rw [hnm]; simp
  obtain ⟨w0, s1, e1, p1, k1⟩ := int_spec w.hp aimed
  have w1 := w.kp p1 k1
  obtain ⟨r0, hr0⟩ : ∃ r0 : Rec, r0 = .sim (.gap n0 n1 w0) := ⟨_, rfl⟩
  have x2 := Ext.mk s1 [Cell.lst ([r0].map recD)]
  have w2 := w1.ext [Cell.lst ([r0].map recD)]
  have g2 := get_new s1 (.lst ([r0].map recD))
  have h2 : W2 c p ln ly s1.length Y nm [r0] (s1 ++ [Cell.lst ([r0].map recD)]) := ⟨w2, g2, w1.new.1, w1.new.2.1, w1.new.2.2, fun r hr => by rw [List.mem_singleton.mp hr, hr0]; exact ⟨i0, i1⟩⟩
  refine st_set (d := .loc s1.length) (s' := s1 ++ [Cell.lst ([r0].map recD)]) (by
    have a := z0 w
    have b := z1 w
    have er : recD r0 = .tup [.str "gap", .str n0, .str n1, .int w0] := by rw [hr0]; rfl
    rw [List.map_cons, List.map_nil, er]
    simp [a, b, e1]) ?_
  simp only [List.set_cons_succ, List.set_cons_zero]
  generalize s1 ++ [Cell.lst ([r0].map recD)] = s2 at *
  generalize s1.length = lr at *
  obtain ⟨ds, s3, e3, p3, k3⟩ := dates_spec h2.w.hp first
  have h3 := h2.kpp p3 k3
  obtain ⟨s4, e4, h4, _, _⟩ := h3.add (r := .sim (.yrs n1 ds)) i1 (by simp)
  refine st_expr (d := .non) (s' := s4) (by
    have b := z1 h2.w
    have ty := h2.ty
    simp only [recD, simD] at e4
    simp [b, ty, e3, e4]) ?_
  obtain ⟨s5, R1, o11, e5, h5, hl5⟩ := lots_loop (first := first) h4 (by simp) a0 (some (.bl lg)) (some (.int nm.length)) (some (.int last)) a6 (some (.int aimed)) a11 a12 a13 a14 a15 a16 a17 a18 a19 a20 a21 a22 a23 a24
  refine st_for (x := Itm.mk [.str "under", .str "over", .str "under", .str "over", .str "under", .str "over"] always) (s' := s4) (by simp) e5 ?_
  obtain ⟨r6, s6, e6, hr6, w6, k6⟩ := free_spec h5.w first
  have h6 := h5.kp w6 k6
  obtain ⟨s7, e7, h7, _, _⟩ := h6.add hr6 (by simp [hl5])
  refine st_expr (d := .non) (s' := s7) (by
    have ty := h5.ty
    generalize recD r6 = rd at *
    simp [ty, e6, e7]) ?_
  obtain ⟨x8, s8, e8, hx8, w8, k8⟩ := simple_spec h7.w first
  have h8 := h7.kp w8 k8
  obtain ⟨s9, e9, h9, _, _⟩ := h8.add (r := .sim x8) hx8 (by simp [hl5])
  refine st_expr (d := .non) (s' := s9) (by
    have ty := h7.ty
    simp only [recD] at e9
    generalize simD x8 = rd at *
    simp [ty, e8, e9]) ?_
  obtain ⟨j, s10, e10, j0, j1, p10, k10⟩ := draw_spec h9.w.hp (many := 3) (by omega) (by omega)
  have h10 := h9.kpp p10 k10
  obtain ⟨lo, _, _, wlo⟩ := ix_map (f := D.str) (xs := ["under", "over", "one"]) (i := j) j0 (by simpa using j1)
  refine st_set (d := .str lo) (s' := s10) (by
    have := wlo s10
    have : dIxZ (.tup [.str "under", .str "over", .str "one"]) (.int j) s10 = some (.str lo, s10) := by rw [dIxZ_tup]; exact this
    simp [e10, this]) ?_
  simp only [List.set_cons_succ, List.set_cons_zero]
  obtain ⟨R, hR⟩ : ∃ R, R = [r0] ++ [.sim (.yrs n1 ds)] ++ R1 ++ [r6] ++ [.sim x8] := ⟨_, rfl⟩
  rw [← hR] at h10
  have hRl : R.length = 10 := by rw [hR]; simp [hl5]
  have hR0 : ∃ R', R = .sim (.gap n0 n1 w0) :: R' := ⟨_, by rw [hR, hr0]; simp; rfl⟩
  obtain ⟨R', hR0⟩ := hR0
  clear hR
  obtain ⟨T, e11, hT⟩ := told_spec (first := first) h10 (by omega) lo a0 (some (.bl lg)) (some (.int nm.length)) (some (.int last)) a6 (some (.int aimed)) (o11) a14 a15 a16 a17 a18 a19 a20 a21 a22 a23 a24
  have x12 := Ext.mk s10 [Cell.lst T]
  have h12 := h10.ext x12
  have gt := get_new s10 (.lst T)
  have nlt := h10.w.new
  have nlr : lr ≠ s10.length := Nat.ne_of_lt (lt_of_get h10.gr)
  have wl := dLen_loc h10.gr
  rw [List.length_map, hRl] at wl
  have er := rangeOf_int s10 (10 : Int) (by omega) (by omega)
  rw [hRl] at e11
  refine st_set (d := .loc s10.length) (s' := s10 ++ [Cell.lst T]) (by
    have wl' : dLen [.loc lr] s10 = some (.int 10, s10) := wl
    have er' : rangeOf [.int 10] s10 = .ok (Itm.mk (rng 10) always) s10 := er
    simp [wl', er', e11]) ?_
  simp only [List.set_cons_succ, List.set_cons_zero]
  generalize s10 ++ [Cell.lst T] = s12 at *
  generalize s10.length = lt at *
  have hT10 : T.length ≤ 10 := by omega
  cases lg with
  | false => exact st_no (s' := s12) (by simp) (C_true h12 (by omega) hR0 hne gt (by omega) a0 (some (.bl false)) a6 (some (.int aimed)) (o11) (some (.str lo)) a13 a15 a16 a17 a18 a19 a20 a21 a22 a23 a24)
  | true =>
    obtain ⟨s13, T', x, o13, e13, h13, g13, hT', hx⟩ := ann_loop (first := first) h12 gt (by omega) nlt.1 nlt.2.1 nlt.2.2 nlr (n := 120 - T.length) (by omega) (by omega) a0 (some (.bl true)) (some (.int nm.length)) (some (.int last)) a6 (some (.int aimed)) (o11) (some (.str lo)) a13 a15 a16 a17 a18 a19 a20 a21 a22 a23 a24
    obtain ⟨s14, e14, h14, _, f14⟩ := h13.add (r := .sim x) hx (by omega)
    have g14 : s14[lt]? = some (.lst (T' ++ [annD x])) := by rw [f14 lt (Ne.symm nlr)]; exact g13
    refine st_yes (s' := s12) (env2 := [a0, some (.loc p), some (.bl true), some (.int nm.length), some (.int first), some (.int last), a6, some (.loc ln), some (.loc ly), some (.int aimed), some (.loc lr), o11, some (.str lo), o13, some (.loc lt), a15, a16, a17, a18, a19, a20, a21, a22, a23, a24]) (s2 := s14) (by simp) ?_ (C_true h14 (by simp; omega) (R' := R' ++ [.sim x]) (by rw [hR0]; rfl) hne g14 (by simp; omega) a0 (some (.bl true)) a6 (some (.int aimed)) (o11) (some (.str lo)) (o13) a15 a16 a17 a18 a19 a20 a21 a22 a23 a24)
    have wl2 := dLen_loc gt
    have er2 := rangeOf_int s12 (120 - (T.length : Int)) (by omega) (by omega)
    rw [show (120 - (T.length : Int)).toNat = 120 - T.length by omega] at er2
    have l1 : dIxZ (.loc lt) (.int (-1)) s13 = some (annD x, s13) := by
      rw [dIxZ_locA, dIxA_loc g13, atI_neg1]
      rfl
    have l2 : dIxZ (annD x) (.int 1) s13 = some (simD x, s13) := zx1 _ _ _ _
    have ty := h13.ty
    simp only [recD] at e14
    generalize annD x = ax at *
    generalize simD x = sx at *
    simp [wl2, er2, e13, ty, l1, l2, e14]
theorem A_true (v0 : D) (h : Pool c p s) (lg : Bool) {many : Nat} (m0 : 2 ≤ many) (m1 : many ≤ 40) : Yes (b_A [some v0, some (.loc p), some (.bl lg), some (.int many), none, none, none, none, none, none, none, none, none, none, none, none, none, none, none, none, none, none, none, none, none] s) := by
  unfold b_A
  obtain ⟨first, last, s1, e1, f0, f1, p1, k1⟩ := frame_spec h
  refine st_asg (d := .tup [.int first, .int last]) (s' := s1) (by simp [e1]) rfl ?_
  simp only [List.set_cons_succ, List.set_cons_zero]
  obtain ⟨lw, ys, s2, e2, g2, hys, l2, p2, k2⟩ := years_spec p1 f0 f1 m1
  refine st_set (d := .loc lw) (s' := s2) (by simp [e2]) ?_
  simp only [List.set_cons_succ, List.set_cons_zero]
  obtain ⟨ln, nm, s3, e3, g3, hnl, ⟨n0, n1, nr, hnm, hne⟩, hN, l3, p3, k3⟩ := names_spec p2 m0 m1
  refine st_set (d := .loc ln) (s' := s3) (by simp [e3]) ?_
  simp only [List.set_cons_succ, List.set_cons_zero]
  have nlw : lw ≠ p ∧ lw ≠ c := ⟨Nat.ne_of_gt (Nat.lt_of_lt_of_le p1.lt.1 l2), Nat.ne_of_gt (Nat.lt_of_lt_of_le p1.lt.2 l2)⟩
  have nln : ln ≠ p ∧ ln ≠ c := ⟨Nat.ne_of_gt (Nat.lt_of_lt_of_le p2.lt.1 l3), Nat.ne_of_gt (Nat.lt_of_lt_of_le p2.lt.2 l3)⟩
  have g23 := k3.get g2 nlw.1 nlw.2
  obtain ⟨yd, Y, e4, hY⟩ := zip_spec g3 g23 (by omega)
  have x4 := Ext.mk s3 [Cell.dic yd]
  have w4 : WS c p ln s3.length Y nm (s3 ++ [Cell.dic yd]) := ⟨p3.app _, x4.get g3, nln, hY, ⟨Nat.ne_of_gt p3.lt.1, Nat.ne_of_gt p3.lt.2⟩, hN⟩
  refine st_set (d := .loc s3.length) (s' := s3 ++ [Cell.dic yd]) (by simp [e4]) ?_
  simp only [List.set_cons_succ, List.set_cons_zero]
  generalize s3 ++ [Cell.dic yd] = s4 at *
  generalize s3.length = ly at *
  have z0 : dIxZ (.loc ln) (.int 0) s4 = some (.str n0, s4) := by rw [dIxZ_locA, dIxA_loc w4.gn, hnm]; simp
  have z1 : dIxZ (.loc ln) (.int 1) s4 = some (.str n1, s4) := by rw [dIxZ_locA, dIxA_loc w4.gn, hnm]; simp
  have y0 := w4.look (n := n0) (by rw [hnm]; simp)
  have y1 := w4.look (n := n1) (by rw [hnm]; simp)
  refine st_set (d := .int (Y n1 - Y n0)) (s' := s4) (by simp [z0, z1, y0, y1]) ?_
  simp only [List.set_cons_succ, List.set_cons_zero]
  rw [← hnl]
  exact B_true w4 hnm hne lg (Y n1 - Y n0) (some v0) (some (.loc lw)) none none none none none none none none none none none none none none none
theorem law_true (ns : List Int) (hn : ns.length ≤ 63) : ∃ s, m_law [.fl (ns.map D.int)] [] = .ok (.bl true) s := by
  refine Yes.fn (N := 25) (n := 1) (b := b_law) ?_
  show Yes (b_law [some (.fl (ns.map D.int)), none, none, none, none, none, none, none, none, none, none, none, none, none, none, none, none, none, none, none, none, none, none, none, none] [])
  obtain ⟨c, p, s0, e0, p0⟩ := pool_spec ns hn
  rw [b_law_eq]
  generalize D.fl (ns.map D.int) = v0 at *
  refine st_set (d := .loc p) (s' := s0) (by simp [e0]) ?_
  simp only [List.set_cons_succ, List.set_cons_zero]
  obtain ⟨k, s1, e1, _, _, p1, k1⟩ := draw_spec p0 (many := 7) (by omega) (by omega)
  refine st_set (d := .bl (decide (k = 3))) (s' := s1) (by simp [e1]) ?_
  simp only [List.set_cons_succ, List.set_cons_zero]
  obtain ⟨j, s2, e2, j0, j1, p2, k2⟩ := draw_spec p1 (many := 6) (by omega) (by omega)
  refine st_set (d := .int (2 + j)) (s' := s2) (by simp [e2]) ?_
  simp only [List.set_cons_succ, List.set_cons_zero]
  obtain ⟨jn, rfl⟩ := Int.eq_ofNat_of_zero_le j0
  generalize decide (k = 3) = lg
  cases lg with
  | false =>
    refine st_no (s' := s2) (by simp) ?_
    have := A_true v0 p2 false (many := 2 + jn) (by omega) (by omega)
    rw [show ((2 + jn : Nat) : Int) = 2 + (jn : Int) by omega] at this
    exact this
  | true =>
    have := A_true v0 p2 true (many := 40) (by omega) (by omega)
    exact st_yes (s' := s2) (s2 := s2) (by simp) (by simp) this
end
end Law
namespace Law
open PySem PySem.Spec PyProof.Rows L2 Mi
theorem all_mk {P : Program} {w : World} {K : PySem.W.Frag} {h : Heap} {mg : Str → Option Value} {fa : Addr} (X : K.In h) (G : h.Ns mainGlobals mg) (hfa : mg "law" = some (.ref fa))
  {f_deed_places : Addr} {od_deed_places an_deed_places : Option Addr} {sl_deed_places : Array (Option Value)} {oc_deed_places kV_deed_places dc_deed_places pm_deed_places cd_deed_places ct_deed_places : Value} (a_deed_places : PySem.W.nsIn K mainGlobals "deed_places" = some (some (.ref f_deed_places))) (l_deed_places : K.lookup f_deed_places = some ⟨oc_deed_places, od_deed_places, .func (PySem.W.fnOf "deed_places" "deed_places" (defArgs s_deed_places) (defBody s_deed_places) (defScope s_deed_places) .none kV_deed_places dc_deed_places pm_deed_places an_deed_places cd_deed_places ct_deed_places), sl_deed_places⟩) (c_deed_places : PySem.W.codeIn K cd_deed_places "deed_places" = true) (k_deed_places : PySem.W.keepIn K (.ref f_deed_places) = true)
  {f_bounding_parts : Addr} {od_bounding_parts an_bounding_parts : Option Addr} {sl_bounding_parts : Array (Option Value)} {oc_bounding_parts kV_bounding_parts dc_bounding_parts pm_bounding_parts cd_bounding_parts ct_bounding_parts : Value} (a_bounding_parts : PySem.W.nsIn K mainGlobals "bounding_parts" = some (some (.ref f_bounding_parts))) (l_bounding_parts : K.lookup f_bounding_parts = some ⟨oc_bounding_parts, od_bounding_parts, .func (PySem.W.fnOf "bounding_parts" "bounding_parts" (defArgs s_bounding_parts) (defBody s_bounding_parts) (defScope s_bounding_parts) .none kV_bounding_parts dc_bounding_parts pm_bounding_parts an_bounding_parts cd_bounding_parts ct_bounding_parts), sl_bounding_parts⟩) (c_bounding_parts : PySem.W.codeIn K cd_bounding_parts "bounding_parts" = true) (k_bounding_parts : PySem.W.keepIn K (.ref f_bounding_parts) = true)
  {f_bound_of : Addr} {od_bound_of an_bound_of : Option Addr} {sl_bound_of : Array (Option Value)} {oc_bound_of kV_bound_of dc_bound_of pm_bound_of cd_bound_of ct_bound_of : Value} (a_bound_of : PySem.W.nsIn K mainGlobals "bound_of" = some (some (.ref f_bound_of))) (l_bound_of : K.lookup f_bound_of = some ⟨oc_bound_of, od_bound_of, .func (PySem.W.fnOf "bound_of" "bound_of" (defArgs s_bound_of) (defBody s_bound_of) (defScope s_bound_of) .none kV_bound_of dc_bound_of pm_bound_of an_bound_of cd_bound_of ct_bound_of), sl_bound_of⟩) (c_bound_of : PySem.W.codeIn K cd_bound_of "bound_of" = true) (k_bound_of : PySem.W.keepIn K (.ref f_bound_of) = true)
  {f_d_law_pool : Addr} {od_d_law_pool an_d_law_pool : Option Addr} {sl_d_law_pool : Array (Option Value)} {oc_d_law_pool kV_d_law_pool dc_d_law_pool pm_d_law_pool cd_d_law_pool ct_d_law_pool : Value} (a_d_law_pool : PySem.W.nsIn K mainGlobals "_law_pool" = some (some (.ref f_d_law_pool))) (l_d_law_pool : K.lookup f_d_law_pool = some ⟨oc_d_law_pool, od_d_law_pool, .func (PySem.W.fnOf "_law_pool" "_law_pool" (defArgs s_d_law_pool) (defBody s_d_law_pool) (defScope s_d_law_pool) .none kV_d_law_pool dc_d_law_pool pm_d_law_pool an_d_law_pool cd_d_law_pool ct_d_law_pool), sl_d_law_pool⟩) (c_d_law_pool : PySem.W.codeIn K cd_d_law_pool "_law_pool" = true) (k_d_law_pool : PySem.W.keepIn K (.ref f_d_law_pool) = true)
  {f_d_law_draw : Addr} {od_d_law_draw an_d_law_draw : Option Addr} {sl_d_law_draw : Array (Option Value)} {oc_d_law_draw kV_d_law_draw dc_d_law_draw pm_d_law_draw cd_d_law_draw ct_d_law_draw : Value} (a_d_law_draw : PySem.W.nsIn K mainGlobals "_law_draw" = some (some (.ref f_d_law_draw))) (l_d_law_draw : K.lookup f_d_law_draw = some ⟨oc_d_law_draw, od_d_law_draw, .func (PySem.W.fnOf "_law_draw" "_law_draw" (defArgs s_d_law_draw) (defBody s_d_law_draw) (defScope s_d_law_draw) .none kV_d_law_draw dc_d_law_draw pm_d_law_draw an_d_law_draw cd_d_law_draw ct_d_law_draw), sl_d_law_draw⟩) (c_d_law_draw : PySem.W.codeIn K cd_d_law_draw "_law_draw" = true) (k_d_law_draw : PySem.W.keepIn K (.ref f_d_law_draw) = true)
  {f_d_law_names : Addr} {od_d_law_names an_d_law_names : Option Addr} {sl_d_law_names : Array (Option Value)} {oc_d_law_names kV_d_law_names dc_d_law_names pm_d_law_names cd_d_law_names ct_d_law_names : Value} (a_d_law_names : PySem.W.nsIn K mainGlobals "_law_names" = some (some (.ref f_d_law_names))) (l_d_law_names : K.lookup f_d_law_names = some ⟨oc_d_law_names, od_d_law_names, .func (PySem.W.fnOf "_law_names" "_law_names" (defArgs s_d_law_names) (defBody s_d_law_names) (defScope s_d_law_names) .none kV_d_law_names dc_d_law_names pm_d_law_names an_d_law_names cd_d_law_names ct_d_law_names), sl_d_law_names⟩) (c_d_law_names : PySem.W.codeIn K cd_d_law_names "_law_names" = true) (k_d_law_names : PySem.W.keepIn K (.ref f_d_law_names) = true)
  {f_d_law_frame : Addr} {od_d_law_frame an_d_law_frame : Option Addr} {sl_d_law_frame : Array (Option Value)} {oc_d_law_frame kV_d_law_frame dc_d_law_frame pm_d_law_frame cd_d_law_frame ct_d_law_frame : Value} (a_d_law_frame : PySem.W.nsIn K mainGlobals "_law_frame" = some (some (.ref f_d_law_frame))) (l_d_law_frame : K.lookup f_d_law_frame = some ⟨oc_d_law_frame, od_d_law_frame, .func (PySem.W.fnOf "_law_frame" "_law_frame" (defArgs s_d_law_frame) (defBody s_d_law_frame) (defScope s_d_law_frame) .none kV_d_law_frame dc_d_law_frame pm_d_law_frame an_d_law_frame cd_d_law_frame ct_d_law_frame), sl_d_law_frame⟩) (c_d_law_frame : PySem.W.codeIn K cd_d_law_frame "_law_frame" = true) (k_d_law_frame : PySem.W.keepIn K (.ref f_d_law_frame) = true)
  {f_d_law_years : Addr} {od_d_law_years an_d_law_years : Option Addr} {sl_d_law_years : Array (Option Value)} {oc_d_law_years kV_d_law_years dc_d_law_years pm_d_law_years cd_d_law_years ct_d_law_years : Value} (a_d_law_years : PySem.W.nsIn K mainGlobals "_law_years" = some (some (.ref f_d_law_years))) (l_d_law_years : K.lookup f_d_law_years = some ⟨oc_d_law_years, od_d_law_years, .func (PySem.W.fnOf "_law_years" "_law_years" (defArgs s_d_law_years) (defBody s_d_law_years) (defScope s_d_law_years) .none kV_d_law_years dc_d_law_years pm_d_law_years an_d_law_years cd_d_law_years ct_d_law_years), sl_d_law_years⟩) (c_d_law_years : PySem.W.codeIn K cd_d_law_years "_law_years" = true) (k_d_law_years : PySem.W.keepIn K (.ref f_d_law_years) = true)
  {f_d_law_integer : Addr} {od_d_law_integer an_d_law_integer : Option Addr} {sl_d_law_integer : Array (Option Value)} {oc_d_law_integer kV_d_law_integer dc_d_law_integer pm_d_law_integer cd_d_law_integer ct_d_law_integer : Value} (a_d_law_integer : PySem.W.nsIn K mainGlobals "_law_integer" = some (some (.ref f_d_law_integer))) (l_d_law_integer : K.lookup f_d_law_integer = some ⟨oc_d_law_integer, od_d_law_integer, .func (PySem.W.fnOf "_law_integer" "_law_integer" (defArgs s_d_law_integer) (defBody s_d_law_integer) (defScope s_d_law_integer) .none kV_d_law_integer dc_d_law_integer pm_d_law_integer an_d_law_integer cd_d_law_integer ct_d_law_integer), sl_d_law_integer⟩) (c_d_law_integer : PySem.W.codeIn K cd_d_law_integer "_law_integer" = true) (k_d_law_integer : PySem.W.keepIn K (.ref f_d_law_integer) = true)
  {f_d_law_other : Addr} {od_d_law_other an_d_law_other : Option Addr} {sl_d_law_other : Array (Option Value)} {oc_d_law_other kV_d_law_other dc_d_law_other pm_d_law_other cd_d_law_other ct_d_law_other : Value} (a_d_law_other : PySem.W.nsIn K mainGlobals "_law_other" = some (some (.ref f_d_law_other))) (l_d_law_other : K.lookup f_d_law_other = some ⟨oc_d_law_other, od_d_law_other, .func (PySem.W.fnOf "_law_other" "_law_other" (defArgs s_d_law_other) (defBody s_d_law_other) (defScope s_d_law_other) .none kV_d_law_other dc_d_law_other pm_d_law_other an_d_law_other cd_d_law_other ct_d_law_other), sl_d_law_other⟩) (c_d_law_other : PySem.W.codeIn K cd_d_law_other "_law_other" = true) (k_d_law_other : PySem.W.keepIn K (.ref f_d_law_other) = true)
  {f_d_law_dates : Addr} {od_d_law_dates an_d_law_dates : Option Addr} {sl_d_law_dates : Array (Option Value)} {oc_d_law_dates kV_d_law_dates dc_d_law_dates pm_d_law_dates cd_d_law_dates ct_d_law_dates : Value} (a_d_law_dates : PySem.W.nsIn K mainGlobals "_law_dates" = some (some (.ref f_d_law_dates))) (l_d_law_dates : K.lookup f_d_law_dates = some ⟨oc_d_law_dates, od_d_law_dates, .func (PySem.W.fnOf "_law_dates" "_law_dates" (defArgs s_d_law_dates) (defBody s_d_law_dates) (defScope s_d_law_dates) .none kV_d_law_dates dc_d_law_dates pm_d_law_dates an_d_law_dates cd_d_law_dates ct_d_law_dates), sl_d_law_dates⟩) (c_d_law_dates : PySem.W.codeIn K cd_d_law_dates "_law_dates" = true) (k_d_law_dates : PySem.W.keepIn K (.ref f_d_law_dates) = true)
  {f_d_law_simple : Addr} {od_d_law_simple an_d_law_simple : Option Addr} {sl_d_law_simple : Array (Option Value)} {oc_d_law_simple kV_d_law_simple dc_d_law_simple pm_d_law_simple cd_d_law_simple ct_d_law_simple : Value} (a_d_law_simple : PySem.W.nsIn K mainGlobals "_law_simple" = some (some (.ref f_d_law_simple))) (l_d_law_simple : K.lookup f_d_law_simple = some ⟨oc_d_law_simple, od_d_law_simple, .func (PySem.W.fnOf "_law_simple" "_law_simple" (defArgs s_d_law_simple) (defBody s_d_law_simple) (defScope s_d_law_simple) .none kV_d_law_simple dc_d_law_simple pm_d_law_simple an_d_law_simple cd_d_law_simple ct_d_law_simple), sl_d_law_simple⟩) (c_d_law_simple : PySem.W.codeIn K cd_d_law_simple "_law_simple" = true) (k_d_law_simple : PySem.W.keepIn K (.ref f_d_law_simple) = true)
  {f_d_law_lot : Addr} {od_d_law_lot an_d_law_lot : Option Addr} {sl_d_law_lot : Array (Option Value)} {oc_d_law_lot kV_d_law_lot dc_d_law_lot pm_d_law_lot cd_d_law_lot ct_d_law_lot : Value} (a_d_law_lot : PySem.W.nsIn K mainGlobals "_law_lot" = some (some (.ref f_d_law_lot))) (l_d_law_lot : K.lookup f_d_law_lot = some ⟨oc_d_law_lot, od_d_law_lot, .func (PySem.W.fnOf "_law_lot" "_law_lot" (defArgs s_d_law_lot) (defBody s_d_law_lot) (defScope s_d_law_lot) .none kV_d_law_lot dc_d_law_lot pm_d_law_lot an_d_law_lot cd_d_law_lot ct_d_law_lot), sl_d_law_lot⟩) (c_d_law_lot : PySem.W.codeIn K cd_d_law_lot "_law_lot" = true) (k_d_law_lot : PySem.W.keepIn K (.ref f_d_law_lot) = true)
  {f_d_law_free : Addr} {od_d_law_free an_d_law_free : Option Addr} {sl_d_law_free : Array (Option Value)} {oc_d_law_free kV_d_law_free dc_d_law_free pm_d_law_free cd_d_law_free ct_d_law_free : Value} (a_d_law_free : PySem.W.nsIn K mainGlobals "_law_free" = some (some (.ref f_d_law_free))) (l_d_law_free : K.lookup f_d_law_free = some ⟨oc_d_law_free, od_d_law_free, .func (PySem.W.fnOf "_law_free" "_law_free" (defArgs s_d_law_free) (defBody s_d_law_free) (defScope s_d_law_free) .none kV_d_law_free dc_d_law_free pm_d_law_free an_d_law_free cd_d_law_free ct_d_law_free), sl_d_law_free⟩) (c_d_law_free : PySem.W.codeIn K cd_d_law_free "_law_free" = true) (k_d_law_free : PySem.W.keepIn K (.ref f_d_law_free) = true)
  {f_d_law_parts : Addr} {od_d_law_parts an_d_law_parts : Option Addr} {sl_d_law_parts : Array (Option Value)} {oc_d_law_parts kV_d_law_parts dc_d_law_parts pm_d_law_parts cd_d_law_parts ct_d_law_parts : Value} (a_d_law_parts : PySem.W.nsIn K mainGlobals "_law_parts" = some (some (.ref f_d_law_parts))) (l_d_law_parts : K.lookup f_d_law_parts = some ⟨oc_d_law_parts, od_d_law_parts, .func (PySem.W.fnOf "_law_parts" "_law_parts" (defArgs s_d_law_parts) (defBody s_d_law_parts) (defScope s_d_law_parts) .none kV_d_law_parts dc_d_law_parts pm_d_law_parts an_d_law_parts cd_d_law_parts ct_d_law_parts), sl_d_law_parts⟩) (c_d_law_parts : PySem.W.codeIn K cd_d_law_parts "_law_parts" = true) (k_d_law_parts : PySem.W.keepIn K (.ref f_d_law_parts) = true)
  {f_d_law_bound : Addr} {od_d_law_bound an_d_law_bound : Option Addr} {sl_d_law_bound : Array (Option Value)} {oc_d_law_bound kV_d_law_bound dc_d_law_bound pm_d_law_bound cd_d_law_bound ct_d_law_bound : Value} (a_d_law_bound : PySem.W.nsIn K mainGlobals "_law_bound" = some (some (.ref f_d_law_bound))) (l_d_law_bound : K.lookup f_d_law_bound = some ⟨oc_d_law_bound, od_d_law_bound, .func (PySem.W.fnOf "_law_bound" "_law_bound" (defArgs s_d_law_bound) (defBody s_d_law_bound) (defScope s_d_law_bound) .none kV_d_law_bound dc_d_law_bound pm_d_law_bound an_d_law_bound cd_d_law_bound ct_d_law_bound), sl_d_law_bound⟩) (c_d_law_bound : PySem.W.codeIn K cd_d_law_bound "_law_bound" = true) (k_d_law_bound : PySem.W.keepIn K (.ref f_d_law_bound) = true)
  {f_d_law_named : Addr} {od_d_law_named an_d_law_named : Option Addr} {sl_d_law_named : Array (Option Value)} {oc_d_law_named kV_d_law_named dc_d_law_named pm_d_law_named cd_d_law_named ct_d_law_named : Value} (a_d_law_named : PySem.W.nsIn K mainGlobals "_law_named" = some (some (.ref f_d_law_named))) (l_d_law_named : K.lookup f_d_law_named = some ⟨oc_d_law_named, od_d_law_named, .func (PySem.W.fnOf "_law_named" "_law_named" (defArgs s_d_law_named) (defBody s_d_law_named) (defScope s_d_law_named) .none kV_d_law_named dc_d_law_named pm_d_law_named an_d_law_named cd_d_law_named ct_d_law_named), sl_d_law_named⟩) (c_d_law_named : PySem.W.codeIn K cd_d_law_named "_law_named" = true) (k_d_law_named : PySem.W.keepIn K (.ref f_d_law_named) = true)
  {f_d_law_same : Addr} {od_d_law_same an_d_law_same : Option Addr} {sl_d_law_same : Array (Option Value)} {oc_d_law_same kV_d_law_same dc_d_law_same pm_d_law_same cd_d_law_same ct_d_law_same : Value} (a_d_law_same : PySem.W.nsIn K mainGlobals "_law_same" = some (some (.ref f_d_law_same))) (l_d_law_same : K.lookup f_d_law_same = some ⟨oc_d_law_same, od_d_law_same, .func (PySem.W.fnOf "_law_same" "_law_same" (defArgs s_d_law_same) (defBody s_d_law_same) (defScope s_d_law_same) .none kV_d_law_same dc_d_law_same pm_d_law_same an_d_law_same cd_d_law_same ct_d_law_same), sl_d_law_same⟩) (c_d_law_same : PySem.W.codeIn K cd_d_law_same "_law_same" = true) (k_d_law_same : PySem.W.keepIn K (.ref f_d_law_same) = true)
  {f_law : Addr} {od_law an_law : Option Addr} {sl_law : Array (Option Value)} {oc_law kV_law dc_law pm_law cd_law ct_law : Value} (a_law : PySem.W.nsIn K mainGlobals "law" = some (some (.ref f_law))) (l_law : K.lookup f_law = some ⟨oc_law, od_law, .func (PySem.W.fnOf "law" "law" (defArgs s_law) (defBody s_law) (defScope s_law) .none kV_law dc_law pm_law an_law cd_law ct_law), sl_law⟩) (c_law : PySem.W.codeIn K cd_law "law" = true) (k_law : PySem.W.keepIn K (.ref f_law) = true)
  (z_bool : PySem.W.nsIn K mainGlobals "bool" = some none)
  (z_dict : PySem.W.nsIn K mainGlobals "dict" = some none)
  (z_enumerate : PySem.W.nsIn K mainGlobals "enumerate" = some none)
  (z_int : PySem.W.nsIn K mainGlobals "int" = some none)
  (z_isinstance : PySem.W.nsIn K mainGlobals "isinstance" = some none)
  (z_len : PySem.W.nsIn K mainGlobals "len" = some none)
  (z_list : PySem.W.nsIn K mainGlobals "list" = some none)
  (z_max : PySem.W.nsIn K mainGlobals "max" = some none)
  (z_min : PySem.W.nsIn K mainGlobals "min" = some none)
  (z_range : PySem.W.nsIn K mainGlobals "range" = some none)
  (z_sorted : PySem.W.nsIn K mainGlobals "sorted" = some none)
  (z_str : PySem.W.nsIn K mainGlobals "str" = some none)
  (z_tuple : PySem.W.nsIn K mainGlobals "tuple" = some none)
  (z_zip : PySem.W.nsIn K mainGlobals "zip" = some none) :
  ∃ fd : FuncData, (∀ (s : Shared) (v : Value), BindsTo s fd ⟨[v], []⟩ [("script", v)]) ∧ ∀ base : Heap, K.In base → base.Ns mainGlobals mg → FnOk P w K mg base (L2.CX P w) 5 fa fd ["script"] (spLaw K) := by
  cases hfa.symm.trans (PySem.W.mg_of X G a_law)
  have Z : ∃ Z : Fx K mg, Z.a_law = fa ∧ Z.d_law = PySem.W.fnOf "law" "law" (defArgs s_law) (defBody s_law) (defScope s_law) .none kV_law dc_law pm_law an_law cd_law ct_law := ⟨{
    a_deed_places := f_deed_places, d_deed_places := _, F_deed_places := fun_mk (st := s_deed_places) l_deed_places c_deed_places k_deed_places, g_deed_places := PySem.W.mg_of X G a_deed_places,
    a_bounding_parts := f_bounding_parts, d_bounding_parts := _, F_bounding_parts := fun_mk (st := s_bounding_parts) l_bounding_parts c_bounding_parts k_bounding_parts, g_bounding_parts := PySem.W.mg_of X G a_bounding_parts,
    a_bound_of := f_bound_of, d_bound_of := _, F_bound_of := fun_mk (st := s_bound_of) l_bound_of c_bound_of k_bound_of, g_bound_of := PySem.W.mg_of X G a_bound_of,
    a_d_law_pool := f_d_law_pool, d_d_law_pool := _, F_d_law_pool := fun_mk (st := s_d_law_pool) l_d_law_pool c_d_law_pool k_d_law_pool, g_d_law_pool := PySem.W.mg_of X G a_d_law_pool,
    a_d_law_draw := f_d_law_draw, d_d_law_draw := _, F_d_law_draw := fun_mk (st := s_d_law_draw) l_d_law_draw c_d_law_draw k_d_law_draw, g_d_law_draw := PySem.W.mg_of X G a_d_law_draw,
    a_d_law_names := f_d_law_names, d_d_law_names := _, F_d_law_names := fun_mk (st := s_d_law_names) l_d_law_names c_d_law_names k_d_law_names, g_d_law_names := PySem.W.mg_of X G a_d_law_names,
    a_d_law_frame := f_d_law_frame, d_d_law_frame := _, F_d_law_frame := fun_mk (st := s_d_law_frame) l_d_law_frame c_d_law_frame k_d_law_frame, g_d_law_frame := PySem.W.mg_of X G a_d_law_frame,
    a_d_law_years := f_d_law_years, d_d_law_years := _, F_d_law_years := fun_mk (st := s_d_law_years) l_d_law_years c_d_law_years k_d_law_years, g_d_law_years := PySem.W.mg_of X G a_d_law_years,
    a_d_law_integer := f_d_law_integer, d_d_law_integer := _, F_d_law_integer := fun_mk (st := s_d_law_integer) l_d_law_integer c_d_law_integer k_d_law_integer, g_d_law_integer := PySem.W.mg_of X G a_d_law_integer,
    a_d_law_other := f_d_law_other, d_d_law_other := _, F_d_law_other := fun_mk (st := s_d_law_other) l_d_law_other c_d_law_other k_d_law_other, g_d_law_other := PySem.W.mg_of X G a_d_law_other,
    a_d_law_dates := f_d_law_dates, d_d_law_dates := _, F_d_law_dates := fun_mk (st := s_d_law_dates) l_d_law_dates c_d_law_dates k_d_law_dates, g_d_law_dates := PySem.W.mg_of X G a_d_law_dates,
    a_d_law_simple := f_d_law_simple, d_d_law_simple := _, F_d_law_simple := fun_mk (st := s_d_law_simple) l_d_law_simple c_d_law_simple k_d_law_simple, g_d_law_simple := PySem.W.mg_of X G a_d_law_simple,
    a_d_law_lot := f_d_law_lot, d_d_law_lot := _, F_d_law_lot := fun_mk (st := s_d_law_lot) l_d_law_lot c_d_law_lot k_d_law_lot, g_d_law_lot := PySem.W.mg_of X G a_d_law_lot,
    a_d_law_free := f_d_law_free, d_d_law_free := _, F_d_law_free := fun_mk (st := s_d_law_free) l_d_law_free c_d_law_free k_d_law_free, g_d_law_free := PySem.W.mg_of X G a_d_law_free,
    a_d_law_parts := f_d_law_parts, d_d_law_parts := _, F_d_law_parts := fun_mk (st := s_d_law_parts) l_d_law_parts c_d_law_parts k_d_law_parts, g_d_law_parts := PySem.W.mg_of X G a_d_law_parts,
    a_d_law_bound := f_d_law_bound, d_d_law_bound := _, F_d_law_bound := fun_mk (st := s_d_law_bound) l_d_law_bound c_d_law_bound k_d_law_bound, g_d_law_bound := PySem.W.mg_of X G a_d_law_bound,
    a_d_law_named := f_d_law_named, d_d_law_named := _, F_d_law_named := fun_mk (st := s_d_law_named) l_d_law_named c_d_law_named k_d_law_named, g_d_law_named := PySem.W.mg_of X G a_d_law_named,
    a_d_law_same := f_d_law_same, d_d_law_same := _, F_d_law_same := fun_mk (st := s_d_law_same) l_d_law_same c_d_law_same k_d_law_same, g_d_law_same := PySem.W.mg_of X G a_d_law_same,
    a_law := fa, d_law := _, F_law := fun_mk (st := s_law) l_law c_law k_law, g_law := PySem.W.mg_of X G a_law,
    b_bool := PySem.W.mg_none_of X G z_bool,
    b_dict := PySem.W.mg_none_of X G z_dict,
    b_enumerate := PySem.W.mg_none_of X G z_enumerate,
    b_int := PySem.W.mg_none_of X G z_int,
    b_isinstance := PySem.W.mg_none_of X G z_isinstance,
    b_len := PySem.W.mg_none_of X G z_len,
    b_list := PySem.W.mg_none_of X G z_list,
    b_max := PySem.W.mg_none_of X G z_max,
    b_min := PySem.W.mg_none_of X G z_min,
    b_range := PySem.W.mg_none_of X G z_range,
    b_sorted := PySem.W.mg_none_of X G z_sorted,
    b_str := PySem.W.mg_none_of X G z_str,
    b_tuple := PySem.W.mg_none_of X G z_tuple,
    b_zip := PySem.W.mg_none_of X G z_zip
  }, rfl, rfl⟩
  obtain ⟨Z, e1, e2⟩ := Z
  rw [← e1]
  exact ⟨Z.d_law, fun s v => e2 ▸ .of_eq rfl, fun base _ _ => FnOk.imp (ok_law Z) (law_imp law_true)⟩
end Law
open PySem PySem.W PyProof.Rows
set_option maxHeartbeats 0 in
theorem PySem.Challenge.cw_beforeinall_k17_bounds_of_records_holds : PySem.Challenge.rw_beforeinall_k17_bounds_of_records.Holds := by
  w_on; o_law; k_head; (case hw => w_witness2)
  k_fill
  refine L2.walk_of (l := PySem.Challenge.rw_beforeinall_k17_bounds_of_records) (n := 63) (k := 5) (x := "script") (CX := fun w => L2.CX PySem.Challenge.rw_beforeinall_k17_bounds_of_records.prog w) (sp := fun w => Mi.spLaw _) rfl (by decide) rfl ⟨rfl, by decide, by decide⟩ (fun w h Y => PySem.W.kIn_of Y) ?F (fun _ _ a ns hl hO hS => ⟨a, ns, rfl, hS, hl, hO, fun _ => rfl⟩) (fun _ _ _ _ _ h => Mi.cx_none h)
  case F =>
    intro w mg fa h KX G hmg
    refine' Law.all_mk KX G hmg ?a_deed_places ?l_deed_places ?c_deed_places ?k_deed_places ?a_bounding_parts ?l_bounding_parts ?c_bounding_parts ?k_bounding_parts ?a_bound_of ?l_bound_of ?c_bound_of ?k_bound_of ?a_d_law_pool ?l_d_law_pool ?c_d_law_pool ?k_d_law_pool ?a_d_law_draw ?l_d_law_draw ?c_d_law_draw ?k_d_law_draw ?a_d_law_names ?l_d_law_names ?c_d_law_names ?k_d_law_names ?a_d_law_frame ?l_d_law_frame ?c_d_law_frame ?k_d_law_frame ?a_d_law_years ?l_d_law_years ?c_d_law_years ?k_d_law_years ?a_d_law_integer ?l_d_law_integer ?c_d_law_integer ?k_d_law_integer ?a_d_law_other ?l_d_law_other ?c_d_law_other ?k_d_law_other ?a_d_law_dates ?l_d_law_dates ?c_d_law_dates ?k_d_law_dates ?a_d_law_simple ?l_d_law_simple ?c_d_law_simple ?k_d_law_simple ?a_d_law_lot ?l_d_law_lot ?c_d_law_lot ?k_d_law_lot ?a_d_law_free ?l_d_law_free ?c_d_law_free ?k_d_law_free ?a_d_law_parts ?l_d_law_parts ?c_d_law_parts ?k_d_law_parts ?a_d_law_bound ?l_d_law_bound ?c_d_law_bound ?k_d_law_bound ?a_d_law_named ?l_d_law_named ?c_d_law_named ?k_d_law_named ?a_d_law_same ?l_d_law_same ?c_d_law_same ?k_d_law_same ?a_law ?l_law ?c_law ?k_law ?z_bool ?z_dict ?z_enumerate ?z_int ?z_isinstance ?z_len ?z_list ?z_max ?z_min ?z_range ?z_sorted ?z_str ?z_tuple ?z_zip
    (case a_deed_places => k_is); (case l_deed_places => k_is); (case c_deed_places => k_is); (case k_deed_places => k_is); (case a_bounding_parts => k_is); (case l_bounding_parts => k_is); (case c_bounding_parts => k_is); (case k_bounding_parts => k_is); (case a_bound_of => k_is); (case l_bound_of => k_is); (case c_bound_of => k_is); (case k_bound_of => k_is); (case a_d_law_pool => k_is); (case l_d_law_pool => k_is); (case c_d_law_pool => k_is); (case k_d_law_pool => k_is); (case a_d_law_draw => k_is); (case l_d_law_draw => k_is); (case c_d_law_draw => k_is); (case k_d_law_draw => k_is); (case a_d_law_names => k_is); (case l_d_law_names => k_is); (case c_d_law_names => k_is); (case k_d_law_names => k_is); (case a_d_law_frame => k_is); (case l_d_law_frame => k_is); (case c_d_law_frame => k_is); (case k_d_law_frame => k_is); (case a_d_law_years => k_is); (case l_d_law_years => k_is); (case c_d_law_years => k_is); (case k_d_law_years => k_is); (case a_d_law_integer => k_is); (case l_d_law_integer => k_is); (case c_d_law_integer => k_is); (case k_d_law_integer => k_is); (case a_d_law_other => k_is); (case l_d_law_other => k_is); (case c_d_law_other => k_is); (case k_d_law_other => k_is); (case a_d_law_dates => k_is); (case l_d_law_dates => k_is); (case c_d_law_dates => k_is); (case k_d_law_dates => k_is); (case a_d_law_simple => k_is); (case l_d_law_simple => k_is); (case c_d_law_simple => k_is); (case k_d_law_simple => k_is); (case a_d_law_lot => k_is); (case l_d_law_lot => k_is); (case c_d_law_lot => k_is); (case k_d_law_lot => k_is); (case a_d_law_free => k_is); (case l_d_law_free => k_is); (case c_d_law_free => k_is); (case k_d_law_free => k_is); (case a_d_law_parts => k_is); (case l_d_law_parts => k_is); (case c_d_law_parts => k_is); (case k_d_law_parts => k_is); (case a_d_law_bound => k_is); (case l_d_law_bound => k_is); (case c_d_law_bound => k_is); (case k_d_law_bound => k_is); (case a_d_law_named => k_is); (case l_d_law_named => k_is); (case c_d_law_named => k_is); (case k_d_law_named => k_is); (case a_d_law_same => k_is); (case l_d_law_same => k_is); (case c_d_law_same => k_is); (case k_d_law_same => k_is); (case a_law => k_is); (case l_law => k_is); (case c_law => k_is); (case k_law => k_is); (case z_bool => k_is); (case z_dict => k_is); (case z_enumerate => k_is); (case z_int => k_is); (case z_isinstance => k_is); (case z_len => k_is); (case z_list => k_is); (case z_max => k_is); (case z_min => k_is); (case z_range => k_is); (case z_sorted => k_is); (case z_str => k_is); (case z_tuple => k_is); (case z_zip => k_is)
