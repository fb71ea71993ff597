import PyProof.Rows.All
import HandS.ForMost
import HandS.ForExc
import HandS.IsInst
import HandS.TupAny
import HandS.Wide
import HandS.Walk
import KE.SortData
import HandS.Style
import HandS.Flt
import HandS.ExcInit
import HandS.ExcField
import KE.GoesEnum
import HandS.Deep
import HandS.More
import HandS.RaiseMore
import PyProof.AutoSeq1
import HandS.DictComp
import HandS.TryOnly
import HandS.Strs
import HandS.Conv
import HandS.Zip
import KE.KDictZip
import HandS.Exc
import HandS.ExcIs
import HandS.Text
import HandS.FStr
import PySem.Challenge.RW_beforeinall_k05_dates_in_texts
set_option Elab.async false
set_option linter.all false
set_option maxRecDepth 100000
set_option maxHeartbeats 4000000
/-! Mi: mirrors of defs over pure values and a store; each combinator is held by the hand layer's judgements. -/
namespace Mi
open PySem PySem.Spec PyProof.Rows L2
/-! ### values, store, results -/
/-- a value: tuples are data; fl: a list that is never written; loc: a place of the store -/
inductive D where
  | non | bl (b : Bool) | int (i : Int) | str (x : Str)
  | tup (xs : List D) | fl (xs : List D) | loc (l : Nat) | exv (a dd : Addr) (c : Str) (fs : List (Str × D))
inductive Cell where
  | lst (xs : List D) | dic (kvs : List (Key × D)) | dct (kvs : List (List Key × D))
abbrev Store := List Cell
structure Ex where
  cls : Str
  fs : List (Str × D)
inductive R (α : Type) where
  | ok (a : α) (s : Store) | ex (e : Ex) (s : Store) | no
namespace R
def bind {α β : Type} (r : R α) (k : α → Store → R β) : R β := match r with
  | .ok a s => k a s
  | .ex e s => .ex e s
  | .no => .no
def of {α : Type} : Option (α × Store) → R α
  | some (a, s) => .ok a s
  | none => .no
@[simp] theorem bind_ok {α β : Type} (a : α) (s : Store) (k : α → Store → R β) : (R.ok a s).bind k = k a s := rfl
@[simp] theorem bind_ex {α β : Type} (e : Ex) (s : Store) (k : α → Store → R β) : (R.ex e s : R α).bind k = .ex e s := rfl
@[simp] theorem bind_no {α β : Type} (k : α → Store → R β) : (R.no : R α).bind k = .no := rfl
@[simp] theorem of_some {α : Type} (a : α) (s : Store) : R.of (some (a, s)) = .ok a s := rfl
@[simp] theorem of_none {α : Type} : (R.of none : R α) = .no := rfl
end R
/-- the slots of a def's names -/
abbrev Sl := List (Option D)
inductive RS where
  | nx (env : Sl) (s : Store) | rt (d : D) (s : Store) | bk (env : Sl) (s : Store) | ct (env : Sl) (s : Store) | ex (e : Ex) (env : Sl) (s : Store) | no
/-! ### the relation to the hand layer's heap -/
section
variable (K : PySem.W.Frag)
/-- a list that is never written: known to the object, or of the module -/
def FrL (H : Hp) (a : Addr) (vs : List V) : Prop :=
  (∃ o, H a = some (.frz o (.lst vs))) ∨
    ∃ (o : Obj) (its : Array Value) (n : Nat), K.lookup a = some o ∧ o.cls = .type "list" ∧ o.dict = none ∧ o.data = .seq its n ∧ its.size ≤ sizeLine ∧ Vals vs its.toList
theorem FrL.sq {K : PySem.W.Frag} {H : Hp} {a : Addr} {vs : List V} (h : FrL K H a vs) : SqL K H a vs := by
  rcases h with ⟨o, h⟩ | h
  · exact .inl (.inr ⟨o, h⟩)
  · exact .inr h
mutual
inductive Rep (m : List Addr) (H : Hp) : D → V → Prop where
  | non : Rep m H .non .non
  | bl (b : Bool) : Rep m H (.bl b) (.bl b)
  | int (i : Int) : Rep m H (.int i) (.int i)
  | str (x : Str) : Rep m H (.str x) (.str x)
  | tup {xs : List D} {a : Addr} {vs : List V} (h : H a = some (.tup vs)) (r : Reps m H xs vs) : Rep m H (.tup xs) (.ref a)
  | fl {xs : List D} {a : Addr} {vs : List V} (h : FrL K H a vs) (r : Reps m H xs vs) : Rep m H (.fl xs) (.ref a)
  | loc {l : Nat} {a : Addr} (h : m[l]? = some a) : Rep m H (.loc l) (.ref a)
  | exv {c : Str} {fs : List (Str × D)} {a dd : Addr} {vfs : List (Str × V)} (h : H dd = some (.xd vfs)) (n : dd ∉ m) (r : FldR m H fs vfs) : Rep m H (.exv a dd c fs) (.ref a)
inductive Reps (m : List Addr) (H : Hp) : List D → List V → Prop where
  | nil : Reps m H [] []
  | cons {x : D} {v : V} {xs : List D} {vs : List V} (h : Rep m H x v) (r : Reps m H xs vs) : Reps m H (x :: xs) (v :: vs)
inductive FldR (m : List Addr) (H : Hp) : List (Str × D) → List (Str × V) → Prop where
  | nil : FldR m H [] []
  | cons {f : Str} {x : D} {v : V} {xs : List (Str × D)} {vs : List (Str × V)} (h : Rep m H x v) (r : FldR m H xs vs) : FldR m H ((f, x) :: xs) ((f, v) :: vs)
end
inductive RepK {κ : Type} (m : List Addr) (H : Hp) : List (κ × D) → List (κ × V) → Prop where
  | nil : RepK m H [] []
  | cons {k : κ} {x : D} {v : V} {xs : List (κ × D)} {vs : List (κ × V)} (h : Rep K m H x v) (r : RepK m H xs vs) : RepK m H ((k, x) :: xs) ((k, v) :: vs)
def CellR (m : List Addr) (H : Hp) (a : Addr) : Cell → Prop
  | .lst xs => ∃ vs, H a = some (.lst vs) ∧ Reps K m H xs vs
  | .dic kvs => ∃ ws, H a = some (.dK ws) ∧ RepK K m H kvs ws
  | .dct kvs => ∃ ws, H a = some (.dT ws) ∧ RepK K m H kvs ws
structure Rel (m : List Addr) (H : Hp) (s : Store) : Prop where
  len : m.length = s.length
  nd : m.Nodup
  at_ : ∀ (l : Nat) (a : Addr) (c : Cell), m[l]? = some a → s[l]? = some c → CellR K m H a c
/-- later: what was there is there; tuples and the lists that are never written stand; what is no cell of ours stands -/
structure Le (m : List Addr) (H : Hp) (m' : List Addr) (H' : Hp) : Prop where
  pre : ∃ r, m' = m ++ r
  tup : ∀ a xs, SqT K H a xs → SqT K H' a xs
  frl : ∀ a xs, FrL K H a xs → FrL K H' a xs
  fr : ∀ b o, H b = some o → b ∉ m → H' b = some o
  nw : ∀ b, b ∈ m' → b ∈ m ∨ H b = none
  trk : ∀ a xs, H a = some (.tup xs) → H' a = some (.tup xs)
def RelE (m : List Addr) (H : Hp) (env : Sl) (σ : L2.St) : Prop :=
  env.length = σ.length ∧ ∀ (i : Nat) (d : D), env[i]? = some (some d) → ∃ v, σ[i]? = some (some v) ∧ Rep K m H d v
end
section
variable {K : PySem.W.Frag} {m m1 m2 : List Addr} {H H1 H2 : Hp} {s : Store} {a b p : Addr} {c : Cell}
theorem Le.refl : Le K m H m H := ⟨⟨[], by simp⟩, fun _ _ h => h, fun _ _ h => h, fun _ _ h _ => h, fun _ h => .inl h, fun _ _ h => h⟩
theorem Le.get (e : Le K m H m1 H1) {l : Nat} (h : m[l]? = some a) : m1[l]? = some a := by
  obtain ⟨r, rfl⟩ := e.pre
  rw [List.getElem?_append_left (by
    rcases Nat.lt_or_ge l m.length with q | q
    · exact q
    · rw [List.getElem?_eq_none q] at h; cases h)]
  exact h
theorem Le.trans (e : Le K m H m1 H1) (f : Le K m1 H1 m2 H2) : Le K m H m2 H2 := by
  refine ⟨?_, fun a xs h => f.tup a xs (e.tup a xs h), fun a xs h => f.frl a xs (e.frl a xs h), fun b o h n => ?_, fun b h => ?_, fun a xs h => f.trk a xs (e.trk a xs h)⟩
  · obtain ⟨r, rfl⟩ := e.pre
    obtain ⟨r2, rfl⟩ := f.pre
    exact ⟨r ++ r2, by simp⟩
  · refine f.fr b o (e.fr b o h n) fun z => ?_
    rcases e.nw b z with q | q
    · exact n q
    · rw [h] at q; cases q
  · by_cases z : b ∈ m
    · exact .inl z
    · rcases f.nw b h with q | q
      · exact e.nw b q
      · refine .inr ?_
        cases w : H b with
        | none => rfl
        | some o =>
          rw [e.fr b o w z] at q; cases q
mutual
theorem Rep.mono (e : Le K m H m1 H1) : ∀ {d : D} {v : V}, Rep K m H d v → Rep K m1 H1 d v
  | _, _, .non => .non
  | _, _, .bl b => .bl b
  | _, _, .int i => .int i
  | _, _, .str x => .str x
  | _, _, .tup h r => .tup (e.trk _ _ h) (Reps.mono e r)
  | _, _, .fl h r => .fl (e.frl _ _ h) (Reps.mono e r)
  | _, _, .loc h => .loc (e.get h)
  | _, _, .exv h n r => .exv (e.fr _ _ h n) (fun z => (e.nw _ z).elim n fun q => by rw [h] at q; cases q) (FldR.mono e r)
theorem Reps.mono (e : Le K m H m1 H1) : ∀ {ds : List D} {vs : List V}, Reps K m H ds vs → Reps K m1 H1 ds vs
  | _, _, .nil => .nil
  | _, _, .cons h r => .cons (Rep.mono e h) (Reps.mono e r)
theorem FldR.mono (e : Le K m H m1 H1) : ∀ {ds : List (Str × D)} {vs : List (Str × V)}, FldR K m H ds vs → FldR K m1 H1 ds vs
  | _, _, .nil => .nil
  | _, _, .cons h r => .cons (Rep.mono e h) (FldR.mono e r)
end
theorem RepK.mono {κ : Type} (e : Le K m H m1 H1) : ∀ {ds : List (κ × D)} {vs : List (κ × V)}, RepK K m H ds vs → RepK K m1 H1 ds vs
  | _, _, .nil => .nil
  | _, _, .cons h r => .cons (h.mono e) (RepK.mono e r)
theorem RelE.mono (e : Le K m H m1 H1) {env : Sl} {σ : L2.St} (h : RelE K m H env σ) : RelE K m1 H1 env σ :=
  ⟨h.1, fun i d q => let ⟨v, h1, h2⟩ := h.2 i d q; ⟨v, h1, h2.mono e⟩⟩
theorem Reps.length : ∀ {xs : List D} {vs : List V}, Reps K m H xs vs → xs.length = vs.length
  | _, _, .nil => rfl
  | _, _, .cons _ r => by simp [Reps.length r]
theorem Reps.get : ∀ {xs : List D} {vs : List V} {i : Nat} {x : D}, Reps K m H xs vs → xs[i]? = some x → ∃ v, vs[i]? = some v ∧ Rep K m H x v
  | _, _, _, _, .nil, e => by simp at e
  | _, _, 0, _, .cons h _, e => by simp at e; subst e; exact ⟨_, rfl, h⟩
  | _, _, i + 1, x, .cons _ r, e => by
    obtain ⟨v, h1, h2⟩ := Reps.get (i := i) (x := x) r (by simpa using e)
    exact ⟨v, by simpa using h1, h2⟩
theorem Reps.append : ∀ {xs ys : List D} {vs ws : List V}, Reps K m H xs vs → Reps K m H ys ws → Reps K m H (xs ++ ys) (vs ++ ws)
  | _, _, _, _, .nil, q => q
  | _, _, _, _, .cons h r, q => .cons h (Reps.append r q)
theorem Reps.take : ∀ {xs : List D} {vs : List V} (n : Nat), Reps K m H xs vs → Reps K m H (xs.take n) (vs.take n)
  | _, _, 0, _ => .nil
  | _, _, _ + 1, .nil => .nil
  | _, _, n + 1, .cons h r => .cons h (Reps.take n r)
theorem Reps.drop : ∀ {xs : List D} {vs : List V} (n : Nat), Reps K m H xs vs → Reps K m H (xs.drop n) (vs.drop n)
  | _, _, 0, r => r
  | _, _, _ + 1, .nil => .nil
  | _, _, n + 1, .cons _ r => Reps.drop n r
theorem Reps.set {x : D} {v : V} (h : Rep K m H x v) : ∀ {xs : List D} {vs : List V} (i : Nat), Reps K m H xs vs → Reps K m H (xs.set i x) (vs.set i v)
  | _, _, _, .nil => .nil
  | _, _, 0, .cons _ r => .cons h r
  | _, _, i + 1, .cons q r => .cons q (Reps.set h i r)
theorem Reps.dropLast : ∀ {xs : List D} {vs : List V}, Reps K m H xs vs → Reps K m H xs.dropLast vs.dropLast
  | _, _, .nil => .nil
  | _, _, .cons _ .nil => .nil
  | _, _, .cons h (.cons h2 r) => by
    rw [List.dropLast_cons₂, List.dropLast_cons₂]
    exact .cons h (Reps.dropLast (.cons h2 r))
theorem Reps.erase : ∀ {xs : List D} {vs : List V} (i : Nat), Reps K m H xs vs → Reps K m H (xs.eraseIdx i) (vs.eraseIdx i)
  | _, _, _, .nil => .nil
  | _, _, 0, .cons _ r => r
  | _, _, i + 1, .cons q r => .cons q (Reps.erase i r)
theorem Reps.reverse {xs : List D} {vs : List V} (h : Reps K m H xs vs) : Reps K m H xs.reverse vs.reverse := by
  induction xs generalizing vs with
  | nil => cases h; exact .nil
  | cons x xs ih =>
    cases h with
    | cons h r =>
      rw [List.reverse_cons, List.reverse_cons]
      exact (ih r).append (.cons h .nil)
theorem Reps.ints : ∀ {ns : List Int} {vs : List V}, Reps K m H (ns.map D.int) vs → vs = ns.map V.int
  | [], _, .nil => rfl
  | n :: ns, _, .cons h r => by
    cases h
    rw [List.map_cons, Reps.ints r]
theorem reps_ints (ns : List Int) : Reps K m H (ns.map D.int) (ns.map V.int) := by
  induction ns with
  | nil => exact .nil
  | cons n ns ih => exact .cons (.int n) ih
/-! ### changes of the heap -/
theorem Rel.lt (r : Rel K m H s) {l : Nat} (h : m[l]? = some a) : l < s.length := by
  rw [← r.len]
  rcases Nat.lt_or_ge l m.length with q | q
  · exact q
  · rw [List.getElem?_eq_none q] at h; cases h
theorem Rel.there (r : Rel K m H s) (h : b ∈ m) : (∃ vs, H b = some (.lst vs)) ∨ (∃ ws, H b = some (.dK ws)) ∨ ∃ ws, H b = some (.dT ws) := by
  obtain ⟨l, hl⟩ := List.getElem?_of_mem h
  have q := r.lt hl
  obtain ⟨c, hc⟩ : ∃ c, s[l]? = some c := ⟨s[l], by simp [q]⟩
  have x := r.at_ l b c hl hc
  cases c with
  | lst xs => obtain ⟨vs, e, _⟩ := x; exact .inl ⟨vs, e⟩
  | dic kvs => obtain ⟨ws, e, _⟩ := x; exact .inr (.inl ⟨ws, e⟩)
  | dct kvs => obtain ⟨ws, e, _⟩ := x; exact .inr (.inr ⟨ws, e⟩)
theorem Rel.has (r : Rel K m H s) (h : b ∈ m) : ∃ o, H b = some o ∧ (∀ xs, o ≠ .tup xs) ∧ ∀ u x, o ≠ .frz u x := by
  rcases r.there h with ⟨vs, e⟩ | ⟨ws, e⟩ | ⟨ws, e⟩
  · exact ⟨_, e, fun _ z => (by cases z), fun _ _ z => (by cases z)⟩
  · exact ⟨_, e, fun _ z => (by cases z), fun _ _ z => (by cases z)⟩
  · exact ⟨_, e, fun _ z => (by cases z), fun _ _ z => (by cases z)⟩
theorem Rel.new_notin (r : Rel K m H s) (h : H p = none) : p ∉ m := fun z => by
  obtain ⟨o, e, _⟩ := r.has z
  rw [h] at e; cases e
/-- any object laid at a free place, or written at a place that is neither tuple nor frozen -/
theorem le_upd {o : HO} (hp : ∀ u, H p = Option.some u → p ∈ m) (hm : ∀ u, H p = Option.some u → (∀ xs, u ≠ .tup xs) ∧ ∀ ob x, u ≠ .frz ob x) : Le K m H m (upd H p o) := by
  refine ⟨⟨[], by simp⟩, fun b xs h => ?_, fun b xs h => ?_, fun b u h n => ?_, fun b h => .inl h, fun b xs h => by rw [upd_ne (fun z => by subst z; exact (hm _ h).1 xs rfl)]; exact h⟩
  · rcases h with (h | ⟨ob, h⟩) | h
    · exact .inl (.inl (by rw [upd_ne (fun z => by subst z; exact (hm _ h).1 xs rfl)]; exact h))
    · exact .inl (.inr ⟨ob, by rw [upd_ne (fun z => by subst z; exact (hm _ h).2 _ _ rfl)]; exact h⟩)
    · exact .inr h
  · rcases h with ⟨ob, h⟩ | h
    · exact .inl ⟨ob, by rw [upd_ne (fun z => by subst z; exact (hm _ h).2 _ _ rfl)]; exact h⟩
    · exact .inr h
  · rw [upd_ne (fun z => by subst z; exact n (hp _ h))]; exact h
theorem le_new {o : HO} (hp : H p = none) : Le K m H m (upd H p o) :=
  le_upd (fun u h => by rw [hp] at h; cases h) (fun u h => by rw [hp] at h; cases h)
theorem le_put (r : Rel K m H s) (h : p ∈ m) {o : HO} : Le K m H m (upd H p o) :=
  le_upd (fun _ _ => h) (fun u e => by
    obtain ⟨o', e', q⟩ := r.has h
    rw [e] at e'; cases e'
    exact q)
theorem le_more (r : Rel K m H s) (hp : H p = none) {o : HO} : Le K m H (m ++ [p]) (upd H p o) := by
  have e : Le K m H m (upd H p o) := le_new hp
  refine ⟨⟨[p], rfl⟩, e.tup, e.frl, e.fr, fun b h => ?_, e.trk⟩
  rcases List.mem_append.mp h with q | q
  · exact .inl q
  · rw [List.mem_singleton.mp q]; exact .inr hp
theorem CellR.mono {m' : List Addr} {H' : Hp} (e : Le K m H m' H') (hs : H' a = H a) (h : CellR K m H a c) : CellR K m' H' a c := by
  cases c with
  | lst xs => obtain ⟨vs, h1, h2⟩ := h; exact ⟨vs, hs.trans h1, h2.mono e⟩
  | dic kvs => obtain ⟨ws, h1, h2⟩ := h; exact ⟨ws, hs.trans h1, h2.mono e⟩
  | dct kvs => obtain ⟨ws, h1, h2⟩ := h; exact ⟨ws, hs.trans h1, h2.mono e⟩
/-- an object that is no cell is laid -/
theorem Rel.tmp (r : Rel K m H s) (hp : H p = none) {o : HO} : Rel K m (upd H p o) s :=
  ⟨r.len, r.nd, fun l a c h1 h2 => (r.at_ l a c h1 h2).mono (le_new hp) (upd_ne fun z => by subst z; exact r.new_notin hp (List.mem_of_getElem? h1))⟩
theorem Rel.put (r : Rel K m H s) {l : Nat} (h : m[l]? = Option.some p) {o : HO} {c : Cell} (hc : CellR K m (upd H p o) p c) : Rel K m (upd H p o) (s.set l c) := by
  refine ⟨by rw [List.length_set]; exact r.len, r.nd, fun j b d h1 h2 => ?_⟩
  by_cases hj : j = l
  · subst hj
    rw [h] at h1; cases h1
    rw [List.getElem?_set_self (r.lt h)] at h2; cases h2
    exact hc
  · rw [List.getElem?_set_ne (Ne.symm hj)] at h2
    refine (r.at_ j b d h1 h2).mono (le_put r (List.mem_of_getElem? h)) (upd_ne fun z => hj ?_)
    subst z
    exact nd_ix r.nd h1 h
theorem Rel.new (r : Rel K m H s) (hp : H p = none) {o : HO} {c : Cell} (hc : CellR K (m ++ [p]) (upd H p o) p c) : Rel K (m ++ [p]) (upd H p o) (s ++ [c]) := by
  have hn := r.new_notin hp
  refine ⟨by simp [r.len], ?_, fun j b d h1 h2 => ?_⟩
  · rw [List.nodup_append]
    exact ⟨r.nd, by simp, fun x hx y hy => by rw [List.mem_singleton.mp hy]; exact fun z => hn (z ▸ hx)⟩
  · rcases Nat.lt_or_ge j m.length with q | q
    · rw [List.getElem?_append_left q] at h1
      rw [List.getElem?_append_left (by rw [← r.len]; exact q)] at h2
      exact (r.at_ j b d h1 h2).mono (le_more r hp) (upd_ne fun z => by subst z; exact hn (List.mem_of_getElem? h1))
    · rw [List.getElem?_append_right q] at h1
      rw [List.getElem?_append_right (by rw [← r.len]; exact q), ← r.len] at h2
      cases hk : j - m.length with
      | zero =>
        rw [hk] at h1 h2
        simp at h1 h2
        subst h1; subst h2
        exact hc
      | succ n => rw [hk] at h1; simp at h1
theorem len_get (r : Rel K m H s) : (m ++ [p])[s.length]? = some p := by
  rw [← r.len, List.getElem?_append_right (Nat.le_refl _)]; simp
/-- a new tuple -/
theorem rep_newtup {xs : List D} {vs : List V} (hp : H p = none) (h : Reps K m H xs vs) : Rep K m (upd H p (.tup vs)) (.tup xs) (.ref p) :=
  .tup upd_same (h.mono (le_new hp))
/-- a new list -/
theorem rel_newlist {xs : List D} {vs : List V} (r : Rel K m H s) (hp : H p = none) (h : Reps K m H xs vs) : Rel K (m ++ [p]) (upd H p (.lst vs)) (s ++ [.lst xs]) :=
  r.new hp ⟨vs, upd_same, h.mono (le_more r hp)⟩
theorem Rel.list (r : Rel K m H s) {l : Nat} {xs : List D} (h : m[l]? = Option.some a) (hs : s[l]? = Option.some (.lst xs)) : ∃ vs, H a = Option.some (.lst vs) ∧ Reps K m H xs vs := r.at_ l a _ h hs
end
end Mi
namespace Mi
open PySem PySem.Spec PyProof.Rows L2
/-! ### readings of mirrors -/
section
variable (K : PySem.W.Frag) (mg : Str → Option Value)
/-- an exception: its class, its own dict -/
def ExR (m : List Addr) (H : Hp) (e : Ex) (c : Value) (dd : Option Addr) : Prop :=
  mg e.cls = some c ∧ ((e.fs = [] ∧ dd = none) ∨ ∃ d vfs, dd = some d ∧ H d = some (.xd vfs) ∧ d ∉ m ∧ FldR K m H e.fs vfs)
/-- what a result is to bring about -/
def G {α β : Type} (ρ : List Addr → Hp → α → β → Prop) (W : WX) (σ : L2.St) (m : List Addr) (H : Hp) (Q : β → Hp → Prop) : R α → Prop
  | .ok a s => ∀ m' H' b, Le K m H m' H' → Rel K m' H' s → ρ m' H' a b → Q b H'
  | .ex e s => ∀ m' H' c dd, Le K m H m' H' → Rel K m' H' s → ExR K mg m' H' e c dd → W c dd σ H'
  | .no => False
def Tm {α β : Type} (ρ : List Addr → Hp → α → β → Prop) (W : WX) (f : Sl → Store → R α) : L2.St → Hp → (β → Hp → Prop) → Prop := fun σ H Q =>
  ∃ m env s, Rel K m H s ∧ RelE K m H env σ ∧ G K mg ρ W σ m H Q (f env s)
abbrev ME (α : Type) := Sl → Store → R α
/-- a test's -/
def ρB : List Addr → Hp → Bool → Bool → Prop := fun _ _ a b => a = b
abbrev Te (W : WX) (f : ME D) : TE := Tm K mg (Rep K) W f
abbrev Tt (W : WX) (f : ME Bool) : TT := Tm K mg ρB W f
abbrev Ta (W : WX) (f : ME (List D)) : TA := Tm K mg (Reps K) W f
end
section
variable {K : PySem.W.Frag} {mg : Str → Option Value} {m m1 : List Addr} {H H1 : Hp} {s : Store} {W : WX} {σ : L2.St}
section
variable {α α' β β' : Type} {ρ : List Addr → Hp → α → β → Prop} {ρ' : List Addr → Hp → α' → β' → Prop} {Q : β → Hp → Prop} {Q' : β' → Hp → Prop}
theorem G.mono (e : Le K m H m1 H1) {r : R α} (h : G K mg ρ W σ m H Q r) : G K mg ρ W σ m1 H1 Q r := by
  cases r with
  | ok a s => exact fun m' H' b l r q => h m' H' b (e.trans l) r q
  | ex x s => exact fun m' H' c d l r q => h m' H' c d (e.trans l) r q
  | no => exact h
theorem G.bind {r : R α} {k : α → Store → R α'} (h : G K mg ρ' W σ m H Q' (r.bind k))
    (q : ∀ m1 H1 a b s1, Le K m H m1 H1 → Rel K m1 H1 s1 → ρ m1 H1 a b → G K mg ρ' W σ m1 H1 Q' (k a s1) → Q b H1) : G K mg ρ W σ m H Q r := by
  cases r with
  | ok a s => exact fun m' H' b l r p => q m' H' a b s l r p (G.mono l h)
  | ex x s => exact h
  | no => exact h
theorem G.imp {r : R α} (h : G K mg ρ W σ m H Q r) {Q1 : β → Hp → Prop} (q : ∀ m' H' a b s, r = .ok a s → Le K m H m' H' → Rel K m' H' s → ρ m' H' a b → Q b H' → Q1 b H') : G K mg ρ W σ m H Q1 r := by
  cases r with
  | ok a s => exact fun m' H' b l r p => q m' H' a b s rfl l r p (h m' H' b l r p)
  | ex x s => exact h
  | no => exact h
/-- run the first part -/
theorem Tm.bind {f : Sl → Store → R α} {k : Sl → α → Store → R α'} (h : Tm K mg ρ' W (fun env s => (f env s).bind (k env)) σ H Q')
    (q : ∀ m1 H1 env a b s1, Rel K m1 H1 s1 → RelE K m1 H1 env σ → ρ m1 H1 a b → G K mg ρ' W σ m1 H1 Q' (k env a s1) → Q b H1) : Tm K mg ρ W f σ H Q := by
  obtain ⟨m, env, s, r, e, g⟩ := h
  exact ⟨m, env, s, r, e, G.bind g fun m1 H1 a b s1 l r1 p g1 => q m1 H1 env a b s1 r1 (e.mono l) p g1⟩
/-- a further part runs -/
theorem Tm.of {f : Sl → Store → R α} {env : Sl} (r : Rel K m H s) (e : RelE K m H env σ) (g : G K mg ρ W σ m H Q (f env s)) : Tm K mg ρ W f σ H Q := ⟨m, env, s, r, e, g⟩
end
/-- the end: a value that is there -/
theorem G.now {d : D} {v : V} {Q : VK} (h : G K mg (Rep K) W σ m H Q (.ok d s)) (r : Rel K m H s) (p : Rep K m H d v) : Q v H := h m H v .refl r p
theorem G.nowB {d : Bool} {Q : Bool → Hp → Prop} (h : G K mg ρB W σ m H Q (.ok d s)) (r : Rel K m H s) : Q d H := h m H d .refl r rfl
end
theorem PE.imp {X : Cx} {e : Expr} {t t' : TE} (h : PE X e t) (i : ∀ σ H Q, t' σ H Q → t σ H Q) : PE X e t' := ⟨fun pins s σ H Q I q => h.run pins s σ H Q I (i σ H Q q)⟩
theorem PT.imp {X : Cx} {e : Expr} {t t' : TT} (h : PT X e t) (i : ∀ σ H Q, t' σ H Q → t σ H Q) : PT X e t' := ⟨fun pins s σ H Q I q => h.run pins s σ H Q I (i σ H Q q)⟩
theorem PW.imp {X : Cx} {e : Expr} {t t' : TT} (h : PW X e t) (i : ∀ σ H Q, t' σ H Q → t σ H Q) : PW X e t' := ⟨fun wh pins s σ H Q I q => h.run wh pins s σ H Q I (i σ H Q q)⟩
theorem PA.imp {X : Cx} {e : List Expr} {t t' : TA} (h : PA X e t) (i : ∀ σ H Q, t' σ H Q → t σ H Q) : PA X e t' := ⟨fun pos pins s σ H Q I q => h.run pos pins s σ H Q I (i σ H Q q)⟩
theorem PS.imp {X : Cx} {e : Stmt} {t t' : TS} (h : PS X e t) (i : ∀ D σ H, t' D σ H → t D σ H) : PS X e t' := ⟨fun pins s σ H D I q => h.run pins s σ H D I (i D σ H q)⟩
theorem PSs.imp {X : Cx} {e : List Stmt} {t t' : TS} (h : PSs X e t) (i : ∀ D σ H, t' D σ H → t D σ H) : PSs X e t' := ⟨fun pins s σ H D I q => h.run pins s σ H D I (i D σ H q)⟩
/-! ### combinators: expressions -/
def eC (d : D) : ME D := fun _ s => .ok d s
def eV (i : Nat) : ME D := fun env s => match env[i]? with
  | some (some d) => .ok d s
  | _ => .no
/-- two values -/
def e2 (g : D → D → Store → Option (D × Store)) (a b : ME D) : ME D := fun env s => (a env s).bind fun x s => (b env s).bind fun y s => R.of (g x y s)
def e1 (g : D → Store → Option (D × Store)) (a : ME D) : ME D := fun env s => (a env s).bind fun x s => R.of (g x s)
def aNil : ME (List D) := fun _ s => .ok [] s
def aCons (a : ME D) (r : ME (List D)) : ME (List D) := fun env s => (a env s).bind fun x s => (r env s).bind fun xs s => .ok (x :: xs) s
def eFn (g : List D → Store → Option (D × Store)) (a : ME (List D)) : ME D := fun env s => (a env s).bind fun xs s => R.of (g xs s)
def eTup (a : ME (List D)) : ME D := fun env s => (a env s).bind fun xs s => if xs.length ≤ sizeLine then .ok (.tup xs) s else .no
def eLst (a : ME (List D)) : ME D := fun env s => (a env s).bind fun xs s => if xs.length ≤ sizeLine then .ok (.loc s.length) (s ++ [.lst xs]) else .no
def eCall (g : List D → Store → R D) (a : ME (List D)) : ME D := fun env s => (a env s).bind g
/-- a value as a test: a bool -/
def tV (a : ME D) : ME Bool := fun env s => (a env s).bind fun x s => match x with
  | .bl b => .ok b s
  | _ => .no
def tAnd (a b : ME Bool) : ME Bool := fun env s => (a env s).bind fun x s => if x then b env s else .ok false s
def tOr (a b : ME Bool) : ME Bool := fun env s => (a env s).bind fun x s => if x then .ok true s else b env s
def tNot (a : ME Bool) : ME Bool := fun env s => (a env s).bind fun x s => .ok (!x) s
def eIf (c : ME Bool) (a b : ME D) : ME D := fun env s => (c env s).bind fun x s => if x then a env s else b env s
/-- and, or, not as values (bools) -/
def eAnd (a b : ME D) : ME D := fun env s => (a env s).bind fun x s => match x with
  | .bl true => b env s
  | .bl false => .ok (.bl false) s
  | _ => .no
def eOr (a b : ME D) : ME D := fun env s => (a env s).bind fun x s => match x with
  | .bl true => .ok (.bl true) s
  | .bl false => b env s
  | _ => .no
def eNot (a : ME D) : ME D := fun env s => (a env s).bind fun x s => match x with
  | .bl c => .ok (.bl !c) s
  | _ => .no
def eChain (g g' : D → D → Store → Option (D × Store)) (a b c : ME D) : ME D := fun env s => (a env s).bind fun x s => (b env s).bind fun y s => (R.of (g x y s)).bind fun z s => match z with
  | .bl true => (c env s).bind fun w s => R.of (g' y w s)
  | .bl false => .ok (.bl false) s
  | _ => .no
section
variable {X : Cx} {W : WX} {pos : Pos} {a b c e : Expr} {es : List Expr} {fa fb fc : ME D} {ga gb : ME Bool} {fs : ME (List D)}
theorem ce_v (i : Nat) {x : Str} (hN : X.N[i]? = some x := by rfl) (hv : Vis X.env.scope x := by first | exact Or.inl rfl | exact Or.inr (Or.inl rfl) | exact Or.inr (Or.inr rfl)) (hd : (x == ("__debug__" : Str)) = false := by decide)
    (hcd : (x == ("__classdict__" : Str)) = false := by decide) : PE X (.Name x pos) (Te X.K X.mg W (eV i)) := by
  refine PE.imp (pe_var (i := i) hN hv hd hcd) fun σ H Q h => ?_
  obtain ⟨m, env, s, r, E, g⟩ := h
  unfold eV at g
  cases q : env[i]? with
  | none => rw [q] at g; exact g.elim
  | some o =>
    cases o with
    | none => rw [q] at g; exact g.elim
    | some d =>
      rw [q] at g
      obtain ⟨v, h1, h2⟩ := E.2 i d q
      exact ⟨v, h1, g.now r h2⟩
theorem ce_c {d : D} {v : V} (h : PE X e (tC v)) (r : ∀ m H, Rep X.K m H d v) : PE X e (Te X.K X.mg W (eC d)) :=
  PE.imp h fun σ H Q ⟨m, env, s, rl, E, g⟩ => g.now rl (r m H)
theorem ce_int {i j} : PE X (.Constant (.int i) j pos) (Te X.K X.mg W (eC (.int i))) := ce_c pe_int fun _ _ => .int _
theorem ce_bl {i j} : PE X (.Constant (.bool i) j pos) (Te X.K X.mg W (eC (.bl i))) := ce_c pe_bl fun _ _ => .bl _
theorem ce_non {j} : PE X (.Constant .none j pos) (Te X.K X.mg W (eC .non)) := ce_c pe_non fun _ _ => .non
theorem ce_str {x j} : PE X (.Constant (.str x) j pos) (Te X.K X.mg W (eC (.str x))) := ce_c pe_str fun _ _ => .str _
theorem ce_glob {x : Str} {d : D} {v : V} {u : Value} (hg : Gl X x) (hm : X.mg x = some u) (r : RelV v u) (q : ∀ m H, Rep X.K m H d v) (hd : (x == ("__debug__" : Str)) = false := by decide) : PE X (.Name x pos) (Te X.K X.mg W (eC d)) := ce_c (pe_glob hg hm r hd) q
/-- an operation on values, with its mirror -/
def OpS (K : PySem.W.Frag) (r : R2) (g : D → D → Store → Option (D × Store)) : Prop :=
  ∀ {mg : Str → Option Value} {W : WX} {σ : L2.St} {m : List Addr} {H : Hp} {s : Store} {x y : V} {dx dy : D} {Q : VK}, Rel K m H s → Rep K m H dx x → Rep K m H dy y → G K mg (Rep K) W σ m H Q (R.of (g dx dy s)) → r x y H Q
theorem e2_run {r : R2} {g : D → D → Store → Option (D × Store)} (hs : OpS X.K r g) : ∀ σ H Q, Te X.K X.mg W (e2 g fa fb) σ H Q → tOp r (Te X.K X.mg W fa) (Te X.K X.mg W fb) σ H Q := fun σ H Q h =>
  Tm.bind (k := fun env x s => (fb env s).bind fun y s => R.of (g x y s)) h fun m1 H1 env x v s1 r1 E1 p1 g1 =>
    ⟨m1, env, s1, r1, E1, G.bind g1 fun m2 H2 y u s2 l2 r2 p2 g2 => hs r2 (p1.mono l2) p2 g2⟩
theorem ce_op {op : Operator} {r : R2} {g : D → D → Store → Option (D × Store)} (ho : OpR X (binaryOp op) r) (hs : OpS X.K r g) (ha : PE X a (Te X.K X.mg W fa)) (hb : PE X b (Te X.K X.mg W fb)) :
    PE X (.BinOp a op b pos) (Te X.K X.mg W (e2 g fa fb)) := PE.imp (pe_op ho ha hb) (e2_run hs)
theorem ce_cmp {op : CmpOp} {r : R2} {g : D → D → Store → Option (D × Store)} (ho : OpR X (compareOp op) r) (hs : OpS X.K r g) (ha : PE X a (Te X.K X.mg W fa)) (hb : PE X b (Te X.K X.mg W fb)) (hm : behindInMarks op b = false) :
    PE X (.Compare a [op] [b] pos) (Te X.K X.mg W (e2 g fa fb)) := PE.imp (pe_cmpR ho ha hb hm) (e2_run hs)
theorem ce_ix {r : R2} {g : D → D → Store → Option (D × Store)} (ho : IxR X r) (hs : OpS X.K r g) (ha : PE X a (Te X.K X.mg W fa)) (hb : PE X b (Te X.K X.mg W fb)) (hp : PlainIx b) :
    PE X (.Subscript a b pos) (Te X.K X.mg W (e2 g fa fb)) := PE.imp (pe_ix ho ha hb hp) (e2_run hs)
/-- a test of a value that is a bool -/
theorem tv_run {t : TE} (hp : ∀ σ H Q, Te X.K X.mg W fa σ H Q → t σ H Q) : ∀ σ H Q, Tt X.K X.mg W (tV fa) σ H Q → t σ H fun x H' => ∃ k, x = .bl k ∧ Q k H' := fun σ H Q h =>
  hp σ H _ (Tm.bind (k := fun _ x s => match x with | .bl b => R.ok b s | _ => R.no) h fun m1 H1 env x v s1 r1 E1 p1 g1 => by
    cases x with
    | bl k => cases p1; exact ⟨k, rfl, g1.nowB r1⟩
    | _ => exact g1.elim)
theorem ct_v (ha : PE X a (Te X.K X.mg W fa)) (he : ∀ whole, isTrue a X.env whole = (do let v ← whole; standAt a.pos; holding [v] (truthy v)) := by intro _; rfl) : PT X a (Tt X.K X.mg W (tV fa)) :=
  PT.imp (pt_val ha he) (tv_run fun _ _ _ h => h)
theorem ct_cmp {op : CmpOp} {r : R2} {g : D → D → Store → Option (D × Store)} (ho : OpR X (compareOp op) r) (hs : OpS X.K r g) (ha : PE X a (Te X.K X.mg W fa)) (hb : PE X b (Te X.K X.mg W fb)) (hm : behindInMarks op b = false) :
    PT X (.Compare a [op] [b] pos) (Tt X.K X.mg W (tV (e2 g fa fb))) := PT.imp (pt_cmpR ho ha hb hm) (tv_run (e2_run hs))
theorem chain_run {r r' : R2} {g g' : D → D → Store → Option (D × Store)} (hs : OpS X.K r g) (hs' : OpS X.K r' g') : ∀ σ H Q, Te X.K X.mg W (eChain g g' fa fb fc) σ H Q → tChain r r' (Te X.K X.mg W fa) (Te X.K X.mg W fb) (Te X.K X.mg W fc) σ H Q := fun σ H Q h =>
  Tm.bind (k := fun env x s => (fb env s).bind fun y s => (R.of (g x y s)).bind fun z s => match z with | .bl true => (fc env s).bind fun w s => R.of (g' y w s) | .bl false => R.ok (D.bl false) s | _ => R.no) h fun m1 H1 env x v s1 r1 E1 p1 g1 =>
    ⟨m1, env, s1, r1, E1, G.bind g1 fun m2 H2 y u s2 l2 r2 p2 g2 => hs r2 (p1.mono l2) p2 (G.bind g2 fun m3 H3 z w s3 l3 r3 p3 g3 => by
      cases z with
      | bl k =>
        cases p3
        refine ⟨k, rfl, ?_⟩
        cases k with
        | true => exact iteT ⟨m3, env, s3, r3, (E1.mono l2).mono l3, G.bind g3 fun m4 H4 z w s4 l4 r4 p4 g4 => hs' r4 ((p2.mono l3).mono l4) p4 g4⟩
        | false => exact iteF (g3.now r3 (.bl false))
      | _ => exact g3.elim)⟩
theorem ce_chain {op op' : CmpOp} {r r' : R2} {g g' : D → D → Store → Option (D × Store)} (ho : OpR X (compareOp op) r) (hs : OpS X.K r g) (ho' : OpR X (compareOp op') r') (hs' : OpS X.K r' g') (ha : PE X a (Te X.K X.mg W fa)) (hb : PE X b (Te X.K X.mg W fb)) (hc : PE X c (Te X.K X.mg W fc))
    (hm : lastMarks [op, op'] [b, c] = false := by with_unfolding_all rfl) : PE X (.Compare a [op, op'] [b, c] pos) (Te X.K X.mg W (eChain g g' fa fb fc)) := PE.imp (pe_chain ho ho' ha hb hc hm) (chain_run hs hs')
theorem ct_chain {op op' : CmpOp} {r r' : R2} {g g' : D → D → Store → Option (D × Store)} (ho : OpR X (compareOp op) r) (hs : OpS X.K r g) (ho' : OpR X (compareOp op') r') (hs' : OpS X.K r' g') (ha : PE X a (Te X.K X.mg W fa)) (hb : PE X b (Te X.K X.mg W fb)) (hc : PE X c (Te X.K X.mg W fc))
    (hm : lastMarks [op, op'] [b, c] = false := by with_unfolding_all rfl) : PT X (.Compare a [op, op'] [b, c] pos) (Tt X.K X.mg W (tV (eChain g g' fa fb fc))) := PT.imp (pt_chain ho ho' ha hb hc hm) (tv_run (chain_run hs hs'))
/-! #### tests -/
theorem cw_and1 (ha : PT X a (Tt X.K X.mg W ga)) : PW X (.BoolOp .And [a] pos) (Tt X.K X.mg W ga) := pw_and1 ha
theorem cw_or1 (ha : PT X a (Tt X.K X.mg W ga)) : PW X (.BoolOp .Or [a] pos) (Tt X.K X.mg W ga) := pw_or1 ha
theorem cw_and {rest : List Expr} (ha : PT X a (Tt X.K X.mg W ga)) (hb : PW X (.BoolOp .And (b :: rest) pos) (Tt X.K X.mg W gb)) : PW X (.BoolOp .And (a :: b :: rest) pos) (Tt X.K X.mg W (tAnd ga gb)) :=
  PW.imp (pw_and ha hb) fun σ H Q h => Tm.bind (k := fun env x s => if x then gb env s else R.ok false s) h fun m1 H1 env x v s1 r1 E1 p1 g1 => by
    cases (show x = v from p1)
    cases x with
    | true => exact iteT ⟨m1, env, s1, r1, E1, g1⟩
    | false => exact iteF (G.nowB g1 r1)
theorem cw_or {rest : List Expr} (ha : PT X a (Tt X.K X.mg W ga)) (hb : PW X (.BoolOp .Or (b :: rest) pos) (Tt X.K X.mg W gb)) : PW X (.BoolOp .Or (a :: b :: rest) pos) (Tt X.K X.mg W (tOr ga gb)) :=
  PW.imp (pw_or ha hb) fun σ H Q h => Tm.bind (k := fun env x s => if x then R.ok true s else gb env s) h fun m1 H1 env x v s1 r1 E1 p1 g1 => by
    cases (show x = v from p1)
    cases x with
    | true => exact iteT (G.nowB g1 r1)
    | false => exact iteF ⟨m1, env, s1, r1, E1, g1⟩
theorem ct_not (ha : PT X a (Tt X.K X.mg W ga)) : PT X (.UnaryOp .Not a pos) (Tt X.K X.mg W (tNot ga)) :=
  PT.imp (pt_not ha) fun σ H Q h => Tm.bind (k := fun env x s => R.ok (!x) s) h fun m1 H1 env x v s1 r1 E1 p1 g1 => by
    cases (show x = v from p1)
    exact G.nowB g1 r1
theorem ce_ifExp (hc : PT X c (Tt X.K X.mg W ga)) (ha : PE X a (Te X.K X.mg W fa)) (hb : PE X b (Te X.K X.mg W fb)) : PE X (.IfExp c a b pos) (Te X.K X.mg W (eIf ga fa fb)) :=
  PE.imp (pe_ifExp hc ha hb) fun σ H Q h => Tm.bind (k := fun env x s => if x then fa env s else fb env s) h fun m1 H1 env x v s1 r1 E1 p1 g1 => by
    cases (show x = v from p1)
    cases x with
    | true => exact iteT ⟨m1, env, s1, r1, E1, g1⟩
    | false => exact iteF ⟨m1, env, s1, r1, E1, g1⟩
theorem ce_one {op} {t : TE} (h : PE X a t) : PE X (.BoolOp op [a] pos) t := pe_one h
theorem ce_and {rest : List Expr} (ha : PE X a (Te X.K X.mg W fa)) (hb : PE X (.BoolOp .And (b :: rest) pos) (Te X.K X.mg W fb)) : PE X (.BoolOp .And (a :: b :: rest) pos) (Te X.K X.mg W (eAnd fa fb)) :=
  PE.imp (pe_and ha hb) fun σ H Q h => Tm.bind (k := fun env x s => match x with | .bl true => fb env s | .bl false => R.ok (D.bl false) s | _ => R.no) h fun m1 H1 env x v s1 r1 E1 p1 g1 => by
    cases x with
    | bl k =>
      cases p1
      refine ⟨k, rfl, ?_⟩
      cases k with
      | true => exact iteT ⟨m1, env, s1, r1, E1, g1⟩
      | false => exact iteF (g1.now r1 (.bl false))
    | _ => exact g1.elim
theorem ce_or {rest : List Expr} (ha : PE X a (Te X.K X.mg W fa)) (hb : PE X (.BoolOp .Or (b :: rest) pos) (Te X.K X.mg W fb)) : PE X (.BoolOp .Or (a :: b :: rest) pos) (Te X.K X.mg W (eOr fa fb)) :=
  PE.imp (pe_or ha hb) fun σ H Q h => Tm.bind (k := fun env x s => match x with | .bl true => R.ok (D.bl true) s | .bl false => fb env s | _ => R.no) h fun m1 H1 env x v s1 r1 E1 p1 g1 => by
    cases x with
    | bl k =>
      cases p1
      refine ⟨k, rfl, ?_⟩
      cases k with
      | true => exact iteT (g1.now r1 (.bl true))
      | false => exact iteF ⟨m1, env, s1, r1, E1, g1⟩
    | _ => exact g1.elim
theorem ce_not (ha : PE X a (Te X.K X.mg W fa)) : PE X (.UnaryOp .Not a pos) (Te X.K X.mg W (eNot fa)) :=
  PE.imp (pe_not ha) fun σ H Q h => Tm.bind (k := fun env x s => match x with | .bl c => R.ok (D.bl !c) s | _ => R.no) h fun m1 H1 env x v s1 r1 E1 p1 g1 => by
    cases x with
    | bl k => cases p1; exact ⟨k, rfl, g1.now r1 (.bl _)⟩
    | _ => exact g1.elim
/-! #### argument lists, displays -/
theorem ca_nil : PA X [] (Ta X.K X.mg W aNil) := PA.imp pa_nil fun σ H Q ⟨m, env, s, r, E, g⟩ => g m H [] .refl r .nil
theorem ca_cons (ha : PE X e (Te X.K X.mg W fa)) (hr : PA X es (Ta X.K X.mg W fs)) (hs : starEach (e :: es) X.env = (false, eval e X.env) :: starEach es X.env := by rfl) : PA X (e :: es) (Ta X.K X.mg W (aCons fa fs)) :=
  PA.imp (pa_cons ha hr hs) fun σ H Q h => Tm.bind (k := fun env x s => (fs env s).bind fun xs s => R.ok (x :: xs) s) h fun m1 H1 env x v s1 r1 E1 p1 g1 =>
    ⟨m1, env, s1, r1, E1, G.bind g1 fun m2 H2 xs vs s2 l2 r2 p2 g2 => g2 m2 H2 _ .refl r2 (.cons (p1.mono l2) p2)⟩
theorem ce_tup {k : Nat} (h : PA X es (Ta X.K X.mg W fs)) : PE X (.Tuple es k pos) (Te X.K X.mg W (eTup fs)) :=
  PE.imp (pe_tup h) fun σ H Q h => Tm.bind (k := fun env xs s => if xs.length ≤ sizeLine then R.ok (D.tup xs) s else R.no) h fun m1 H1 env xs vs s1 r1 E1 p1 g1 => by
    by_cases hz : xs.length ≤ sizeLine
    · simp only [hz, if_true] at g1
      exact ⟨by rw [← p1.length]; exact hz, fun p hp => g1 m1 _ _ (le_new hp) (r1.tmp hp) (rep_newtup hp p1)⟩
    · simp only [hz, if_false] at g1
      exact g1.elim
theorem newlist {xs : List D} {vs : List V} {m : List Addr} {H : Hp} {s : Store} {σ : L2.St} {Q : VK} {mg : Str → Option Value} (r : Rel X.K m H s) (p : Reps X.K m H xs vs) (g : G X.K mg (Rep X.K) W σ m H Q (.ok (.loc s.length) (s ++ [.lst xs]))) :
    ∀ q, H q = none → Q (.ref q) (upd H q (.lst vs)) := fun q hq => g (m ++ [q]) _ _ (le_more r hq) (rel_newlist r hq p) (.loc (len_get r))
theorem ce_lst (h : PA X es (Ta X.K X.mg W fs)) : PE X (.List es pos) (Te X.K X.mg W (eLst fs)) :=
  PE.imp (pe_lst h) fun σ H Q h => Tm.bind (k := fun env xs s => if xs.length ≤ sizeLine then R.ok (D.loc s.length) (s ++ [.lst xs]) else R.no) h fun m1 H1 env xs vs s1 r1 E1 p1 g1 => by
    by_cases hz : xs.length ≤ sizeLine
    · simp only [hz, if_true] at g1
      exact ⟨by rw [← p1.length]; exact hz, newlist r1 p1 g1⟩
    · simp only [hz, if_false] at g1
      exact g1.elim
/-! #### calls of builtins, by values -/
def FnS (K : PySem.W.Frag) (r : List V → Hp → VK → Prop) (g : List D → Store → Option (D × Store)) : Prop :=
  ∀ {mg : Str → Option Value} {W : WX} {σ : L2.St} {m : List Addr} {H : Hp} {s : Store} {xs : List V} {ds : List D} {Q : VK}, Rel K m H s → Reps K m H ds xs → G K mg (Rep K) W σ m H Q (R.of (g ds s)) → r xs H Q
theorem eFn_run {r : List V → Hp → VK → Prop} {g : List D → Store → Option (D × Store)} (hs : FnS X.K r g) : ∀ σ H Q, Te X.K X.mg W (eFn g fs) σ H Q → tCB r (Ta X.K X.mg W fs) σ H Q := fun σ H Q h =>
  Tm.bind (k := fun env xs s => R.of (g xs s)) h fun m1 H1 env x v s1 r1 E1 p1 g1 => hs r1 p1 g1
theorem ce_callB {x id : String} {p : Pos} {r : List V → Hp → VK → Prop} {g : List D → Store → Option (D × Store)} (hc : CallR X (.builtin id) r) (hs : FnS X.K r g) (hg : Gl X x) (hm : X.mg x = none) (hv : bootBuiltins x = some (.builtin id)) (ha : PA X (e :: es) (Ta X.K X.mg W fs))
    (hn : (x : Str) ≠ "__name__" := by decide) (hdb : ((x : Str) == ("__debug__" : Str)) = false := by decide)
    (he : starEach (e :: es) X.env = (false, eval e X.env) :: starEach es X.env := by rfl) (hpl : (backTo pos (starEach es X.env)).any (·.1) = false := by rfl) : PE X (.Call (.Name x p) (e :: es) [] pos) (Te X.K X.mg W (eFn g fs)) :=
  PE.imp (pe_callB hc hg hm hv ha hn hdb he hpl) (eFn_run hs)
theorem ce_callTy {x id : String} {p : Pos} {r : List V → Hp → VK → Prop} {g : List D → Store → Option (D × Store)} (hc : CallR X (.type id) r) (hs : FnS X.K r g) (hg : Gl X x) (hm : X.mg x = none) (hv : bootBuiltins x = some (.type id)) (ha : PA X (e :: es) (Ta X.K X.mg W fs))
    (hn : (x : Str) ≠ "__name__" := by decide) (hdb : ((x : Str) == ("__debug__" : Str)) = false := by decide)
    (he : starEach (e :: es) X.env = (false, eval e X.env) :: starEach es X.env := by rfl) (hpl : (backTo pos (starEach es X.env)).any (·.1) = false := by rfl) : PE X (.Call (.Name x p) (e :: es) [] pos) (Te X.K X.mg W (eFn g fs)) :=
  PE.imp (pe_callTy hc hg hm hv ha hn hdb he hpl) (eFn_run hs)
/-! #### one-place -/
def UnS (K : PySem.W.Frag) (r : V → Hp → VK → Prop) (g : D → Store → Option (D × Store)) : Prop :=
  ∀ {mg : Str → Option Value} {W : WX} {σ : L2.St} {m : List Addr} {H : Hp} {s : Store} {x : V} {d : D} {Q : VK}, Rel K m H s → Rep K m H d x → G K mg (Rep K) W σ m H Q (R.of (g d s)) → r x H Q
theorem ce_un {op : UnaryOp} {r : V → Hp → VK → Prop} {g : D → Store → Option (D × Store)} (ho : UnR X (unaryOp op) r) (hs : UnS X.K r g) (ha : PE X a (Te X.K X.mg W fa)) : PE X (.UnaryOp op a pos) (Te X.K X.mg W (e1 g fa)) :=
  PE.imp (pe_un ho ha) fun σ H Q h => Tm.bind (k := fun env x s => R.of (g x s)) h fun m1 H1 env x v s1 r1 E1 p1 g1 => hs r1 p1 g1
/-! #### a def's promise: its mirror's value -/
def spM (K : PySem.W.Frag) (mg : Str → Option Value) (n : Nat) (g : List D → Store → R D) : Sp := fun vs H Q E => vs.length = n ∧
  ∃ m s ds, Rel K m H s ∧ Reps K m H ds vs ∧ G K mg (Rep K) (fun c d _ H => E c d H) [] m H Q (g ds s)
theorem ce_call {k n : Nat} {f : Addr} {fd : FuncData} {ps : List Str} {x : Str} {p : Pos} {g : List D → Store → R D} (F : FnOk X.prog X.w X.K X.mg X.base (L2.CX X.prog X.w) k f fd ps (spM X.K X.mg n g)) (hr : Room k X.A) (tk : Takes X W) (hg : Gl X x) (hm : X.mg x = some (.ref f)) (hk : PySem.W.keepIn X.K (.ref f) = true) (hb : Binds X.K fd ps [])
    (hn : ∀ xs s env, ∀ s', fs env s = .ok xs s' → xs.length = n) (ha : PA X (e :: es) (Ta X.K X.mg W fs)) (hdb : (x == ("__debug__" : Str)) = false := by decide) (he : starEach (e :: es) X.env = (false, eval e X.env) :: starEach es X.env := by rfl) (hpl : (backTo pos (starEach es X.env)).any (·.1) = false := by rfl) :
    PE X (.Call (.Name x p) (e :: es) [] pos) (Te X.K X.mg W (eCall g fs)) :=
  PE.imp (pe_callS (E := WE W) F hr hg hm hk hb (fun σ => passAt tk σ) ha hdb he hpl) fun σ H Q h => by
    obtain ⟨m, env, s, r, E, g0⟩ := h
    refine ⟨m, env, s, r, E, ?_⟩
    unfold eCall at g0
    cases hf : fs env s with
    | ok xs s1 =>
      rw [hf] at g0
      intro m1 H1 vs l1 r1 p1
      refine ⟨by rw [← p1.length]; exact hn xs s env s1 hf, m1, s1, xs, r1, p1, ?_⟩
      have g1 : G X.K X.mg (Rep X.K) W σ m H Q (g xs s1) := g0
      have g2 := g1.mono l1
      cases hgx : g xs s1 with
      | ok a s2 => rw [hgx] at g2; exact g2
      | ex x2 s2 => rw [hgx] at g2; exact g2
      | no => rw [hgx] at g2; exact g2
    | ex x s1 => rw [hf] at g0; exact g0
    | no => rw [hf] at g0; exact g0.elim
end
end Mi
namespace Mi
open PySem PySem.Spec PyProof.Rows L2
/-! ### operations on values: mirrors and their rules -/
section
variable {K : PySem.W.Frag}
theorem OpS.or {r r' : R2} {g : D → D → Store → Option (D × Store)} (h : ∀ {mg : Str → Option Value} {W : WX} {σ : L2.St} {m : List Addr} {H : Hp} {s : Store} {x y : V} {dx dy : D} {Q : VK}, Rel K m H s → Rep K m H dx x → Rep K m H dy y → G K mg (Rep K) W σ m H Q (R.of (g dx dy s)) → r x y H Q ∨ r' x y H Q) : OpS K (fun x y H Q => r x y H Q ∨ r' x y H Q) g := h
/-- two ints -/
def dI (f : Int → Int → Option D) : D → D → Store → Option (D × Store)
  | .int i, .int j, s => (f i j).map fun d => (d, s)
  | _, _, _ => none
theorem ops_dI {C : Int → Int → Prop} {gv : Int → Int → V} {f : Int → Int → Option D} (h : ∀ i j d, f i j = some d → C i j ∧ ∀ m H, Rep K m H d (gv i j)) : OpS K (rI C gv) (dI f) := by
  intro mg W σ m H s x y dx dy Q r px py g
  cases dx with
  | int i =>
    cases dy with
    | int j =>
      cases px; cases py
      cases e : f i j with
      | none => rw [show R.of (dI f (.int i) (.int j) s) = R.no by simp [dI, e]] at g; exact g.elim
      | some d =>
        rw [show R.of (dI f (.int i) (.int j) s) = .ok d s by simp [dI, e]] at g
        obtain ⟨h1, h2⟩ := h i j d e
        exact ⟨i, j, rfl, rfl, h1, g.now r (h2 m H)⟩
    | _ => exact g.elim
  | _ => exact g.elim
theorem ops_dI0 {gv : Int → Int → V} {f : Int → Int → D} (h : ∀ i j m H, Rep K m H (f i j) (gv i j)) : OpS K (rI0 gv) (dI fun i j => some (f i j)) := by
  intro mg W σ m H s x y dx dy Q r px py g
  obtain ⟨i, j, e1, e2, _, q⟩ := ops_dI (K := K) (C := fun _ _ => True) (gv := gv) (fun i j d e => ⟨trivial, by cases e; exact h i j⟩) r px py g
  exact ⟨i, j, e1, e2, q⟩
def dAdd : D → D → Store → Option (D × Store)
  | .int i, .int j, s => some (.int (i + j), s)
  | .str x, .str y, s => if x.length + y.length ≤ sizeLine then some (.str (x ++ y), s) else none
  | .tup xs, .tup ys, s => if xs.length + ys.length ≤ sizeLine then some (.tup (xs ++ ys), s) else none
  | .loc l, .loc k, s => match s[l]?, s[k]? with
    | some (.lst xs), some (.lst ys) => if xs.length + ys.length ≤ sizeLine then some (.loc s.length, s ++ [.lst (xs ++ ys)]) else none
    | _, _ => none
  | _, _, _ => none
def rAddA (K : PySem.W.Frag) : R2 := fun x y H Q => rI0 (fun i j => .int (i + j)) x y H Q ∨ (∃ i j, x = .str i ∧ y = .str j ∧ i.length + j.length ≤ sizeLine ∧ Q (.str (i ++ j)) H) ∨ rCatA K x y H Q ∨ rCat x y H Q
theorem op_addA {X : Cx} : OpR X (binaryOp .Add) (rAddA X.K) := op_add.or (op_add_str.or (op_catA.or op_cat))
theorem ops_add : OpS K (rAddA K) dAdd := by
  intro mg W σ m H s x y dx dy Q r px py g
  cases dx with
  | int i =>
    cases dy with
    | int j => cases px; cases py; exact .inl ⟨i, j, rfl, rfl, g.now r (.int _)⟩
    | _ => exact g.elim
  | str i =>
    cases dy with
    | str j =>
      cases px; cases py
      by_cases hz : i.length + j.length ≤ sizeLine
      · rw [show dAdd (.str i) (.str j) s = some (.str (i ++ j), s) by simp [dAdd, hz]] at g
        exact .inr (.inl ⟨i, j, rfl, rfl, hz, g.now r (.str _)⟩)
      · rw [show dAdd (.str i) (.str j) s = none by simp [dAdd, hz]] at g; exact g.elim
    | _ => exact g.elim
  | tup xs =>
    cases dy with
    | tup ys =>
      cases px with
      | tup h1 r1 =>
        cases py with
        | tup h2 r2 =>
          by_cases hz : xs.length + ys.length ≤ sizeLine
          · rw [show dAdd (.tup xs) (.tup ys) s = some (.tup (xs ++ ys), s) by simp [dAdd, hz]] at g
            refine .inr (.inr (.inl ⟨_, _, _, _, rfl, rfl, .inl (.inl h1), .inl (.inl h2), by rw [← r1.length, ← r2.length]; exact hz, fun e => ?_, fun _ e => ?_, fun _ _ p hp => ?_⟩))
            · subst e; cases r1; exact g.now r (.tup h2 r2)
            · subst e; cases r2; rw [List.append_nil] at g; exact g.now r (.tup h1 r1)
            · exact g m _ _ (le_new hp) (r.tmp hp) (rep_newtup hp (r1.append r2))
          · rw [show dAdd (.tup xs) (.tup ys) s = none by simp [dAdd, hz]] at g; exact g.elim
    | _ => exact g.elim
  | loc l =>
    cases dy with
    | loc k =>
      cases px with
      | loc h1 =>
        cases py with
        | loc h2 =>
          cases e1 : s[l]? with
          | none => rw [show dAdd (.loc l) (.loc k) s = none by simp [dAdd, e1]] at g; exact g.elim
          | some c1 =>
            cases c1 with
            | dic _ => rw [show dAdd (.loc l) (.loc k) s = none by simp [dAdd, e1]] at g; exact g.elim
            | dct _ => rw [show dAdd (.loc l) (.loc k) s = none by simp [dAdd, e1]] at g; exact g.elim
            | lst xs =>
              cases e2 : s[k]? with
              | none => rw [show dAdd (.loc l) (.loc k) s = none by simp [dAdd, e1, e2]] at g; exact g.elim
              | some c2 =>
                cases c2 with
                | dic _ => rw [show dAdd (.loc l) (.loc k) s = none by simp [dAdd, e1, e2]] at g; exact g.elim
                | dct _ => rw [show dAdd (.loc l) (.loc k) s = none by simp [dAdd, e1, e2]] at g; exact g.elim
                | lst ys =>
                  by_cases hz : xs.length + ys.length ≤ sizeLine
                  · rw [show dAdd (.loc l) (.loc k) s = some (.loc s.length, s ++ [.lst (xs ++ ys)]) by simp [dAdd, e1, e2, hz]] at g
                    obtain ⟨vs, q1, p1⟩ := r.list h1 e1
                    obtain ⟨ws, q2, p2⟩ := r.list h2 e2
                    refine .inr (.inr (.inr ⟨_, _, vs, ws, rfl, rfl, q1, q2, by rw [← p1.length, ← p2.length]; exact hz, fun p hp => ?_⟩))
                    exact g (m ++ [p]) _ _ (le_more r hp) (rel_newlist r hp (p1.append p2)) (.loc (len_get r))
                  · rw [show dAdd (.loc l) (.loc k) s = none by simp [dAdd, e1, e2, hz]] at g; exact g.elim
    | _ => exact g.elim
  | _ => exact g.elim
def dSub := dI fun i j => some (.int (i - j))
theorem ops_sub : OpS K (rI0 fun i j => .int (i - j)) dSub := ops_dI0 fun _ _ _ _ => .int _
noncomputable instance (i j : Int) : Decidable (CMul i j) := Classical.propDecidable _
noncomputable instance (i j : Int) : Decidable (CDiv i j) := Classical.propDecidable _
noncomputable instance (i j : Int) : Decidable (CDivN i j) := Classical.propDecidable _
noncomputable instance (i j : Int) : Decidable (CPow i j) := Classical.propDecidable _
noncomputable def dMul := dI fun i j => if CMul i j then some (.int (i * j)) else none
theorem ops_mul : OpS K (rI CMul fun i j => .int (i * j)) dMul := ops_dI fun i j d h => by
  split at h
  · cases h; exact ⟨by assumption, fun _ _ => .int _⟩
  · cases h
noncomputable def dDiv := dI fun i j => if CDiv i j then some (.int (i / j)) else none
theorem ops_div : OpS K (rI CDiv fun i j => .int (i / j)) dDiv := ops_dI fun i j d h => by
  split at h
  · cases h; exact ⟨by assumption, fun _ _ => .int _⟩
  · cases h
noncomputable def dMod := dI fun i j => if 0 < j then some (.int (i % j)) else none
theorem ops_mod : OpS K (rI (fun _ j => 0 < j) fun i j => .int (i % j)) dMod := ops_dI fun i j d h => by
  split at h
  · cases h; exact ⟨by assumption, fun _ _ => .int _⟩
  · cases h
noncomputable def dPow := dI fun i j => if CPow i j then some (.int (i ^ j.toNat)) else none
theorem ops_pow : OpS K (rI CPow fun i j => .int (i ^ j.toNat)) dPow := ops_dI fun i j d h => by
  split at h
  · cases h; exact ⟨by assumption, fun _ _ => .int _⟩
  · cases h
def dNeg : D → Store → Option (D × Store)
  | .int i, s => some (.int (-i), s)
  | _, _ => none
theorem uns_neg : UnS K (rU fun i => .int (-i)) dNeg := by
  intro mg W σ m H s x d Q r p g
  cases d with
  | int i => cases p; exact ⟨i, rfl, g.now r (.int _)⟩
  | _ => exact g.elim
/-! #### comparisons -/
def dLt : D → D → Store → Option (D × Store)
  | .int i, .int j, s => some (.bl (decide (i < j)), s)
  | .str x, .str y, s => some (.bl (decide (x.cps.toList < y.cps.toList)), s)
  | _, _, _ => none
def dLe : D → D → Store → Option (D × Store)
  | .int i, .int j, s => some (.bl (decide (i ≤ j)), s)
  | .str x, .str y, s => some (.bl (!decide (y.cps.toList < x.cps.toList)), s)
  | _, _, _ => none
def dGt : D → D → Store → Option (D × Store)
  | .int i, .int j, s => some (.bl (decide (j < i)), s)
  | .str x, .str y, s => some (.bl (decide (y.cps.toList < x.cps.toList)), s)
  | _, _, _ => none
def dGe : D → D → Store → Option (D × Store)
  | .int i, .int j, s => some (.bl (decide (j ≤ i)), s)
  | .str x, .str y, s => some (.bl (!decide (x.cps.toList < y.cps.toList)), s)
  | _, _, _ => none
def rCmpA (f : Int → Int → Bool) (k : Str → Str → Bool) : R2 := fun x y H Q => rI0 (fun i j => .bl (f i j)) x y H Q ∨ ∃ i j, x = .str i ∧ y = .str j ∧ Q (.bl (k i j)) H
theorem ops_cmp {f : Int → Int → Bool} {k : Str → Str → Bool} {g : D → D → Store → Option (D × Store)} (h1 : ∀ i j s, g (.int i) (.int j) s = some (.bl (f i j), s)) (h2 : ∀ i j s, g (.str i) (.str j) s = some (.bl (k i j), s))
    (h3 : ∀ x y s, (∀ i j, x = .int i → y = .int j → False) → (∀ i j, x = .str i → y = .str j → False) → g x y s = none) : OpS K (rCmpA f k) g := by
  intro mg W σ m H s x y dx dy Q r px py q
  by_cases ha : ∃ i j, dx = .int i ∧ dy = .int j
  · obtain ⟨i, j, rfl, rfl⟩ := ha
    cases px; cases py
    rw [h1] at q
    exact .inl ⟨i, j, rfl, rfl, q.now r (.bl _)⟩
  · by_cases hb : ∃ i j, dx = .str i ∧ dy = .str j
    · obtain ⟨i, j, rfl, rfl⟩ := hb
      cases px; cases py
      rw [h2] at q
      exact .inr ⟨i, j, rfl, rfl, q.now r (.bl _)⟩
    · rw [h3 dx dy s (fun i j e1 e2 => ha ⟨i, j, e1, e2⟩) (fun i j e1 e2 => hb ⟨i, j, e1, e2⟩)] at q
      exact q.elim
theorem ops_lt : OpS K (rCmpA (fun i j => decide (i < j)) fun x y => decide (x.cps.toList < y.cps.toList)) dLt :=
  ops_cmp (fun _ _ _ => rfl) (fun _ _ _ => rfl) fun x y s h1 h2 => by cases x <;> cases y <;> first | rfl | exact (h1 _ _ rfl rfl).elim | exact (h2 _ _ rfl rfl).elim
theorem ops_le : OpS K (rCmpA (fun i j => decide (i ≤ j)) fun x y => !decide (y.cps.toList < x.cps.toList)) dLe :=
  ops_cmp (fun _ _ _ => rfl) (fun _ _ _ => rfl) fun x y s h1 h2 => by cases x <;> cases y <;> first | rfl | exact (h1 _ _ rfl rfl).elim | exact (h2 _ _ rfl rfl).elim
theorem ops_gt : OpS K (rCmpA (fun i j => decide (j < i)) fun x y => decide (y.cps.toList < x.cps.toList)) dGt :=
  ops_cmp (fun _ _ _ => rfl) (fun _ _ _ => rfl) fun x y s h1 h2 => by cases x <;> cases y <;> first | rfl | exact (h1 _ _ rfl rfl).elim | exact (h2 _ _ rfl rfl).elim
theorem ops_ge : OpS K (rCmpA (fun i j => decide (j ≤ i)) fun x y => !decide (x.cps.toList < y.cps.toList)) dGe :=
  ops_cmp (fun _ _ _ => rfl) (fun _ _ _ => rfl) fun x y s h1 h2 => by cases x <;> cases y <;> first | rfl | exact (h1 _ _ rfl rfl).elim | exact (h2 _ _ rfl rfl).elim
theorem opA_lt {X : Cx} : OpR X (compareOp .Lt) (rCmpA (fun i j => decide (i < j)) fun x y => decide (x.cps.toList < y.cps.toList)) := op_lt.or op_lt_str
theorem opA_le {X : Cx} : OpR X (compareOp .LtE) (rCmpA (fun i j => decide (i ≤ j)) fun x y => !decide (y.cps.toList < x.cps.toList)) := op_le.or op_le_str
theorem opA_gt {X : Cx} : OpR X (compareOp .Gt) (rCmpA (fun i j => decide (j < i)) fun x y => decide (y.cps.toList < x.cps.toList)) := op_gt.or op_gt_str
theorem opA_ge {X : Cx} : OpR X (compareOp .GtE) (rCmpA (fun i j => decide (j ≤ i)) fun x y => !decide (x.cps.toList < y.cps.toList)) := op_ge.or op_ge_str
/-! #### == and != -/
mutual
/-- data without places -/
def py0 : D → Option PyData
  | .non => some .none
  | .bl b => some (.bool b)
  | .int i => some (.int i)
  | .str x => some (.str x)
  | .tup xs => (pys0 xs).map .tuple
  | .fl xs => (pys0 xs).map .list
  | .loc _ => none
  | .exv _ _ _ _ => none
def pys0 : List D → Option (List PyData)
  | [] => some []
  | x :: xs => (py0 x).bind fun a => (pys0 xs).map fun r => a :: r
end
/-- data, a list of the store at its head -/
def py1 (s : Store) : D → Option PyData
  | .loc l => match s[l]? with
    | some (.lst xs) => (pys0 xs).map .list
    | _ => none
  | d => py0 d
mutual
theorem py0_dp {m : List Addr} {H : Hp} : ∀ {d : D} {v : V} {p : PyData}, Rep K m H d v → py0 d = some p → Dp K H v p
  | .non, _, _, .non, e => by cases e; exact .non
  | .bl b, _, _, .bl _, e => by cases e; exact .bl b
  | .int b, _, _, .int _, e => by cases e; exact .int b
  | .str b, _, _, .str _, e => by cases e; exact .str b
  | .tup xs, _, _, .tup h r, e => by
    unfold py0 at e
    cases q : pys0 xs with
    | none => rw [q] at e; cases e
    | some ps => rw [q] at e; cases e; exact .tup (.inl (.inl h)) (pys0_dp r q)
  | .fl xs, _, _, .fl h r, e => by
    unfold py0 at e
    cases q : pys0 xs with
    | none => rw [q] at e; cases e
    | some ps => rw [q] at e; cases e; exact .lst h.sq (pys0_dp r q)
  | .loc _, _, _, _, e => by cases e
  | .exv _ _ _ _, _, _, _, e => by cases e
theorem pys0_dp {m : List Addr} {H : Hp} : ∀ {ds : List D} {vs : List V} {ps : List PyData}, Reps K m H ds vs → pys0 ds = some ps → DpAll K H vs ps
  | [], _, _, .nil, e => by cases e; exact .nil
  | x :: xs, _, _, .cons h r, e => by
    unfold pys0 at e
    cases q : py0 x with
    | none => rw [q] at e; cases e
    | some a =>
      cases q2 : pys0 xs with
      | none => rw [q, q2] at e; cases e
      | some b => rw [q, q2] at e; cases e; exact .cons (py0_dp h q) (pys0_dp r q2)
end
theorem py1_dp {m : List Addr} {H : Hp} {s : Store} (r : Rel K m H s) {d : D} {v : V} {p : PyData} (h : Rep K m H d v) (e : py1 s d = some p) : Dp K H v p := by
  cases d with
  | loc l =>
    cases h with
    | loc h =>
      unfold py1 at e
      cases q : s[l]? with
      | none => simp [q] at e
      | some c =>
        cases c with
        | dic _ => simp [q] at e
        | dct _ => simp [q] at e
        | lst xs =>
          simp only [q] at e
          obtain ⟨vs, q1, p1⟩ := r.list h q
          cases q2 : pys0 xs with
          | none => rw [q2] at e; cases e
          | some ps => rw [q2] at e; cases e; exact .lst (.inl (.inl q1)) (pys0_dp p1 q2)
  | _ => exact py0_dp h e
/-- scalars that == tells apart without more -/
def dScal : D → D → Option Bool
  | .non, .non => some true
  | .non, .int _ => some false | .int _, .non => some false | .non, .bl _ => some false | .bl _, .non => some false | .non, .str _ => some false | .str _, .non => some false
  | .int i, .int j => some (decide (i = j)) | .bl i, .bl j => some (decide (i = j)) | .str i, .str j => some (decide (i = j))
  | .int _, .str _ => some false | .str _, .int _ => some false | .bl _, .str _ => some false | .str _, .bl _ => some false
  | _, _ => none
def dEqB (x y : D) (s : Store) : Option Bool := match dScal x y with
  | some b => some b
  | none => (py1 s x).bind fun a => (py1 s y).bind fun b => if SeqAt.shaped a && SeqAt.shaped b then some (PyData.eqv a b) else none
def dEq (x y : D) (s : Store) : Option (D × Store) := (dEqB x y s).map fun b => (.bl b, s)
def dNe (x y : D) (s : Store) : Option (D × Store) := (dEqB x y s).map fun b => (.bl !b, s)
def rEqA (K : PySem.W.Frag) : R2 := fun x y H Q => rEq x y H Q ∨ rEqD K x y H Q
def rNeA (K : PySem.W.Frag) : R2 := fun x y H Q => rNe x y H Q ∨ rNeD K x y H Q
theorem opA_eq {X : Cx} (hu : X.A.units + 64 < cLine) : OpR X (compareOp .Eq) (rEqA X.K) := op_eq.or (op_eqD hu)
theorem opA_ne {X : Cx} (hu : X.A.units + 64 < cLine) : OpR X (compareOp .NotEq) (rNeA X.K) := op_ne.or (op_neD hu)
theorem scal_of {m : List Addr} {H : Hp} {dx dy : D} {x y : V} {b : Bool} (px : Rep K m H dx x) (py : Rep K m H dy y) (e : dScal dx dy = some b) : scal x y = true ∧ decide (x = y) = b := by
  cases px <;> cases py <;> first | (cases e; done) | (cases e; exact ⟨rfl, by simp⟩)
theorem eqB_cases {m : List Addr} {H : Hp} {s : Store} (r : Rel K m H s) {dx dy : D} {x y : V} {b : Bool} (px : Rep K m H dx x) (py : Rep K m H dy y) (e : dEqB dx dy s = some b) :
    (scal x y = true ∧ decide (x = y) = b) ∨ ∃ d e', Dp K H x d ∧ Dp K H y e' ∧ SeqAt.shaped d = true ∧ SeqAt.shaped e' = true ∧ PyData.eqv d e' = b := by
  unfold dEqB at e
  cases q : dScal dx dy with
  | some c => rw [q] at e; cases e; exact .inl (scal_of px py q)
  | none =>
    rw [q] at e
    cases q1 : py1 s dx with
    | none => rw [q1] at e; cases e
    | some a =>
      cases q2 : py1 s dy with
      | none => rw [q1, q2] at e; cases e
      | some c =>
        rw [q1, q2] at e
        simp only [Option.bind_some] at e
        split at e
        · rename_i hs
          rw [Bool.and_eq_true] at hs
          cases e
          exact .inr ⟨a, c, py1_dp r px q1, py1_dp r py q2, hs.1, hs.2, rfl⟩
        · cases e
theorem ops_eq : OpS K (rEqA K) dEq := by
  intro mg W σ m H s x y dx dy Q r px py g
  unfold dEq at g
  cases e : dEqB dx dy s with
  | none => rw [e] at g; exact g.elim
  | some b =>
    rw [e] at g
    have q := g.now r (.bl b)
    rcases eqB_cases r px py e with ⟨h1, h2⟩ | ⟨d, e', h1, h2, h3, h4, h5⟩
    · exact .inl ⟨h1, by rw [h2]; exact q⟩
    · exact .inr ⟨d, e', h1, h2, h3, h4, by rw [h5]; exact q⟩
theorem ops_ne : OpS K (rNeA K) dNe := by
  intro mg W σ m H s x y dx dy Q r px py g
  unfold dNe at g
  cases e : dEqB dx dy s with
  | none => rw [e] at g; exact g.elim
  | some b =>
    rw [e] at g
    have q := g.now r (.bl (!b))
    rcases eqB_cases r px py e with ⟨h1, h2⟩ | ⟨d, e', h1, h2, h3, h4, h5⟩
    · exact .inl ⟨h1, by rw [h2]; exact q⟩
    · exact .inr ⟨d, e', h1, h2, h3, h4, by rw [h5]; exact q⟩
/-! #### is, is not: None, True, False -/
theorem is_bool_gen {M : Model} {A : Around} {E : Value → Shared → Prop} {s : Shared} {Q : Value → Shared → Prop} {v : Value} {b : Bool} (hn : ∀ i, v ≠ .builtin i) (h : Q (.bool (v == .bool b)) s) : wpAny M A (compareOp .Is v (.bool b)) Q E s := by
  cases v <;> first | exact wpAny_pure h | exact (hn _ rfl).elim
theorem isnot_bool_gen {M : Model} {A : Around} {E : Value → Shared → Prop} {s : Shared} {Q : Value → Shared → Prop} {v : Value} {b : Bool} (hn : ∀ i, v ≠ .builtin i) (h : Q (.bool (!(v == .bool b))) s) : wpAny M A (compareOp .IsNot v (.bool b)) Q E s := by
  cases v <;> first | exact wpAny_pure h | exact (hn _ rfl).elim
theorem relv_nb {x : V} {v : Value} (r : RelV x v) : ∀ i, v ≠ .builtin i := fun i e => by
  subst e
  cases x with
  | non => cases r
  | bl c => cases r
  | int i => obtain ⟨t, e⟩ := r; cases e
  | str i => obtain ⟨t, e⟩ := r; cases e
  | byt i => obtain ⟨t, e⟩ := r; cases e
  | flt i => obtain ⟨t, e⟩ := r; cases e
  | ref i => cases r
  | ty i => cases r
theorem relv_bool {x : V} {v : Value} {b : Bool} (r : RelV x v) : (v == .bool b) = decide (x = .bl b) := by
  cases x with
  | non => cases r; simp
  | bl c => cases r; cases c <;> cases b <;> rfl
  | int i => obtain ⟨t, rfl⟩ := r; simp
  | str i => obtain ⟨t, rfl⟩ := r; simp
  | byt i => obtain ⟨t, rfl⟩ := r; simp
  | flt i => obtain ⟨t, rfl⟩ := r; simp
  | ref i => cases r; simp
  | ty i => cases r; simp
theorem op_isB {X : Cx} : OpR X (compareOp .Is) (fun x y H Q => ∃ b, y = .bl b ∧ Q (.bl (decide (x = .bl b))) H) := by
  intro pins s σ H x y v u Q I rx ry h
  obtain ⟨b, rfl, q⟩ := h
  cases ry
  exact is_bool_gen (relv_nb rx) (fin_bl I q (relv_bool rx).symm)
theorem op_notB {X : Cx} : OpR X (compareOp .IsNot) (fun x y H Q => ∃ b, y = .bl b ∧ Q (.bl (!decide (x = .bl b))) H) := by
  intro pins s σ H x y v u Q I rx ry h
  obtain ⟨b, rfl, q⟩ := h
  cases ry
  exact isnot_bool_gen (relv_nb rx) (fin_bl I q (by rw [relv_bool rx]))
def dIsB : D → D → Option Bool
  | .non, .non => some true
  | _, .non => some false
  | .bl c, .bl b => some (decide (c = b))
  | _, .bl _ => some false
  | _, _ => none
def dIs (x y : D) (s : Store) : Option (D × Store) := (dIsB x y).map fun b => (.bl b, s)
def dIsNot (x y : D) (s : Store) : Option (D × Store) := (dIsB x y).map fun b => (.bl !b, s)
def rIsA : R2 := fun x y H Q => (y = .non ∧ Q (.bl (decide (x = .non))) H) ∨ ∃ b, y = .bl b ∧ Q (.bl (decide (x = .bl b))) H
def rNotA : R2 := fun x y H Q => (y = .non ∧ Q (.bl (!decide (x = .non))) H) ∨ ∃ b, y = .bl b ∧ Q (.bl (!decide (x = .bl b))) H
theorem opA_is {X : Cx} : OpR X (compareOp .Is) rIsA := op_isN.or op_isB
theorem opA_isnot {X : Cx} : OpR X (compareOp .IsNot) rNotA := op_notN.or op_notB
theorem isB_cases {m : List Addr} {H : Hp} {dx dy : D} {x y : V} {b : Bool} (px : Rep K m H dx x) (py : Rep K m H dy y) (e : dIsB dx dy = some b) : (y = .non ∧ decide (x = .non) = b) ∨ ∃ c, y = .bl c ∧ decide (x = .bl c) = b := by
  cases py with
  | non => refine .inl ⟨rfl, ?_⟩; cases px <;> (cases e; simp)
  | bl c => refine .inr ⟨c, rfl, ?_⟩; cases px <;> (cases e; simp)
  | _ => cases px <;> cases e
theorem ops_is : OpS K rIsA dIs := by
  intro mg W σ m H s x y dx dy Q r px py g
  unfold dIs at g
  cases e : dIsB dx dy with
  | none => rw [e] at g; exact g.elim
  | some b =>
    rw [e] at g
    have q := g.now r (.bl b)
    rcases isB_cases px py e with ⟨rfl, h⟩ | ⟨c, rfl, h⟩
    · exact .inl ⟨rfl, by rw [h]; exact q⟩
    · exact .inr ⟨c, rfl, by rw [h]; exact q⟩
theorem ops_isnot : OpS K rNotA dIsNot := by
  intro mg W σ m H s x y dx dy Q r px py g
  unfold dIsNot at g
  cases e : dIsB dx dy with
  | none => rw [e] at g; exact g.elim
  | some b =>
    rw [e] at g
    have q := g.now r (.bl (!b))
    rcases isB_cases px py e with ⟨rfl, h⟩ | ⟨c, rfl, h⟩
    · exact .inl ⟨rfl, by rw [h]; exact q⟩
    · exact .inr ⟨c, rfl, by rw [h]; exact q⟩
end
end Mi
namespace Mi
open PySem PySem.Spec PyProof.Rows L2
section
variable {K : PySem.W.Frag} {m : List Addr} {H : Hp} {s : Store}
theorem Rep.sqT {xs : List D} {v : V} (h : Rep K m H (.tup xs) v) : ∃ a vs, v = .ref a ∧ SqT K H a vs ∧ Reps K m H xs vs := by
  cases h with
  | tup h r => exact ⟨_, _, rfl, .inl (.inl h), r⟩
theorem Rep.trk {xs : List D} {v : V} (h : Rep K m H (.tup xs) v) : ∃ a vs, v = .ref a ∧ H a = some (.tup vs) ∧ Reps K m H xs vs := by
  cases h with
  | tup h r => exact ⟨_, _, rfl, h, r⟩
/-- the items of a list: of the store, or never written -/
def lstOf (s : Store) : D → Option (List D)
  | .loc l => match s[l]? with
    | some (.lst xs) => some xs
    | _ => none
  | .fl xs => some xs
  | _ => none
theorem lstOf_sq (r : Rel K m H s) {d : D} {v : V} {xs : List D} (p : Rep K m H d v) (e : lstOf s d = some xs) : ∃ a vs, v = .ref a ∧ SqL K H a vs ∧ Reps K m H xs vs := by
  cases d with
  | loc l =>
    cases p with
    | loc h =>
      unfold lstOf at e
      cases q : s[l]? with
      | none => simp [q] at e
      | some c =>
        cases c with
        | dic _ => simp [q] at e
        | dct _ => simp [q] at e
        | lst ys =>
          simp only [q] at e
          cases e
          obtain ⟨vs, h1, h2⟩ := r.list h q
          exact ⟨_, vs, rfl, .inl (.inl h1), h2⟩
  | fl ys =>
    cases e
    cases p with
    | fl h q => exact ⟨_, _, rfl, h.sq, q⟩
  | _ => cases e
/-- list or tuple -/
def seqOf (s : Store) : D → Option (List D)
  | .tup xs => some xs
  | d => lstOf s d
theorem seqOf_sq (r : Rel K m H s) {d : D} {v : V} {xs : List D} (p : Rep K m H d v) (e : seqOf s d = some xs) : ∃ a vs, v = .ref a ∧ (SqL K H a vs ∨ SqT K H a vs) ∧ Reps K m H xs vs := by
  cases d with
  | tup ys =>
    cases e
    obtain ⟨a, vs, h1, h2, h3⟩ := p.sqT
    exact ⟨a, vs, h1, .inr h2, h3⟩
  | loc l => obtain ⟨a, vs, h1, h2, h3⟩ := lstOf_sq (d := .loc l) r p e; exact ⟨a, vs, h1, .inl h2, h3⟩
  | fl l => obtain ⟨a, vs, h1, h2, h3⟩ := lstOf_sq (d := .fl l) r p e; exact ⟨a, vs, h1, .inl h2, h3⟩
  | _ => cases e
/-! #### a[i] -/
def dIx (x i : D) (s : Store) : Option (D × Store) := match i with
  | .int i => match x with
    | .str z => if z.length ≤ sizeLine then (atI z.cps.toList i).map fun c => (.str ⟨#[c]⟩, s) else none
    | x => (seqOf s x).bind fun xs => (atI xs i).map fun d => (d, s)
  | _ => none
theorem Reps.atI {xs : List D} {vs : List V} {i : Int} {d : D} (r : Reps K m H xs vs) (e : L2.atI xs i = some d) : ∃ v, L2.atI vs i = some v ∧ Rep K m H d v := by
  unfold L2.atI at e ⊢
  rw [← r.length]
  cases q : ixN xs.length i with
  | none => rw [q] at e; cases e
  | some j =>
    rw [q] at e
    exact r.get e
theorem ops_ix : OpS K (rIx K) dIx := by
  intro mg W σ m H s x y dx dy Q r px py g
  cases dy with
  | int i =>
    cases py
    have seq : ∀ xs, seqOf s dx = some xs → (∀ d, L2.atI xs i = some d → G K mg (Rep K) W σ m H Q (.ok d s)) → (L2.atI xs i).isSome → rIx K x (.int i) H Q := by
      intro xs e q hs
      obtain ⟨d, hd⟩ := Option.isSome_iff_exists.mp hs
      obtain ⟨a, vs, rfl, hq, rr⟩ := seqOf_sq r px e
      obtain ⟨v, hv, rv⟩ := rr.atI hd
      have q2 := (q d hd).now r rv
      rcases hq with hq | hq
      · exact .inl ⟨a, vs, i, v, rfl, rfl, hq, hv, q2⟩
      · exact .inr (.inl ⟨a, vs, i, v, rfl, rfl, hq, hv, q2⟩)
    have gen : (∀ z, dx ≠ .str z) → rIx K x (.int i) H Q := by
      intro hn
      have e : dIx dx (.int i) s = (seqOf s dx).bind fun xs => (L2.atI xs i).map fun d => (d, s) := by
        cases dx <;> first | rfl | exact (hn _ rfl).elim
      rw [e] at g
      cases q : seqOf s dx with
      | none => rw [q] at g; exact g.elim
      | some xs =>
        rw [q] at g
        cases q2 : L2.atI xs i with
        | none => simp [q2] at g; exact g.elim
        | some d =>
          simp [q2] at g
          exact seq xs q (fun d' h => by rw [q2] at h; cases h; exact g) (by simp [q2])
    cases dx with
    | str z =>
      cases px
      by_cases hz : z.length ≤ sizeLine
      · cases q2 : L2.atI z.cps.toList i with
        | none => simp [dIx, hz, q2] at g; exact g.elim
        | some c =>
          simp [dIx, hz, q2] at g
          exact .inr (.inr ⟨z, i, c, rfl, rfl, hz, q2, g.now r (.str _)⟩)
      · simp [dIx, hz] at g; exact g.elim
    | _ => exact gen (fun z e => by cases e)
  | _ => exact g.elim
/-! #### slices -/
def cutD (xs : List D) (lo hi : Option Int) : List D := (xs.drop (HT.sIx xs.length 0 lo)).take (HT.sIx xs.length xs.length hi - HT.sIx xs.length 0 lo)
theorem Reps.cut {xs : List D} {vs : List V} (r : Reps K m H xs vs) (lo hi : Option Int) : Reps K m H (cutD xs lo hi) (cutV vs lo hi) := by
  unfold cutD cutV
  rw [← r.length]
  exact (r.drop _).take _
def dSl (x : D) (lo hi : Option Int) (s : Store) : Option (D × Store) := match x with
  | .tup xs => some (.tup (cutD xs lo hi), s)
  | x => (lstOf s x).map fun xs => (.loc s.length, s ++ [.lst (cutD xs lo hi)])
def SlS (K : PySem.W.Frag) (r : V → Option Int → Option Int → Hp → VK → Prop) (g : D → Option Int → Option Int → Store → Option (D × Store)) : Prop :=
  ∀ {mg : Str → Option Value} {W : WX} {σ : L2.St} {m : List Addr} {H : Hp} {s : Store} {x : V} {d : D} {lo hi : Option Int} {Q : VK}, Rel K m H s → Rep K m H d x → G K mg (Rep K) W σ m H Q (R.of (g d lo hi s)) → r x lo hi H Q
def rSlS : V → Option Int → Option Int → Hp → VK → Prop := fun x lo hi H Q => ∃ z : Str, x = .str z ∧ z.length ≤ sizeLine ∧ Q (.str (cutS z lo hi)) H
def rSlLT (K : PySem.W.Frag) : V → Option Int → Option Int → Hp → VK → Prop := fun x lo hi H Q => rSlL K x lo hi H Q ∨ rSlA K x lo hi H Q
theorem sl_LT {X : Cx} : SlR X (rSlLT X.K) := sl_list.or sl_tupA
theorem sls_LT : SlS K (rSlLT K) dSl := by
  intro mg W σ m H s x d lo hi Q r p g
  have lst : ∀ xs, lstOf s d = some xs → G K mg (Rep K) W σ m H Q (.ok (.loc s.length) (s ++ [.lst (cutD xs lo hi)])) → rSlLT K x lo hi H Q := by
    intro xs e q
    obtain ⟨a, vs, rfl, hq, rr⟩ := lstOf_sq r p e
    exact .inl ⟨a, vs, rfl, hq, fun q' hq' => q (m ++ [q']) _ _ (le_more r hq') (rel_newlist r hq' (rr.cut lo hi)) (.loc (len_get r))⟩
  have gen : (∀ ys, d ≠ .tup ys) → rSlLT K x lo hi H Q := by
    intro hn
    have e : dSl d lo hi s = (lstOf s d).map fun xs => (.loc s.length, s ++ [.lst (cutD xs lo hi)]) := by
      cases d <;> first | rfl | exact (hn _ rfl).elim
    rw [e] at g
    cases q : lstOf s d with
    | none => rw [q] at g; exact g.elim
    | some xs => rw [q] at g; exact lst xs q g
  cases d with
  | tup xs =>
    obtain ⟨a, vs, rfl, hq, rr⟩ := p.sqT
    have g' : G K mg (Rep K) W σ m H Q (.ok (.tup (cutD xs lo hi)) s) := g
    refine .inr ⟨a, vs, rfl, hq, fun w => ?_, fun _ q hn => g' m _ _ (le_new hn) (r.tmp hn) (rep_newtup hn (rr.cut lo hi))⟩
    have e : cutD xs lo hi = xs := by
      unfold cutD
      rw [rr.length, w.1, w.2, ← rr.length]
      simp
    rw [e] at g'
    exact g'.now r p
  | _ => exact gen (fun z e => by cases e)
def oNone : ME (Option Int) := fun _ s => .ok none s
def oSome (a : ME D) : ME (Option Int) := fun env s => (a env s).bind fun x s => match x with
  | .int i => .ok (some i) s
  | _ => .no
def ρO : List Addr → Hp → Option Int → Option Int → Prop := fun _ _ a b => a = b
abbrev To (K : PySem.W.Frag) (mg : Str → Option Value) (W : WX) (f : ME (Option Int)) : TO := Tm K mg ρO W f
def eSl (g : D → Option Int → Option Int → Store → Option (D × Store)) (a : ME D) (lo hi : ME (Option Int)) : ME D := fun env s => (a env s).bind fun x s => (lo env s).bind fun l s => (hi env s).bind fun u s => R.of (g x l u s)
end
section
variable {X : Cx} {W : WX} {pos p2 : Pos} {a b c e : Expr} {es : List Expr} {fa fb fc : ME D} {ga gb : ME Bool} {fs : ME (List D)} {ol oh : ME (Option Int)} {lo hi : Option Expr}
theorem co_none : PO X none (To X.K X.mg W oNone) := ⟨fun pins s σ H Q I ⟨m, env, st, r, E, g⟩ => po_none.run pins s σ H Q I (g m H none .refl r rfl)⟩
theorem co_some (h : PE X e (Te X.K X.mg W fa)) : PO X (some e) (To X.K X.mg W (oSome fa)) := ⟨fun pins s σ H Q I q =>
  (po_some h).run pins s σ H Q I (Tm.bind (k := fun _ x s => match x with | .int i => R.ok (some i) s | _ => R.no) q fun m1 H1 env x v s1 r1 E1 p1 g1 => by
    cases x with
    | int i => cases p1; exact ⟨i, rfl, g1 m1 H1 (some i) .refl r1 rfl⟩
    | _ => exact g1.elim)⟩
theorem ce_sl {r : V → Option Int → Option Int → Hp → VK → Prop} {g : D → Option Int → Option Int → Store → Option (D × Store)} (hr : SlR X r) (hs : SlS X.K r g) (ha : PE X a (Te X.K X.mg W fa)) (hl : PO X lo (To X.K X.mg W ol)) (hu : PO X hi (To X.K X.mg W oh)) :
    PE X (.Subscript a (.Slice lo hi none p2) pos) (Te X.K X.mg W (eSl g fa ol oh)) :=
  PE.imp (pe_slice hr ha hl hu) fun σ H Q h => Tm.bind (k := fun env x s => (ol env s).bind fun l s => (oh env s).bind fun u s => R.of (g x l u s)) h fun m1 H1 env x v s1 r1 E1 p1 g1 =>
    ⟨m1, env, s1, r1, E1, G.bind g1 fun m2 H2 l l' s2 l2 r2 p2 g2 => ⟨m2, env, s2, r2, E1.mono l2, G.bind g2 fun m3 H3 u u' s3 l3 r3 p3 g3 => by
      cases (show l = l' from p2); cases (show u = u' from p3)
      exact hs r3 ((p1.mono l2).mono l3) g3⟩⟩
end
/-! #### calls of builtins -/
section
variable {K : PySem.W.Frag}
def dLen : List D → Store → Option (D × Store)
  | [.str z], s => if z.length ≤ sizeLine then some (.int z.length, s) else none
  | [x], s => (seqOf s x).map fun xs => (.int xs.length, s)
  | _, _ => none
theorem fns_len : FnS K (fun xs H Q => ∃ x n, xs = [x] ∧ LenV K x H n ∧ Q (.int n) H) dLen := by
  intro mg W σ m H s xs ds Q r p g
  cases p with
  | nil => exact g.elim
  | @cons d v ds2 vs2 h p =>
    cases p with
    | cons h2 p2 => cases d <;> exact g.elim
    | nil =>
      have seq : ∀ xs, seqOf s d = some xs → G K mg (Rep K) W σ m H Q (.ok (.int xs.length) s) → ∃ x n, [v] = [x] ∧ LenV K x H n ∧ Q (.int n) H := by
        intro xs e q
        obtain ⟨a, vs, rfl, hq, rr⟩ := seqOf_sq r h e
        refine ⟨.ref a, xs.length, rfl, ?_, q.now r (.int _)⟩
        rcases hq with hq | hq
        · exact .inl ⟨vs, hq, rr.length⟩
        · exact .inr ⟨vs, hq, rr.length⟩
      have gen : (∀ z, d ≠ .str z) → ∃ x n, [v] = [x] ∧ LenV K x H n ∧ Q (.int n) H := by
        intro hn
        have e : dLen [d] s = (seqOf s d).map fun xs => (.int xs.length, s) := by cases d <;> first | rfl | exact (hn _ rfl).elim
        rw [e] at g
        cases q : seqOf s d with
        | none => rw [q] at g; exact g.elim
        | some xs => rw [q] at g; exact seq xs q g
      cases d with
      | str z =>
        cases h
        by_cases hz : z.length ≤ sizeLine
        · simp [dLen, hz] at g
          exact ⟨.str z, z.length, rfl, ⟨hz, rfl⟩, g.now r (.int _)⟩
        · simp [dLen, hz] at g; exact g.elim
      | _ => exact gen (fun z e => by cases e)
def dInt : List D → Store → Option (D × Store)
  | [.int i], s => some (.int i, s)
  | [.bl k], s => some (.int (if k then 1 else 0), s)
  | _, _ => none
theorem reps1 {m : List Addr} {H : Hp} {d : D} {xs : List V} (p : Reps K m H [d] xs) : ∃ v, xs = [v] ∧ Rep K m H d v := by
  cases p with
  | cons h p => cases p; exact ⟨_, rfl, h⟩
theorem reps2 {m : List Addr} {H : Hp} {d e : D} {xs : List V} (p : Reps K m H [d, e] xs) : ∃ v w, xs = [v, w] ∧ Rep K m H d v ∧ Rep K m H e w := by
  cases p with
  | cons h p =>
    obtain ⟨w, rfl, q⟩ := reps1 p
    exact ⟨_, w, rfl, h, q⟩
theorem fns_int : FnS K (fun xs H Q => (∃ i, xs = [.int i] ∧ Q (.int i) H) ∨ ∃ k, xs = [.bl k] ∧ Q (.int (if k then 1 else 0)) H) dInt := by
  intro mg W σ m H s xs ds Q r p g
  unfold dInt at g
  split at g
  · obtain ⟨v, rfl, h⟩ := reps1 p
    cases h
    exact .inl ⟨_, rfl, g.now r (.int _)⟩
  · obtain ⟨v, rfl, h⟩ := reps1 p
    cases h
    exact .inr ⟨_, rfl, g.now r (.int _)⟩
  · exact g.elim
def dAbs : List D → Store → Option (D × Store)
  | [.int i], s => some (.int (if i < 0 then -i else i), s)
  | _, _ => none
theorem fns_abs : FnS K (fun xs H Q => ∃ i, xs = [.int i] ∧ Q (.int (if i < 0 then -i else i)) H) dAbs := by
  intro mg W σ m H s xs ds Q r p g
  unfold dAbs at g
  split at g
  · obtain ⟨v, rfl, h⟩ := reps1 p
    cases h
    exact ⟨_, rfl, g.now r (.int _)⟩
  · exact g.elim
def dMax2 : List D → Store → Option (D × Store)
  | [.int i, .int j], s => some (.int (if j > i then j else i), s)
  | _, _ => none
theorem fns_max2 : FnS K (fun xs H Q => ∃ i j, xs = [.int i, .int j] ∧ Q (.int (if j > i then j else i)) H) dMax2 := by
  intro mg W σ m H s xs ds Q r p g
  unfold dMax2 at g
  split at g
  · obtain ⟨v, w, rfl, h, h2⟩ := reps2 p
    cases h; cases h2
    exact ⟨_, _, rfl, g.now r (.int _)⟩
  · exact g.elim
def dMin2 : List D → Store → Option (D × Store)
  | [.int i, .int j], s => some (.int (if j < i then j else i), s)
  | _, _ => none
theorem fns_min2 : FnS K (fun xs H Q => ∃ i j, xs = [.int i, .int j] ∧ Q (.int (if j < i then j else i)) H) dMin2 := by
  intro mg W σ m H s xs ds Q r p g
  unfold dMin2 at g
  split at g
  · obtain ⟨v, w, rfl, h, h2⟩ := reps2 p
    cases h; cases h2
    exact ⟨_, _, rfl, g.now r (.int _)⟩
  · exact g.elim
/-- all ints -/
def intsOf : List D → Option (List Int)
  | [] => some []
  | .int i :: r => (intsOf r).map fun x => i :: x
  | _ :: _ => none
theorem intsOf_map (ns : List Int) : intsOf (ns.map D.int) = some ns := by
  induction ns with
  | nil => rfl
  | cons n ns ih => simp [intsOf, ih]
theorem of_intsOf : ∀ {ds : List D} {ns : List Int}, intsOf ds = some ns → ds = ns.map D.int
  | [], _, e => by cases e; rfl
  | d :: ds, ns, e => by
    cases d with
    | int i =>
      unfold intsOf at e
      cases q : intsOf ds with
      | none => rw [q] at e; cases e
      | some x => rw [q] at e; cases e; rw [List.map_cons, of_intsOf q]
    | _ => cases e
def dSum : List D → Store → Option (D × Store)
  | [x], s => (lstOf s x).bind fun xs => (intsOf xs).map fun ns => (.int ns.sum, s)
  | _, _ => none
theorem fns_sum : FnS K (rSum K) dSum := by
  intro mg W σ m H s xs ds Q r p g
  unfold dSum at g
  split at g
  · obtain ⟨v, rfl, h⟩ := reps1 p
    rename_i x
    cases q : lstOf s x with
    | none => rw [q] at g; exact g.elim
    | some ys =>
      rw [q] at g
      cases q2 : intsOf ys with
      | none => simp [q2] at g; exact g.elim
      | some ns =>
        simp [q2] at g
        obtain ⟨a, vs, rfl, hq, rr⟩ := lstOf_sq r h q
        rw [of_intsOf q2] at rr
        have e := rr.ints
        subst e
        exact ⟨a, ns, rfl, hq, g.now r (.int _)⟩
  · exact g.elim
def dTuple : List D → Store → Option (D × Store)
  | [x], s => (seqOf s x).map fun xs => (.tup xs, s)
  | _, _ => none
theorem fns_tuple : FnS K (fun xs H Q => ∃ p ys, xs = [.ref p] ∧ ((SqL K H p ys ∧ ∀ l, H l = none → Q (.ref l) (upd H l (.tup ys))) ∨ (SqT K H p ys ∧ Q (.ref p) H))) dTuple := by
  intro mg W σ m H s xs ds Q r p g
  unfold dTuple at g
  split at g
  · obtain ⟨v, rfl, h⟩ := reps1 p
    rename_i x
    cases q : seqOf s x with
    | none => rw [q] at g; exact g.elim
    | some ys =>
      rw [q] at g
      have g' : G K mg (Rep K) W σ m H Q (.ok (.tup ys) s) := g
      have gen : (∀ zs, x ≠ .tup zs) → ∃ p ys, [v] = [V.ref p] ∧ ((SqL K H p ys ∧ ∀ l, H l = none → Q (.ref l) (upd H l (.tup ys))) ∨ (SqT K H p ys ∧ Q (.ref p) H)) := fun hn => by
        have q' : lstOf s x = some ys := by cases x <;> first | exact q | exact (hn _ rfl).elim
        obtain ⟨a, vs, rfl, hq, rr⟩ := lstOf_sq r h q'
        exact ⟨a, vs, rfl, .inl ⟨hq, fun l hl => g' m _ _ (le_new hl) (r.tmp hl) (rep_newtup hl rr)⟩⟩
      cases x with
      | tup zs =>
        cases q
        obtain ⟨a, vs, rfl, hq, rr⟩ := h.sqT
        exact ⟨a, vs, rfl, .inr ⟨hq, g'.now r h⟩⟩
      | _ => exact gen fun _ e => by cases e
  · exact g.elim
def dList : List D → Store → Option (D × Store)
  | [x], s => (seqOf s x).map fun xs => (.loc s.length, s ++ [.lst xs])
  | _, _ => none
theorem fns_list : FnS K (fun xs H Q => ∃ p ys, xs = [.ref p] ∧ (SqL K H p ys ∨ SqT K H p ys) ∧ ∀ l, H l = none → Q (.ref l) (upd H l (.lst ys))) dList := by
  intro mg W σ m H s xs ds Q r p g
  unfold dList at g
  split at g
  · obtain ⟨v, rfl, h⟩ := reps1 p
    rename_i x
    cases q : seqOf s x with
    | none => rw [q] at g; exact g.elim
    | some ys =>
      rw [q] at g
      have g' : G K mg (Rep K) W σ m H Q (.ok (.loc s.length) (s ++ [.lst ys])) := g
      obtain ⟨a, vs, rfl, hq, rr⟩ := seqOf_sq r h q
      exact ⟨a, vs, rfl, hq, fun l hl => g' (m ++ [l]) _ _ (le_more r hl) (rel_newlist r hl rr) (.loc (len_get r))⟩
  · exact g.elim
/-! #### isinstance(x, T), T a built-in type -/
def tyN (s : Store) : D → Option String
  | .non => some "NoneType"
  | .bl _ => some "bool"
  | .int _ => some "int"
  | .str _ => some "str"
  | .tup _ => some "tuple"
  | .fl _ => some "list"
  | .loc l => match s[l]? with
    | some (.lst _) => some "list"
    | some (.dic _) => some "dict"
    | some (.dct _) => some "dict"
    | none => none
  | .exv _ _ _ _ => none
theorem tyN_tyx {m : List Addr} {H : Hp} {s : Store} (r : Rel K m H s) {d : D} {v : V} {t : String} (p : Rep K m H d v) (e : tyN s d = some t) : TyX K H v (.type t) := by
  cases p with
  | non => cases e; exact .base .non
  | bl b => cases e; exact .base (.bl b)
  | int b => cases e; exact .base (.int b)
  | str b => cases e; exact .base (.str b)
  | tup h q =>
    have e' : t = "tuple" := (Option.some.inj e).symm
    subst e'
    exact .base (.tup h)
  | fl h q =>
    cases e
    rcases h with ⟨o, h⟩ | ⟨o, _, _, h1, h2, _⟩
    · exact .base (.frz h)
    · exact .kList h1 h2
  | @loc l a h =>
    unfold tyN at e
    cases q : s[l]? with
    | none => simp [q] at e
    | some c =>
      cases c with
      | lst xs => simp [q] at e; subst e; obtain ⟨vs, h1, _⟩ := r.list h q; exact .base (.lst h1)
      | dic xs => simp [q] at e; subst e; obtain ⟨vs, h1, _⟩ := r.at_ l a _ h q; exact .base (.dK h1)
      | dct xs => simp [q] at e; subst e; obtain ⟨vs, h1, _⟩ := r.at_ l a _ h q; exact .base (.dT h1)
  | exv h n r => cases e
def dIsi (T : String) (x : D) (s : Store) : Option (D × Store) := (tyN s x).bind fun t => (kitB t T).map fun b => (.bl b, s)
end
section
variable {X : Cx} {W : WX} {pos p p2 : Pos} {a b c e : Expr} {es : List Expr} {fa fb fc : ME D} {ga gb : ME Bool} {fs : ME (List D)}
theorem ce_isi {T : String} (hg : Gl X "isinstance") (hm : X.mg "isinstance" = none) (hgT : Gl X (T : Str)) (hmT : X.mg (T : Str) = none) (hvT : bootBuiltins (T : Str) = some (.type T)) (ha : PE X a (Te X.K X.mg W fa))
    (hnT : (T : Str) ≠ "__name__" := by decide) (hdT : ((T : Str) == ("__debug__" : Str)) = false := by decide)
    (hv : bootBuiltins "isinstance" = some (.builtin "isinstance") := by decide +kernel) (he : starEach [a, .Name T p2] X.env = (false, eval a X.env) :: starEach [.Name T p2] X.env := by rfl)
    (he2 : starEach [.Name T p2] X.env = (false, eval (.Name T p2) X.env) :: starEach [] X.env := by rfl)
    (hpl : (backTo pos (starEach [.Name T p2] X.env)).any (·.1) = false := by rfl) : PE X (.Call (.Name "isinstance" p) [a, .Name T p2] [] pos) (Te X.K X.mg W (e1 (dIsi T) fa)) :=
  PE.imp (pe_callB call_isi hg hm hv (pa_cons ha (pa_cons (pe_bltn (v := .ty T) hgT hmT hvT rfl hnT hdT) pa_nil he2) he) (by decide) (by decide) he hpl) fun σ H Q h =>
    Tm.bind (k := fun _ x s => R.of (dIsi T x s)) h fun m1 H1 env x v s1 r1 E1 p1 g1 => by
      unfold dIsi at g1
      cases q : tyN s1 x with
      | none => rw [q] at g1; exact g1.elim
      | some t =>
        rw [q] at g1
        cases q2 : kitB t T with
        | none => simp [q2] at g1; exact g1.elim
        | some k =>
          simp [q2] at g1
          exact ⟨v, .ty T, .type t, .type T, k, rfl, .ty T, tyN_tyx r1 p1 q, kit_ty q2, g1.now r1 (.bl _)⟩
/-! #### methods of builtin types -/
def tyOk (T : String) (s : Store) : D → Bool
  | .str _ => T == "str"
  | .int _ => T == "int"
  | .loc l => match s[l]? with
    | some (.lst _) => T == "list"
    | some (.dic _) => T == "dict"
    | some (.dct _) => T == "dict"
    | none => false
  | .fl _ => T == "list"
  | _ => false
theorem tyOk_tyV {T : String} {m : List Addr} {H : Hp} {s : Store} {K : PySem.W.Frag} (r : Rel K m H s) {d : D} {v : V} (p : Rep K m H d v) (e : tyOk T s d = true) : tyV K T v H := by
  cases p with
  | str b => exact beq_iff_eq.mp e
  | int b => exact beq_iff_eq.mp e
  | fl h q => exact .inl ⟨beq_iff_eq.mp e, _, h.sq⟩
  | @loc l a h =>
    unfold tyOk at e
    cases q : s[l]? with
    | none => simp [q] at e
    | some c =>
      cases c with
      | lst xs => simp [q] at e; obtain ⟨vs, h1, _⟩ := r.list h q; exact .inl ⟨e, vs, .inl (.inl h1)⟩
      | dic xs => simp [q] at e; obtain ⟨vs, h1, _⟩ := r.at_ l a _ h q; exact .inr (.inr (.inl ⟨e, .inl ⟨vs, h1⟩⟩))
      | dct xs => simp [q] at e; obtain ⟨vs, h1, _⟩ := r.at_ l a _ h q; exact .inr (.inr (.inl ⟨e, .inr ⟨vs, h1⟩⟩))
  | _ => cases e
def eMt (T : String) (g : D → List D → Store → Option (D × Store)) (a : ME D) (fs : ME (List D)) : ME D := fun env s => (a env s).bind fun x s => if tyOk T s x = true then (fs env s).bind fun xs s => R.of (g x xs s) else .no
def eMt0 (T : String) (g : D → List D → Store → Option (D × Store)) (a : ME D) : ME D := fun env s => (a env s).bind fun x s => if tyOk T s x = true then R.of (g x [] s) else .no
def MtS (K : PySem.W.Frag) (r : V → List V → Hp → VK → Prop) (g : D → List D → Store → Option (D × Store)) : Prop :=
  ∀ {mg : Str → Option Value} {W : WX} {σ : L2.St} {m : List Addr} {H : Hp} {s : Store} {x : V} {d : D} {xs : List V} {ds : List D} {Q : VK}, Rel K m H s → Rep K m H d x → Reps K m H ds xs → G K mg (Rep K) W σ m H Q (R.of (g d ds s)) → r x xs H Q
variable {o : Expr} {T id : String} {name : Str} {apos cpos : Pos} {r : V → List V → Hp → VK → Prop} {g : D → List D → Store → Option (D × Store)} {fo : ME D}
theorem ce_bm0 (pa : PlainAttrs T) (slot : Slot T name id) (hty : typeOf (.builtin id) = pure (.type "method_descriptor")) (hm : MtR X id r) (hs : MtS X.K r g) (ho : PE X o (Te X.K X.mg W fo))
    (hbase : attributeBase o name X.env (eval o X.env) = eval o X.env := by rfl) (hline : (apos.endLine == cpos.line) = true := by rfl) : PE X (.Call (.Attribute o name apos) [] [] cpos) (Te X.K X.mg W (eMt0 T g fo)) :=
  PE.imp (pe_bm0 pa slot hty hm ho hbase hline) fun σ H Q h => Tm.bind (k := fun env x s => if tyOk T s x = true then R.of (g x [] s) else R.no) h fun m1 H1 env x v s1 r1 E1 p1 g1 => by
    by_cases q : tyOk T s1 x = true
    · simp only [q, if_true] at g1
      exact ⟨tyOk_tyV r1 p1 q, hs r1 p1 .nil g1⟩
    · simp only [q, if_false] at g1
      exact g1.elim
theorem ce_bm (pa : PlainAttrs T) (slot : Slot T name id) (hty : typeOf (.builtin id) = pure (.type "method_descriptor")) (hm : MtR X id r) (hs : MtS X.K r g) (ho : PE X o (Te X.K X.mg W fo)) (ha : PA X (e :: es) (Ta X.K X.mg W fs))
    (hbase : attributeBase o name X.env (eval o X.env) = eval o X.env := by rfl)
    (hfew : ((backTo cpos (starEach (e :: es) X.env)).all (fun x => !x.1) && (backToKw cpos (keywordEach [] X.env)).all (fun x => x.1.isSome)
      && decide ((e :: es).length + ([] : List Keyword).length + (if ([] : List Keyword).isEmpty then 0 else 1) < 30)) = true := by rfl)
    (hline : (apos.endLine == cpos.line) = true := by rfl) (hst : starEach (e :: es) X.env = (false, eval e X.env) :: starEach es X.env := by rfl) (hplain : (backTo cpos (starEach es X.env)).any (·.1) = false := by rfl) :
    PE X (.Call (.Attribute o name apos) (e :: es) [] cpos) (Te X.K X.mg W (eMt T g fo fs)) :=
  PE.imp (pe_bm pa slot hty hm ho ha hbase hfew hline hst hplain) fun σ H Q h => Tm.bind (k := fun env x s => if tyOk T s x = true then (fs env s).bind fun xs s => R.of (g x xs s) else R.no) h fun m1 H1 env x v s1 r1 E1 p1 g1 => by
    by_cases q : tyOk T s1 x = true
    · simp only [q, if_true] at g1
      exact ⟨tyOk_tyV r1 p1 q, ⟨m1, env, s1, r1, E1, G.bind g1 fun m2 H2 xs vs s2 l2 r2 p2 g2 => hs r2 (p1.mono l2) p2 g2⟩⟩
    · simp only [q, if_false] at g1
      exact g1.elim
end
section
variable {K : PySem.W.Frag}
theorem le_setlist {m : List Addr} {H : Hp} {s : Store} (r : Rel K m H s) {l : Nat} {a : Addr} (h : m[l]? = some a) {vs : List V} {xs : List D} (p : Reps K m H xs vs) : Le K m H m (upd H a (.lst vs)) ∧ Rel K m (upd H a (.lst vs)) (s.set l (.lst xs)) :=
  have le := le_put (o := .lst vs) r (List.mem_of_getElem? h)
  ⟨le, r.put h ⟨vs, upd_same, p.mono le⟩⟩
def dAppend (x : D) (ys : List D) (s : Store) : Option (D × Store) := match x, ys with
  | .loc l, [y] => match s[l]? with
    | some (.lst xs) => if xs.length < sizeLine then some (.non, s.set l (.lst (xs ++ [y]))) else none
    | _ => none
  | _, _ => none
theorem mts_append : MtS K rAppend dAppend := by
  intro mg W σ m H s x d xs ds Q r p ps g
  unfold dAppend at g
  split at g
  · rename_i l y
    obtain ⟨w, rfl, h⟩ := reps1 ps
    cases p with
    | loc hl =>
      split at g
      · rename_i ys q
        split at g
        · rename_i hz
          obtain ⟨vs, h1, h2⟩ := r.list hl q
          obtain ⟨le, r2⟩ := le_setlist r hl (h2.append (.cons h .nil))
          exact ⟨_, vs, w, rfl, rfl, h1, by rw [← h2.length]; exact hz, g m _ _ le r2 .non⟩
        · exact g.elim
      · exact g.elim
  · exact g.elim
def dPop (x : D) (ys : List D) (s : Store) : Option (D × Store) := match x, ys with
  | .loc l, [] => match s[l]? with
    | some (.lst xs) => (xs[xs.length - 1]?).map fun y => (y, s.set l (.lst xs.dropLast))
    | _ => none
  | _, _ => none
theorem mts_pop : MtS K rPop dPop := by
  intro mg W σ m H s x d xs ds Q r p ps g
  unfold dPop at g
  split at g
  · rename_i l
    cases ps
    cases p with
    | loc hl =>
      split at g
      · rename_i ys q
        cases q2 : ys[ys.length - 1]? with
        | none => rw [q2] at g; exact g.elim
        | some y =>
          rw [q2] at g
          obtain ⟨vs, h1, h2⟩ := r.list hl q
          obtain ⟨v, hv, rv⟩ := h2.get q2
          obtain ⟨le, r2⟩ := le_setlist r hl h2.dropLast
          exact ⟨_, vs, v, rfl, rfl, h1, by rw [← h2.length]; exact hv, g m _ _ le r2 (rv.mono le)⟩
      · exact g.elim
  · exact g.elim
end
end Mi
namespace Mi
open PySem PySem.Spec PyProof.Rows L2
/-! ### targets -/
def gN (i : Nat) : D → Sl → Option Sl := fun d env => some (env.set i (some d))
def gsN : List D → Sl → Option Sl := fun xs env => match xs with
  | [] => some env
  | _ => none
def gsC (g : D → Sl → Option Sl) (r : List D → Sl → Option Sl) : List D → Sl → Option Sl := fun xs env => match xs with
  | x :: xs => (g x env).bind (r xs)
  | [] => none
def gT (n : Nat) (r : List D → Sl → Option Sl) : D → Sl → Option Sl := fun d env => match d with
  | .tup xs => if xs.length = n then r xs env else none
  | _ => none
def GTm (K : PySem.W.Frag) (vs : List Nat) (g : D → Sl → Option Sl) : TG := fun v σ H Q =>
  ∃ m env s d env', Rel K m H s ∧ RelE K m H env σ ∧ Rep K m H d v ∧ g d env = some env' ∧ ∀ σ', RelE K m H env' σ' → (∀ i, i ∉ vs → σ'[i]? = σ[i]?) → σ'.length = σ.length → Q σ' H
def GTs (K : PySem.W.Frag) (vs : List Nat) (g : List D → Sl → Option Sl) : TGs := fun xs σ H Q =>
  ∃ m env s ds env', Rel K m H s ∧ RelE K m H env σ ∧ Reps K m H ds xs ∧ g ds env = some env' ∧ ∀ σ', RelE K m H env' σ' → (∀ i, i ∉ vs → σ'[i]? = σ[i]?) → σ'.length = σ.length → Q σ' H
theorem relE_set {K : PySem.W.Frag} {m : List Addr} {H : Hp} {env : Sl} {σ : L2.St} (E : RelE K m H env σ) {d : D} {v : V} (p : Rep K m H d v) (i : Nat) : RelE K m H (env.set i (some d)) (σ.set i (some v)) := by
  refine ⟨by simp [E.1], fun j d' h => ?_⟩
  by_cases hj : i = j
  · subst hj
    by_cases hi : i < env.length
    · rw [List.getElem?_set_self hi] at h
      cases h
      exact ⟨v, by rw [List.getElem?_set_self (by rw [← E.1]; exact hi)], p⟩
    · rw [List.getElem?_eq_none (by simpa using hi)] at h; cases h
  · rw [List.getElem?_set_ne hj] at h
    rw [List.getElem?_set_ne hj]
    exact E.2 j d' h
section
variable {X : Cx} {pos : Pos}
theorem PG.imp {e : Expr} {t t' : TG} (h : PG X e t) (i : ∀ v σ H Q, t' v σ H Q → t v σ H Q) : PG X e t' := ⟨fun pins s σ H v u Q I r q => h.run pins s σ H v u Q I r (i v σ H Q q)⟩
theorem PGs.imp {e : List Expr} {t t' : TGs} (h : PGs X e t) (i : ∀ v σ H Q, t' v σ H Q → t v σ H Q) : PGs X e t' := ⟨fun pins s σ H v u Q I r q => h.run pins s σ H v u Q I r (i v σ H Q q)⟩
theorem cg_name {i : Nat} {x : Str} (hN : X.N.Nodup) (hi : X.N[i]? = some x) (hx : Loc X.env.scope x) (hf : X.fn x = true ∨ X.env.scope.names.lookup x = some .local := by first | exact .inl rfl | exact .inr rfl | assumption) : PG X (.Name x pos) (GTm X.K [i] (gN i)) :=
  PG.imp (pg_name hN hi hx hf) fun v σ H Q ⟨m, env, s, d, env', r, E, p, e, q⟩ => by
    cases e
    exact q _ (relE_set E p i) (fun j hj => List.getElem?_set_ne (by simpa [eq_comm] using hj)) (by simp)
theorem cgs_nil {vs : List Nat} : PGs X [] (GTs X.K vs gsN) := PGs.imp pgs_nil fun v σ H Q ⟨m, env, s, ds, env', r, E, p, e, q⟩ => by
  cases ds with
  | nil => cases e; cases p; exact ⟨rfl, q σ E (fun _ _ => rfl) rfl⟩
  | cons _ _ => cases e
theorem cgs_cons {e : Expr} {es : List Expr} {g : D → Sl → Option Sl} {r : List D → Sl → Option Sl} {vs ws us : List Nat} (h1 : PG X e (GTm X.K vs g)) (h2 : PGs X es (GTs X.K ws r)) (hv : ∀ i, i ∈ vs ∨ i ∈ ws → i ∈ us := by simp)
    (hs : (assignEach (e :: es) X.env).map (·.2) = assign e X.env :: (assignEach es X.env).map (·.2) := by rfl) : PGs X (e :: es) (GTs X.K us (gsC g r)) :=
  PGs.imp (pgs_cons h1 h2 hs) fun v σ H Q ⟨m, env, s, ds, env', rl, E, p, e, q⟩ => by
    cases ds with
    | nil => cases e
    | cons d ds =>
      cases p with
      | cons pd p =>
        have e : (g d env).bind (r ds) = some env' := e
        cases q1 : g d env with
        | none => rw [q1] at e; cases e
        | some env1 =>
          rw [q1] at e
          refine ⟨_, _, rfl, m, env, s, d, env1, rl, E, pd, q1, fun σ1 E1 k1 n1 => ⟨m, env1, s, ds, env', rl, E1, p, e, fun σ2 E2 k2 n2 => q σ2 E2 (fun i hi => ?_) (n2.trans n1)⟩⟩
          rw [k2 i (fun z => hi (hv i (.inr z))), k1 i (fun z => hi (hv i (.inl z)))]
theorem cg_tup {es : List Expr} {k n : Nat} {r : List D → Sl → Option Sl} {vs : List Nat} (hc : X.calm = true) (h : PGs X es (GTs X.K vs r)) (hn : (assignEach es X.env).length = n := by rfl) (hst : (assignEach es X.env).findIdx? (·.1) = none := by rfl) :
    PG X (.Tuple es k pos) (GTm X.K vs (gT n r)) := PG.imp (pg_tup (n := n) hc h hn hst) fun v σ H Q ⟨m, env, s, d, env', rl, E, p, e, q⟩ => by
  cases d with
  | tup xs =>
    obtain ⟨a, ws, rfl, hq, rr⟩ := p.sqT
    have e : (if xs.length = n then r xs env else none) = some env' := e
    split at e
    · rename_i hl
      exact ⟨a, ws, rfl, hq, by rw [← rr.length]; exact hl, m, env, s, xs, env', rl, E, rr, e, q⟩
    · cases e
  | _ => cases e
end
/-! ### statements -/
abbrev MS := Sl → Store → RS
section
variable (K : PySem.W.Frag) (mg : Str → Option Value)
def GS (W : WX) (Dn : Ends) (m : List Addr) (H : Hp) : RS → Prop
  | .nx env s => ∀ m' σ' H', Le K m H m' H' → Rel K m' H' s → RelE K m' H' env σ' → Dn.nx σ' H'
  | .rt d s => ∀ m' H' v, Le K m H m' H' → Rel K m' H' s → Rep K m' H' d v → Dn.rt v H'
  | .bk env s => ∀ m' σ' H', Le K m H m' H' → Rel K m' H' s → RelE K m' H' env σ' → Dn.bk σ' H'
  | .ct env s => ∀ m' σ' H', Le K m H m' H' → Rel K m' H' s → RelE K m' H' env σ' → Dn.ct σ' H'
  | .ex e env s => ∀ m' σ' H' c dd, Le K m H m' H' → Rel K m' H' s → RelE K m' H' env σ' → ExR K mg m' H' e c dd → W c dd σ' H'
  | .no => False
def Ts (W : WX) (f : MS) : TS := fun Dn σ H => ∃ m env s, Rel K m H s ∧ RelE K m H env σ ∧ GS K mg W Dn m H (f env s)
end
def RS.bind (r : RS) (k : Sl → Store → RS) : RS := match r with
  | .nx env s => k env s
  | r => r
/-- behind an expression -/
def R.then {α : Type} (r : R α) (env : Sl) (k : α → Store → RS) : RS := match r with
  | .ok a s => k a s
  | .ex e s => .ex e env s
  | .no => .no
@[simp] theorem RS.bind_nx (env : Sl) (s : Store) (k : Sl → Store → RS) : (RS.nx env s).bind k = k env s := rfl
@[simp] theorem RS.bind_rt (d : D) (s : Store) (k : Sl → Store → RS) : (RS.rt d s).bind k = .rt d s := rfl
@[simp] theorem RS.bind_bk (env : Sl) (s : Store) (k : Sl → Store → RS) : (RS.bk env s).bind k = .bk env s := rfl
@[simp] theorem RS.bind_ct (env : Sl) (s : Store) (k : Sl → Store → RS) : (RS.ct env s).bind k = .ct env s := rfl
@[simp] theorem RS.bind_ex (e : Ex) (env : Sl) (s : Store) (k : Sl → Store → RS) : (RS.ex e env s).bind k = .ex e env s := rfl
@[simp] theorem RS.bind_no (k : Sl → Store → RS) : (RS.no).bind k = .no := rfl
@[simp] theorem R.then_ok {α : Type} (a : α) (s : Store) (env : Sl) (k : α → Store → RS) : (R.ok a s).then env k = k a s := rfl
@[simp] theorem R.then_ex {α : Type} (e : Ex) (s : Store) (env : Sl) (k : α → Store → RS) : (R.ex e s : R α).then env k = .ex e env s := rfl
@[simp] theorem R.then_no {α : Type} (env : Sl) (k : α → Store → RS) : (R.no : R α).then env k = .no := rfl
def sNil : MS := fun env s => .nx env s
def sSeq (f g : MS) : MS := fun env s => (f env s).bind g
def sSet (i : Nat) (e : ME D) : MS := fun env s => (e env s).then env fun d s => .nx (env.set i (some d)) s
def sAsg (g : D → Sl → Option Sl) (e : ME D) : MS := fun env s => (e env s).then env fun d s => match g d env with
  | some env' => .nx env' s
  | none => .no
def sIf (c : ME Bool) (f g : MS) : MS := fun env s => (c env s).then env fun b s => if b then f env s else g env s
def sRet (e : ME D) : MS := fun env s => (e env s).then env fun d s => .rt d s
def sRetN : MS := fun _ s => .rt .non s
def sExpr (e : ME D) : MS := fun env s => (e env s).then env fun _ s => .nx env s
def sBrk : MS := fun env s => .bk env s
def sCnt : MS := fun env s => .ct env s
/-- o[i] = e: e, o, i in this sequence -/
def sPut (g : D → D → D → Store → Option Store) (o i e : ME D) : MS := fun env s => (e env s).then env fun d s => (o env s).then env fun x s => (i env s).then env fun y s => match g x y d s with
  | some s' => .nx env s'
  | none => .no
/-- name op= e -/
def sAug (i : Nat) (g : D → D → Store → Option (D × Store)) (e : ME D) : MS := fun env s => match env[i]? with
  | some (some x) => (e env s).then env fun y s => match g x y s with
    | some (z, s') => .nx (env.set i (some z)) s'
    | none => .no
  | _ => .no
structure Itm where
  xs : List D
  guard : Store → Prop
open Classical in
noncomputable def forL (guard : Store → Prop) (g : D → Sl → Option Sl) (b : MS) : List D → Sl → Store → RS
  | [], env, s => if guard s then .nx env s else .no
  | x :: xs, env, s => if guard s then (match g x env with
    | none => .no
    | some env1 => match b env1 s with
      | .nx env2 s2 => forL guard g b xs env2 s2
      | .ct env2 s2 => forL guard g b xs env2 s2
      | .bk env2 s2 => .nx env2 s2
      | .rt d s2 => .rt d s2
      | .ex e env2 s2 => .ex e env2 s2
      | .no => .no) else .no
noncomputable def sFor (it : ME Itm) (g : D → Sl → Option Sl) (b : MS) : MS := fun env s => (it env s).then env fun i s => forL i.guard g b i.xs env s
def whileN (c : ME Bool) (b : MS) : Nat → Sl → Store → RS
  | 0, _, _ => .no
  | n + 1, env, s => (c env s).then env fun k s => if k then (match b env s with
      | .nx env2 s2 => whileN c b n env2 s2
      | .ct env2 s2 => whileN c b n env2 s2
      | .bk env2 s2 => .nx env2 s2
      | .rt d s2 => .rt d s2
      | .ex e env2 s2 => .ex e env2 s2
      | .no => .no) else .nx env s
open Classical in
/-- a while: some number of turns is enough -/
noncomputable def sWhile (c : ME Bool) (b : MS) : MS := fun env s => if h : ∃ n, whileN c b n env s ≠ .no then whileN c b (Classical.choose h) env s else .no
section
variable {K : PySem.W.Frag} {mg : Str → Option Value} {m m1 : List Addr} {H H1 : Hp} {s : Store} {W : WX} {σ : L2.St} {Dn : Ends}
theorem GS.mono (e : Le K m H m1 H1) {r : RS} (h : GS K mg W Dn m H r) : GS K mg W Dn m1 H1 r := by
  cases r with
  | nx env s => exact fun m' σ' H' l => h m' σ' H' (e.trans l)
  | rt d s => exact fun m' σ' H' l => h m' σ' H' (e.trans l)
  | bk env s => exact fun m' σ' H' l => h m' σ' H' (e.trans l)
  | ct env s => exact fun m' σ' H' l => h m' σ' H' (e.trans l)
  | ex x env s => exact fun m' σ' H' c d l => h m' σ' H' c d (e.trans l)
  | no => exact h
/-- an expression first -/
theorem GS.ofE {α β : Type} {ρ : List Addr → Hp → α → β → Prop} {r : R α} {env : Sl} {k : α → Store → RS} {Q : β → Hp → Prop} (E : RelE K m H env σ) (h : GS K mg W Dn m H (r.then env k))
    (q : ∀ m1 H1 a b s1, Le K m H m1 H1 → Rel K m1 H1 s1 → ρ m1 H1 a b → GS K mg W Dn m1 H1 (k a s1) → Q b H1) : G K mg ρ W σ m H Q r := by
  cases r with
  | ok a s => exact fun m' H' b l r p => q m' H' a b s l r p (GS.mono l h)
  | ex x s => exact fun m' H' c d l r p => h m' σ H' c d l r (E.mono l) p
  | no => exact h
theorem Ts.ofE {α β : Type} {ρ : List Addr → Hp → α → β → Prop} {f : Sl → Store → R α} {k : Sl → α → Store → RS} {Q : β → Hp → Prop} (h : Ts K mg W (fun env s => (f env s).then env (k env)) Dn σ H)
    (q : ∀ m1 H1 env a b s1, Rel K m1 H1 s1 → RelE K m1 H1 env σ → ρ m1 H1 a b → GS K mg W Dn m1 H1 (k env a s1) → Q b H1) : Tm K mg ρ W f σ H Q := by
  obtain ⟨m, env, s, r, E, g⟩ := h
  exact ⟨m, env, s, r, E, GS.ofE E g fun m1 H1 a b s1 l r1 p g1 => q m1 H1 env a b s1 r1 (E.mono l) p g1⟩
end
section
variable {X : Cx} {W : WX} {pos : Pos} {e o i c tg iter : Expr} {st : Stmt} {rest body els : List Stmt} {fe fo fi : ME D} {gc : ME Bool} {f g : MS}
theorem css_nil : PSs X [] (Ts X.K X.mg W sNil) := PSs.imp pss_nil fun Dn σ H ⟨m, env, s, r, E, q⟩ => q m σ H .refl r E
theorem css_cons (h1 : PS X st (Ts X.K X.mg W f)) (h2 : PSs X rest (Ts X.K X.mg W g)) : PSs X (st :: rest) (Ts X.K X.mg W (sSeq f g)) :=
  PSs.imp (pss_cons h1 h2) fun Dn σ H ⟨m, env, s, r, E, q⟩ => by
    refine ⟨m, env, s, r, E, ?_⟩
    unfold sSeq at q
    cases hf : f env s with
    | nx env1 s1 => rw [hf] at q; exact fun m' σ' H' l r' E' => ⟨m', env1, s1, r', E', GS.mono l q⟩
    | rt d s1 => rw [hf] at q; exact q
    | bk env1 s1 => rw [hf] at q; exact q
    | ct env1 s1 => rw [hf] at q; exact q
    | ex x env1 s1 => rw [hf] at q; exact q
    | no => rw [hf] at q; exact q
theorem css_one (h1 : PS X st (Ts X.K X.mg W f)) : PSs X [st] (Ts X.K X.mg W f) := pss_one h1
theorem cs_pass : PS X (.Pass pos) (Ts X.K X.mg W sNil) := PS.imp ps_pass fun Dn σ H ⟨m, env, s, r, E, q⟩ => q m σ H .refl r E
theorem cs_doc {x j pos'} : PS X (.Expr (.Constant (.str x) j pos) pos') (Ts X.K X.mg W sNil) := PS.imp ps_doc fun Dn σ H ⟨m, env, s, r, E, q⟩ => q m σ H .refl r E
theorem cs_break : PS X (.Break pos) (Ts X.K X.mg W sBrk) := PS.imp ps_break fun Dn σ H ⟨m, env, s, r, E, q⟩ => q m σ H .refl r E
theorem cs_cont : PS X (.Continue pos) (Ts X.K X.mg W sCnt) := PS.imp ps_continue fun Dn σ H ⟨m, env, s, r, E, q⟩ => q m σ H .refl r E
theorem cs_set {j : Nat} {x : Str} {pos' : Pos} (hN : X.N.Nodup) (hi : X.N[j]? = some x) (hx : Loc X.env.scope x) (he : PE X e (Te X.K X.mg W fe)) (hs : swapsWith e (some (.Name x pos')) pos.line X.env = pure false := by rfl) (hf : X.fn x = true ∨ X.env.scope.names.lookup x = some .local := by first | exact .inl rfl | exact .inr rfl | assumption) :
    PS X (.Assign [.Name x pos'] e pos) (Ts X.K X.mg W (sSet j fe)) := PS.imp (ps_set (i := j) hN hi hx he hs hf) fun Dn σ H h =>
  Ts.ofE (k := fun env d s => .nx (env.set j (some d)) s) h fun m1 H1 env d v s1 r1 E1 p1 g1 => g1 m1 _ H1 .refl r1 (relE_set E1 p1 j)
theorem cs_asg {vs : List Nat} {g : D → Sl → Option Sl} (he : PE X e (Te X.K X.mg W fe)) (hg : PG X tg (GTm X.K vs g)) (hs : swapsWithSole [tg] e pos.line X.env = pure false := by rfl) (hw : swappedStores [tg] e X.env = pure none := by rfl)
    (h1 : (assignEach [tg] X.env).map (·.2) = [assign tg X.env] := by rfl) : PS X (.Assign [tg] e pos) (Ts X.K X.mg W (sAsg g fe)) := PS.imp (ps_asg he hg hs hw h1) fun Dn σ H h =>
  Ts.ofE (k := fun env d s => match g d env with | some env' => RS.nx env' s | none => RS.no) h fun m1 H1 env d v s1 r1 E1 p1 g1 => by
    cases q : g d env with
    | none => simp only [q] at g1; exact g1.elim
    | some env' =>
      simp only [q] at g1
      exact ⟨m1, env, s1, d, env', r1, E1, p1, q, fun σ' E' _ _ => g1 m1 σ' H1 .refl r1 E'⟩
theorem cs_expr (he : PE X e (Te X.K X.mg W fe)) (hs : swapsWith e none pos.line X.env = pure false := by rfl) : PS X (.Expr e pos) (Ts X.K X.mg W (sExpr fe)) := PS.imp (ps_expr he hs) fun Dn σ H h =>
  Ts.ofE (k := fun env _ s => RS.nx env s) h fun m1 H1 env d v s1 r1 E1 p1 g1 => g1 m1 σ H1 .refl r1 E1
theorem cs_ret (he : PE X e (Te X.K X.mg W fe)) : PS X (.Return (some e) pos) (Ts X.K X.mg W (sRet fe)) := PS.imp (ps_ret he) fun Dn σ H h =>
  Ts.ofE (k := fun _ d s => RS.rt d s) h fun m1 H1 env d v s1 r1 E1 p1 g1 => g1 m1 H1 v .refl r1 p1
theorem cs_retN : PS X (.Return none pos) (Ts X.K X.mg W sRetN) := PS.imp ps_retN fun Dn σ H ⟨m, env, s, r, E, q⟩ => q m H _ .refl r .non
theorem cs_if (hc : PT X c (Tt X.K X.mg W gc)) (ha : PSs X body (Ts X.K X.mg W f)) (hb : PSs X els (Ts X.K X.mg W g)) : PS X (.If c body els pos) (Ts X.K X.mg W (sIf gc f g)) := PS.imp (ps_if hc ha hb) fun Dn σ H h =>
  Ts.ofE (k := fun env (b : Bool) s => if b then f env s else g env s) h fun m1 H1 env d v s1 r1 E1 p1 g1 => by
    cases (show d = v from p1)
    cases d with
    | true => exact iteT ⟨m1, env, s1, r1, E1, g1⟩
    | false => exact iteF ⟨m1, env, s1, r1, E1, g1⟩
def PutS (K : PySem.W.Frag) (t : TSet) (g : D → D → D → Store → Option Store) : Prop :=
  ∀ {m : List Addr} {H : Hp} {s s' : Store} {x y z : V} {dx dy dz : D} {Q : Hp → Prop}, Rel K m H s → Rep K m H dx x → Rep K m H dy y → Rep K m H dz z → g dx dy dz s = some s' → (∀ H', Le K m H m H' → Rel K m H' s' → Q H') → t x y z H Q
theorem cs_put {t : TSet} {g : D → D → D → Store → Option Store} (he : PE X e (Te X.K X.mg W fe)) (ho : PE X o (Te X.K X.mg W fo)) (hi : PE X i (Te X.K X.mg W fi)) (hs : PSet X t) (hp : PutS X.K t g)
    (ha : ∀ v, assign (.Subscript o i pos) X.env v = (do
      let ov ← holding [v] (eval o X.env)
      let iv ← holding [v, ov] (eval i X.env)
      standAt pos
      holding [v, ov, iv] (setItem ov iv v)
      release [v, ov, iv] []) := by intro _; rfl) {pos' : Pos} (hs1 : swapsWithSole [.Subscript o i pos] e pos'.line X.env = pure false := by rfl) (hw : swappedStores [.Subscript o i pos] e X.env = pure none := by rfl)
    (h1 : (assignEach [.Subscript o i pos] X.env).map (·.2) = [assign (.Subscript o i pos) X.env] := by rfl) : PS X (.Assign [.Subscript o i pos] e pos') (Ts X.K X.mg W (sPut g fo fi fe)) :=
  PS.imp (ps_asg he (pg_sub ho hi hs ha) hs1 hw h1) fun Dn σ H h =>
    Ts.ofE (k := fun env d s => (fo env s).then env fun x s => (fi env s).then env fun y s => match g x y d s with | some s' => RS.nx env s' | none => RS.no) h fun m1 H1 env d v s1 r1 E1 p1 g1 =>
      ⟨m1, env, s1, r1, E1, GS.ofE E1 g1 fun m2 H2 x vx s2 l2 r2 p2 g2 => ⟨m2, env, s2, r2, E1.mono l2, GS.ofE (E1.mono l2) g2 fun m3 H3 y vy s3 l3 r3 p3 g3 => by
        cases q : g x y d s3 with
        | none => simp only [q] at g3; exact g3.elim
        | some s' =>
          simp only [q] at g3
          exact hp r3 (p2.mono l3) p3 ((p1.mono l2).mono l3) q fun H' l' r' => g3 m3 σ H' l' r' (((E1.mono l2).mono l3).mono l')⟩⟩
def IpS (K : PySem.W.Frag) (t : TIp) (g : D → D → Store → Option (D × Store)) : Prop := OpS K t g
theorem cs_aug {j : Nat} {x : Str} {op : Operator} {ti : TIp} {g : D → D → Store → Option (D × Store)} {pos' : Pos} (hN : X.N.Nodup) (hi : X.N[j]? = some x) (hx : Loc X.env.scope x) (he : PE X e (Te X.K X.mg W fe)) (ho : PIp X op ti) (hp : OpS X.K ti g) (hf : X.fn x = true ∨ X.env.scope.names.lookup x = some .local := by first | exact .inl rfl | exact .inr rfl | assumption) :
    PS X (.AugAssign (.Name x pos') op e pos) (Ts X.K X.mg W (sAug j g fe)) := PS.imp (ps_aug (i := j) hN hi hx he ho hf) fun Dn σ H ⟨m, env, s, r, E, q⟩ => by
  unfold sAug at q
  cases q1 : env[j]? with
  | none => simp only [q1] at q; exact q.elim
  | some o1 =>
    cases o1 with
    | none => simp only [q1] at q; exact q.elim
    | some d =>
      simp only [q1] at q
      obtain ⟨v, h1, h2⟩ := E.2 j d q1
      refine ⟨v, h1, m, env, s, r, E, GS.ofE E q fun m1 H1 y vy s1 l1 r1 p1 g1 => ?_⟩
      refine hp (mg := X.mg) (W := W) (σ := σ) r1 (h2.mono l1) p1 ?_
      cases q2 : g d y s1 with
      | none => simp only [q2] at g1; exact g1.elim
      | some zs =>
        obtain ⟨z, s'⟩ := zs
        simp only [q2] at g1
        exact fun m' H' b l r p => g1 m' _ H' l r (relE_set ((E.mono l1).mono l) p j)
/-! #### loops -/
def ItR (K : PySem.W.Frag) (m : List Addr) (H : Hp) (it : Itm) (J : It) : Prop := ∀ m2 H2 s2, Le K m H m2 H2 → Rel K m2 H2 s2 → it.guard s2 →
  (∀ i d, it.xs[i]? = some d → J.go i H2 ∧ ∀ v H3, J.yld i H2 v H3 → Le K m2 H2 m2 H3 ∧ Rel K m2 H3 s2 ∧ Rep K m2 H3 d v) ∧ J.stop it.xs.length H2
abbrev Ti (K : PySem.W.Frag) (mg : Str → Option Value) (W : WX) (f : ME Itm) : TI := Tm K mg (ItR K) W f
theorem cs_for {fi : ME Itm} {vs : List Nat} {gt : D → Sl → Option Sl} (hp : PassesOwn (model X.prog X.w) X.A X.env X.xe) (hc : X.calm = true) (hi : PI X tg iter (Ti X.K X.mg W fi)) (hg : PG X tg (GTm X.K vs gt)) (hb : PSs X body (Ts X.K X.mg W f))
    (hs : ∀ x, foldedSetIterable iter X.env x = pure x := by intro _; rfl) : PS X (.For tg iter body [] pos) (Ts X.K X.mg W (sFor fi gt f)) :=
  PS.imp (ps_for hp hc hi hg hb hs) fun Dn σ H h => Ts.ofE (k := fun env (i : Itm) s => forL i.guard gt f i.xs env s) h fun m1 H1 env it J s1 r1 E1 p1 g1 => by
    refine ⟨fun i k σ H => k = it.xs.length - i ∧ i ≤ it.xs.length ∧ ∃ m2 env2 s2, Le X.K m1 H1 m2 H ∧ Rel X.K m2 H s2 ∧ RelE X.K m2 H env2 σ ∧ GS X.K X.mg W Dn m2 H (forL it.guard gt f (it.xs.drop i) env2 s2),
      ⟨it.xs.length, by simp, Nat.zero_le _, m1, env, s1, .refl, r1, E1, g1⟩, ?_⟩
    rintro i k σ2 H2 ⟨rfl, hi, m2, env2, s2, l2, r2, E2, g2⟩
    by_cases hlt : i < it.xs.length
    · have hx : it.xs[i]? = some it.xs[i] := by simp [hlt]
      have hd : it.xs.drop i = it.xs[i] :: it.xs.drop (i + 1) := List.drop_eq_getElem_cons hlt
      rw [hd] at g2
      unfold forL at g2
      by_cases hgd : it.guard s2
      · simp only [hgd, if_true] at g2
        obtain ⟨hall, _⟩ := p1 m2 H2 s2 l2 r2 hgd
        obtain ⟨hgo, hy⟩ := hall i _ hx
        refine .inr ⟨hgo, fun σ' H' => ∃ m3 env3 s3, Le X.K m1 H1 m3 H' ∧ Rel X.K m3 H' s3 ∧ RelE X.K m3 H' env3 σ' ∧ GS X.K X.mg W Dn m3 H' (forL it.guard gt f (it.xs.drop (i + 1)) env3 s3),
          fun σ' H' ⟨m3, env3, s3, l3, r3, E3, g3⟩ => ⟨it.xs.length - (i + 1), by omega, rfl, hlt, m3, env3, s3, l3, r3, E3, g3⟩, fun v H3 y => ?_⟩
        obtain ⟨l3, r3, p3⟩ := hy v H3 y
        cases q : gt it.xs[i] env2 with
        | none => simp only [q] at g2; exact g2.elim
        | some env3 =>
          simp only [q] at g2
          refine ⟨m2, env2, s2, it.xs[i], env3, r3, E2.mono l3, p3, q, fun σ4 E4 _ _ => ⟨m2, env3, s2, r3, E4, ?_⟩⟩
          have g3 := GS.mono l3 g2
          have l4 := l2.trans l3
          cases hb2 : f env3 s2 with
          | nx env5 s5 => rw [hb2] at g3; exact fun m' σ' H' l r E => ⟨m', env5, s5, l4.trans l, r, E, GS.mono l g3⟩
          | ct env5 s5 => rw [hb2] at g3; exact fun m' σ' H' l r E => ⟨m', env5, s5, l4.trans l, r, E, GS.mono l g3⟩
          | bk env5 s5 => rw [hb2] at g3; exact g3
          | rt d s5 => rw [hb2] at g3; exact g3
          | ex x env5 s5 => rw [hb2] at g3; exact g3
          | no => rw [hb2] at g3; exact g3
      · simp only [hgd, if_false] at g2
        exact g2.elim
    · have e : i = it.xs.length := by omega
      subst e
      rw [List.drop_length] at g2
      unfold forL at g2
      by_cases hgd : it.guard s2
      · simp only [hgd, if_true] at g2
        exact .inl ⟨(p1 m2 H2 s2 l2 r2 hgd).2, g2 m2 σ2 H2 .refl r2 E2⟩
      · simp only [hgd, if_false] at g2
        exact g2.elim
theorem cs_while (hp : PassesOwn (model X.prog X.w) X.A X.env X.xe) (hc : PT X c (Tt X.K X.mg W gc)) (hb : PSs X body (Ts X.K X.mg W f)) : PS X (.While c body [] pos) (Ts X.K X.mg W (sWhile gc f)) :=
  PS.imp (ps_while hp hc hb) fun Dn σ H ⟨m, env, s, r, E, g⟩ => by
    unfold sWhile at g
    split at g
    · rename_i hx
      refine ⟨fun n σ H => ∃ m2 env2 s2, Rel X.K m2 H s2 ∧ RelE X.K m2 H env2 σ ∧ GS X.K X.mg W Dn m2 H (whileN gc f n env2 s2), ⟨_, m, env, s, r, E, g⟩, ?_⟩
      rintro n σ1 H1 ⟨m1, env1, s1, r1, E1, g1⟩
      cases n with
      | zero => exact g1.elim
      | succ n =>
        unfold whileN at g1
        refine ⟨m1, env1, s1, r1, E1, GS.ofE E1 g1 fun m2 H2 k kb s2 l2 r2 p2 g2 => ?_⟩
        cases (show k = kb from p2)
        cases k with
        | false => exact iteF (g2 m2 σ1 H2 .refl r2 (E1.mono l2))
        | true =>
          refine iteT ⟨fun σ' H' => ∃ m3 env3 s3, Rel X.K m3 H' s3 ∧ RelE X.K m3 H' env3 σ' ∧ GS X.K X.mg W Dn m3 H' (whileN gc f n env3 s3), fun σ' H' q => ⟨n, Nat.lt_succ_self n, q⟩, m2, env1, s2, r2, E1.mono l2, ?_⟩
          simp only [if_true] at g2
          cases hb2 : f env1 s2 with
          | nx env5 s5 => rw [hb2] at g2; exact fun m' σ' H' l r E => ⟨m', env5, s5, r, E, GS.mono l g2⟩
          | ct env5 s5 => rw [hb2] at g2; exact fun m' σ' H' l r E => ⟨m', env5, s5, r, E, GS.mono l g2⟩
          | bk env5 s5 => rw [hb2] at g2; exact g2
          | rt d s5 => rw [hb2] at g2; exact g2
          | ex x env5 s5 => rw [hb2] at g2; exact g2
          | no => rw [hb2] at g2; exact g2
    · exact g.elim
end
/-! #### what a loop walks -/
def always : Store → Prop := fun _ => True
/-- a list, a tuple, a text -/
def iSeq (a : ME D) : ME Itm := fun env s => (a env s).bind fun x s => match x with
  | .tup xs => .ok (Itm.mk (xs) (always)) s
  | .fl xs => .ok (Itm.mk (xs) (always)) s
  | .str z => .ok (Itm.mk (z.cps.toList.map fun c => .str ⟨#[c]⟩) (always)) s
  | .loc l => match s[l]? with
    | some (.lst xs) => .ok (Itm.mk (xs) (fun s2 => s2[l]? = some (.lst xs))) s
    | _ => .no
  | _ => .no
/-- a bound of a range -/
def InR (j : Int) : Prop := -(2 ^ 62) ≤ j ∧ j < 2 ^ 62
noncomputable instance (j : Int) : Decidable (InR j) := Classical.propDecidable _
noncomputable def iRange1 (a : ME (List D)) : ME Itm := fun env s => (a env s).bind fun x s => match x with
  | [.int j] => if InR j then .ok (Itm.mk ((List.range j.toNat).map fun i => .int ((0 : Int) + (i : Nat))) (always)) s else .no
  | _ => .no
noncomputable def iRange2 (a : ME (List D)) : ME Itm := fun env s => (a env s).bind fun x s => match x with
  | [.int i, .int j] => if InR i ∧ InR j then .ok (Itm.mk ((List.range (j - i).toNat).map fun k => .int (i + (k : Nat))) (always)) s else .no
  | _ => .no
section
variable {K : PySem.W.Frag} {m : List Addr} {H : Hp}
theorem itr_list {l : Nat} {xs : List D} {a : Addr} (h : m[l]? = some a) : ItR K m H ⟨xs, fun s2 => s2[l]? = some (.lst xs)⟩ (Itl K a) := fun m2 H2 s2 l2 r2 g => by
  have g' : s2[l]? = some (.lst xs) := g
  obtain ⟨vs, h1, h2⟩ := r2.list (l2.get h) g'
  have hq : SqL K H2 a vs := .inl (.inl h1)
  refine ⟨fun i d e => ?_, ⟨vs, hq, by rw [← h2.length]; exact Nat.le_refl _⟩⟩
  obtain ⟨v, hv, rv⟩ := h2.get e
  refine ⟨⟨vs, v, hq, hv⟩, fun w H3 y => ?_⟩
  obtain ⟨rfl, y⟩ := y
  have e2 := y vs hq
  rw [hv] at e2; cases e2
  exact ⟨.refl, r2, rv⟩
theorem itr_fl {xs : List D} {vs : List V} {a : Addr} (h : FrL K H a vs) (p : Reps K m H xs vs) : ItR K m H ⟨xs, always⟩ (Itl K a) := fun m2 H2 s2 l2 r2 g => by
  have hq : SqL K H2 a vs := (l2.frl a vs h).sq
  have h2 := p.mono l2
  refine ⟨fun i d e => ?_, ⟨vs, hq, by rw [← h2.length]; exact Nat.le_refl _⟩⟩
  obtain ⟨v, hv, rv⟩ := h2.get e
  refine ⟨⟨vs, v, hq, hv⟩, fun w H3 y => ?_⟩
  obtain ⟨rfl, y⟩ := y
  have e2 := y vs hq
  rw [hv] at e2; cases e2
  exact ⟨.refl, r2, rv⟩
theorem itr_tup {xs : List D} {vs : List V} {a : Addr} (h : SqT K H a vs) (p : Reps K m H xs vs) : ItR K m H ⟨xs, always⟩ (Itt K a) := fun m2 H2 s2 l2 r2 g => by
  have hq : SqT K H2 a vs := l2.tup a vs h
  have h2 := p.mono l2
  refine ⟨fun i d e => ?_, ⟨vs, hq, by rw [← h2.length]; exact Nat.le_refl _⟩⟩
  obtain ⟨v, hv, rv⟩ := h2.get e
  refine ⟨⟨vs, v, hq, hv⟩, fun w H3 y => ?_⟩
  obtain ⟨rfl, y⟩ := y
  have e2 := y vs hq
  rw [hv] at e2; cases e2
  exact ⟨.refl, r2, rv⟩
theorem itr_str {z : Str} : ItR K m H ⟨z.cps.toList.map fun c => .str ⟨#[c]⟩, always⟩ (Its z) := fun m2 H2 s2 l2 r2 g => by
  have w := walk_str (z := z)
  refine ⟨fun i d e => ?_, by
    have q := w.stops H2 trivial
    show (Its z).stop (List.map _ z.cps.toList).length H2
    rw [List.length_map, Array.length_toList]
    exact q⟩
  rw [List.getElem?_map, Array.getElem?_toList] at e
  cases hc : z.cps[i]? with
  | none => rw [hc] at e; cases e
  | some c =>
    rw [hc] at e; cases e
    have hi : i < z.cps.size := (Array.getElem?_eq_some_iff.mp hc).1
    refine ⟨w.goes i H2 hi trivial, fun v H3 y => ?_⟩
    obtain ⟨rfl, c', h1, rfl⟩ := w.yields i H2 v H3 hi trivial y
    rw [hc] at h1; cases h1
    exact ⟨.refl, r2, .str _⟩
theorem itr_range {lo : Int} {n : Nat} : ItR K m H ⟨(List.range n).map fun (i : Nat) => .int (lo + (i : Int)), always⟩ (Itr lo n) := fun m2 H2 s2 l2 r2 g => by
  refine ⟨fun i d e => ?_, by show n ≤ (List.map _ (List.range n)).length; simp⟩
  rw [List.getElem?_map] at e
  by_cases hi : i < n
  · rw [List.getElem?_range hi] at e
    cases e
    refine ⟨hi, fun v H3 y => ?_⟩
    obtain ⟨rfl, rfl⟩ := y
    exact ⟨.refl, r2, .int _⟩
  · rw [List.getElem?_eq_none (by simpa using hi)] at e; cases e
end
section
variable {X : Cx} {W : WX} {tg e a b : Expr} {p pos : Pos} {fe : ME D} {fs : ME (List D)}
theorem PI.imp {e : Expr} {t t' : TI} (h : PI X tg e t) (i : ∀ σ H Q, t' σ H Q → t σ H Q) : PI X tg e t' := ⟨fun pins s σ H Q I q => h.run pins s σ H Q I (i σ H Q q)⟩
def iAny (K : PySem.W.Frag) (tl : TE) : TI := fun σ H R => tl σ H fun x H1 => (∃ a, x = .ref a ∧ ((∃ xs, SqL K H1 a xs) ∧ R (Itl K a) H1 ∨ (∃ xs, SqT K H1 a xs) ∧ R (Itt K a) H1)) ∨ ∃ z, x = .str z ∧ R (Its z) H1
theorem pi_any {tl : TE} (hl : PE X e tl) : PI X tg e (iAny X.K tl) := by
  refine ⟨fun pins s σ H R I h => ?_⟩
  refine thn (hl.run pins s σ H _ I h) fun v s1 ⟨x, H1, I1, r1, q1⟩ => ?_
  rcases q1 with ⟨a, rfl, ⟨⟨xs, hq⟩, q⟩ | ⟨⟨xs, hq⟩, q⟩⟩ | ⟨z, rfl, q⟩
  · cases r1
    obtain ⟨its, rv, p, hz⟩ := I1.list hq
    refine wpAny_pyIter_list p.isList ?_
    refine ⟨s1.heap.objs.size, [s1.heap.objs.size], _, _, H1, rfl, I1.kept (t' := s1.toks) fun b o e => Heap.get?_push_of_some _ e, turn_list a _, ⟨_, Heap.get?_push_size _ rfl, rfl, rfl⟩, fun b hb => ?_, q⟩
    have e : b = s1.heap.objs.size := by simpa using hb
    subst e
    exact I1.fpOk (Nat.le_refl _) (I1.hok.fresh (Nat.le_refl _))
  · cases r1
    obtain ⟨its, rv, p, hz⟩ := I1.tuple hq
    refine wpAny_pyIter_tuple (show s1.heap.IsTuple a its.toArray from p) ?_
    refine ⟨s1.heap.objs.size, [s1.heap.objs.size], _, _, H1, rfl, I1.kept (t' := s1.toks) fun b o e => Heap.get?_push_of_some _ e, turn_tuple a _, ⟨_, Heap.get?_push_size _ rfl, rfl, rfl⟩, fun b hb => ?_, q⟩
    have e : b = s1.heap.objs.size := by simpa using hb
    subst e
    exact I1.fpOk (Nat.le_refl _) (I1.hok.fresh (Nat.le_refl _))
  · obtain ⟨t, rfl⟩ := r1
    cases ha : z.cps.all (· < 128)
    · exact wpAny_pyIter_wide ha (pi_one (tk := s1.toks) I1 _ (turn_str _ z t "str_iterator" (.inr rfl)) ⟨_, Heap.get?_push_size _ rfl, rfl, rfl⟩ q)
    · exact wpAny_pyIter_ascii ha (pi_one (tk := s1.toks) I1 _ (turn_str _ z t "str_ascii_iterator" (.inl rfl)) ⟨_, Heap.get?_push_size _ rfl, rfl, rfl⟩ q)
theorem ci_seq (he : PE X e (Te X.K X.mg W fe)) : PI X tg e (Ti X.K X.mg W (iSeq fe)) := PI.imp (pi_any he) fun σ H Rw h =>
  Tm.bind (k := fun _ x s => match x with
  | .tup xs => R.ok (Itm.mk (xs) (always)) s
  | .fl xs => R.ok (Itm.mk (xs) (always)) s
  | .str z => R.ok (Itm.mk (z.cps.toList.map fun c => .str ⟨#[c]⟩) (always)) s
  | .loc l => match s[l]? with
    | some (.lst xs) => R.ok (Itm.mk (xs) (fun s2 => s2[l]? = some (.lst xs))) s
    | _ => R.no
  | _ => R.no) h fun m1 H1 env x v s1 r1 E1 p1 g1 => by
    cases x with
    | tup xs =>
      obtain ⟨a, vs, rfl, hq, rr⟩ := p1.sqT
      exact .inl ⟨a, rfl, .inr ⟨⟨vs, hq⟩, g1 m1 H1 _ .refl r1 (itr_tup hq rr)⟩⟩
    | fl xs =>
      cases p1 with
      | fl hq rr => exact .inl ⟨_, rfl, .inl ⟨⟨_, hq.sq⟩, g1 m1 H1 _ .refl r1 (itr_fl hq rr)⟩⟩
    | str z => cases p1; exact .inr ⟨z, rfl, g1 m1 H1 _ .refl r1 itr_str⟩
    | loc l =>
      cases p1 with
      | loc hl =>
        cases q : s1[l]? with
        | none => simp only [q] at g1; exact g1.elim
        | some c =>
          cases c with
          | dic _ => simp only [q] at g1; exact g1.elim
          | dct _ => simp only [q] at g1; exact g1.elim
          | lst xs =>
            simp only [q] at g1
            obtain ⟨vs, h1, h2⟩ := r1.list hl q
            exact .inl ⟨_, rfl, .inl ⟨⟨vs, .inl (.inl h1)⟩, g1 m1 H1 _ .refl r1 (itr_list hl)⟩⟩
    | _ => exact g1.elim
theorem ci_range1 (hg : Gl X "range") (hm : X.mg "range" = none) (ha : PA X [a] (Ta X.K X.mg W fs)) (hs : starEach [a] X.env = [(false, eval a X.env)] := by rfl) : PI X tg (.Call (.Name "range" p) [a] [] pos) (Ti X.K X.mg W (iRange1 fs)) :=
  PI.imp (pi_range1 hg hm ha hs) fun σ H Rw h => Tm.bind (k := fun _ x s => match x with
  | [.int j] => if InR j then R.ok (Itm.mk ((List.range j.toNat).map fun i => .int ((0 : Int) + (i : Nat))) (always)) s else R.no
  | _ => R.no) h fun m1 H1 env x v s1 r1 E1 p1 g1 => by
    match x, p1, g1 with
    | [.int j], p1, g1 =>
      obtain ⟨v, rfl, h⟩ := reps1 p1
      cases h
      by_cases hj : InR j
      · simp only [hj, if_true] at g1
        exact ⟨j, rfl, hj.1, hj.2, g1 m1 H1 _ .refl r1 itr_range⟩
      · simp only [hj, if_false] at g1
        exact g1.elim
    | [], _, g1 => exact g1.elim
    | [.non], _, g1 => exact g1.elim
    | [.bl _], _, g1 => exact g1.elim
    | [.str _], _, g1 => exact g1.elim
    | [.tup _], _, g1 => exact g1.elim
    | [.fl _], _, g1 => exact g1.elim
    | [.loc _], _, g1 => exact g1.elim
    | [.exv _ _ _ _], _, g1 => exact g1.elim
    | .non :: _ :: _, _, g1 => exact g1.elim
    | .bl _ :: _ :: _, _, g1 => exact g1.elim
    | .int _ :: _ :: _, _, g1 => exact g1.elim
    | .str _ :: _ :: _, _, g1 => exact g1.elim
    | .tup _ :: _ :: _, _, g1 => exact g1.elim
    | .fl _ :: _ :: _, _, g1 => exact g1.elim
    | .loc _ :: _ :: _, _, g1 => exact g1.elim
    | .exv _ _ _ _ :: _ :: _, _, g1 => exact g1.elim
theorem ci_range2 (hg : Gl X "range") (hm : X.mg "range" = none) (ha : PA X [a, b] (Ta X.K X.mg W fs)) (hs : starEach [a, b] X.env = [(false, eval a X.env), (false, eval b X.env)] := by rfl) (hs2 : starEach [b] X.env = [(false, eval b X.env)] := by rfl) :
    PI X tg (.Call (.Name "range" p) [a, b] [] pos) (Ti X.K X.mg W (iRange2 fs)) :=
  PI.imp (pi_range2 hg hm ha hs hs2) fun σ H Rw h => Tm.bind (k := fun _ x s => match x with
  | [.int i, .int j] => if InR i ∧ InR j then R.ok (Itm.mk ((List.range (j - i).toNat).map fun k => .int (i + (k : Nat))) (always)) s else R.no
  | _ => R.no) h fun m1 H1 env x v s1 r1 E1 p1 g1 => by
    split at g1
    · rename_i i j
      obtain ⟨v, w, rfl, h, h2⟩ := reps2 p1
      cases h; cases h2
      by_cases hj : InR i ∧ InR j
      · simp only [hj, and_self, if_true] at g1
        exact ⟨i, j, rfl, ⟨hj.1.1, hj.1.2, hj.2.1, hj.2.2⟩, g1 m1 H1 _ .refl r1 itr_range⟩
      · simp only [hj, if_false] at g1
        exact g1.elim
    · exact g1.elim
end
/-- o[i] = e of a list -/
def pList (x y z : D) (s : Store) : Option Store := match x, y with
  | .loc l, .int i => match s[l]? with
    | some (.lst xs) => (ixN xs.length i).map fun j => s.set l (.lst (xs.set j z))
    | _ => none
  | _, _ => none
theorem puts_list {K : PySem.W.Frag} : PutS K rSetL pList := by
  intro m H s s' x y z dx dy dz Q r px py pz e q
  unfold pList at e
  split at e
  · rename_i l i
    cases px with
    | loc hl =>
      cases py
      split at e
      · rename_i xs q1
        cases q2 : ixN xs.length i with
        | none => rw [q2] at e; cases e
        | some j =>
          rw [q2] at e
          cases e
          obtain ⟨vs, h1, h2⟩ := r.list hl q1
          obtain ⟨le, r2⟩ := le_setlist r hl (h2.set pz j)
          exact ⟨_, vs, i, j, rfl, rfl, h1, by rw [← h2.length]; exact q2, q _ le r2⟩
      · cases e
  · cases e
end Mi
namespace Mi
open PySem PySem.Spec PyProof.Rows L2
/-! ### list comprehensions -/
/-- a list that is being made is no cell yet: what a value's standing needs -/
structure Lw (K : PySem.W.Frag) (m : List Addr) (H : Hp) (m' : List Addr) (H' : Hp) : Prop where
  pre : ∃ r, m' = m ++ r
  tup : ∀ a xs, SqT K H a xs → SqT K H' a xs
  frl : ∀ a xs, FrL K H a xs → FrL K H' a xs
  xd : ∀ b vfs, H b = some (.xd vfs) → b ∉ m → H' b = some (.xd vfs) ∧ b ∉ m'
  trk : ∀ a xs, H a = some (.tup xs) → H' a = some (.tup xs)
section
variable {K : PySem.W.Frag} {mg : Str → Option Value} {m m1 m2 : List Addr} {H H1 H2 : Hp} {s : Store} {p : Addr}
theorem Le.w (e : Le K m H m1 H1) : Lw K m H m1 H1 := ⟨e.pre, e.tup, e.frl, fun b vfs h n => ⟨e.fr _ _ h n, fun z => (e.nw _ z).elim n fun q => by rw [h] at q; cases q⟩, e.trk⟩
theorem Lw.get (e : Lw K m H m1 H1) {l : Nat} {a : Addr} (h : m[l]? = some a) : m1[l]? = some a := by
  obtain ⟨r, rfl⟩ := e.pre
  rw [List.getElem?_append_left (by
    rcases Nat.lt_or_ge l m.length with q | q
    · exact q
    · rw [List.getElem?_eq_none q] at h; cases h)]
  exact h
mutual
theorem Rep.monoW (e : Lw K m H m1 H1) : ∀ {d : D} {v : V}, Rep K m H d v → Rep K m1 H1 d v
  | _, _, .non => .non
  | _, _, .bl b => .bl b
  | _, _, .int i => .int i
  | _, _, .str x => .str x
  | _, _, .tup h r => .tup (e.trk _ _ h) (Reps.monoW e r)
  | _, _, .fl h r => .fl (e.frl _ _ h) (Reps.monoW e r)
  | _, _, .loc h => .loc (e.get h)
  | _, _, .exv h n r => .exv (e.xd _ _ h n).1 (e.xd _ _ h n).2 (FldR.monoW e r)
theorem Reps.monoW (e : Lw K m H m1 H1) : ∀ {ds : List D} {vs : List V}, Reps K m H ds vs → Reps K m1 H1 ds vs
  | _, _, .nil => .nil
  | _, _, .cons h r => .cons (Rep.monoW e h) (Reps.monoW e r)
theorem FldR.monoW (e : Lw K m H m1 H1) : ∀ {ds : List (Str × D)} {vs : List (Str × V)}, FldR K m H ds vs → FldR K m1 H1 ds vs
  | _, _, .nil => .nil
  | _, _, .cons h r => .cons (Rep.monoW e h) (FldR.monoW e r)
end
theorem RepK.monoW {κ : Type} (e : Lw K m H m1 H1) : ∀ {ds : List (κ × D)} {vs : List (κ × V)}, RepK K m H ds vs → RepK K m1 H1 ds vs
  | _, _, .nil => .nil
  | _, _, .cons h r => .cons (h.monoW e) (RepK.monoW e r)
theorem RelE.monoW (e : Lw K m H m1 H1) {env : Sl} {σ : L2.St} (h : RelE K m H env σ) : RelE K m1 H1 env σ :=
  ⟨h.1, fun i d q => let ⟨v, h1, h2⟩ := h.2 i d q; ⟨v, h1, h2.monoW e⟩⟩
theorem CellR.monoW {c : Cell} {a : Addr} (e : Lw K m H m1 H1) (hs : H1 a = H a) (h : CellR K m H a c) : CellR K m1 H1 a c := by
  cases c with
  | lst xs => obtain ⟨vs, h1, h2⟩ := h; exact ⟨vs, hs.trans h1, h2.monoW e⟩
  | dic kvs => obtain ⟨ws, h1, h2⟩ := h; exact ⟨ws, hs.trans h1, h2.monoW e⟩
  | dct kvs => obtain ⟨ws, h1, h2⟩ := h; exact ⟨ws, hs.trans h1, h2.monoW e⟩
/-- a list of ours that is no cell is written -/
theorem lw_side {vs ws : List V} (h : H p = some (.lst vs)) : Lw K m H m (upd H p (HO.lst ws)) :=
  ⟨⟨[], by simp⟩, fun b xs q => by
    rcases q with (q | ⟨ob, q⟩) | q
    · exact .inl (.inl (by rw [upd_ne (fun z => by subst z; rw [h] at q; cases q)]; exact q))
    · exact .inl (.inr ⟨ob, by rw [upd_ne (fun z => by subst z; rw [h] at q; cases q)]; exact q⟩)
    · exact .inr q, fun b xs q => by
    rcases q with ⟨ob, q⟩ | q
    · exact .inl ⟨ob, by rw [upd_ne (fun z => by subst z; rw [h] at q; cases q)]; exact q⟩
    · exact .inr q, fun b vfs q n => ⟨by rw [upd_ne (fun z => by subst z; rw [h] at q; cases q)]; exact q, n⟩, fun b xs q => by rw [upd_ne (fun z => by subst z; rw [h] at q; cases q)]; exact q⟩
theorem Rel.side (r : Rel K m H s) {vs ws : List V} (h : H p = some (.lst vs)) (n : p ∉ m) : Rel K m (upd H p (HO.lst ws)) s :=
  ⟨r.len, r.nd, fun l a c h1 h2 => (r.at_ l a c h1 h2).monoW (lw_side h) (upd_ne fun z => by subst z; exact n (List.mem_of_getElem? h1))⟩
theorem Le.side (e : Le K m H m1 H1) {vs ws : List V} (h0 : H p = none) (h : H1 p = some (.lst vs)) : Le K m H m1 (upd H1 p (HO.lst ws)) :=
  ⟨e.pre, fun a xs q => (lw_side (m := m1) h).tup a xs (e.tup a xs q), fun a xs q => (lw_side (m := m1) h).frl a xs (e.frl a xs q), fun b o q n => by
    rw [upd_ne (fun z => by subst z; rw [h0] at q; cases q)]; exact e.fr b o q n, e.nw, fun a xs q => (lw_side (K := K) (m := m1) h).trk a xs (e.trk a xs q)⟩
theorem lw_adopt {vs : List V} (h : H p = some (.lst vs)) : Lw K m H (m ++ [p]) H := ⟨⟨[p], rfl⟩, fun _ _ q => q, fun _ _ q => q, fun b vfs q n => ⟨q, fun z => by
    rcases List.mem_append.mp z with z | z
    · exact n z
    · rw [List.mem_singleton.mp z, h] at q; cases q⟩, fun _ _ q => q⟩
theorem Rel.adopt (r : Rel K m H s) {xs : List D} {vs : List V} (n : p ∉ m) (h : H p = some (.lst vs)) (q : Reps K m H xs vs) : Rel K (m ++ [p]) H (s ++ [Cell.lst xs]) := by
  refine ⟨by simp [r.len], ?_, fun j b d h1 h2 => ?_⟩
  · rw [List.nodup_append]
    exact ⟨r.nd, by simp, fun x hx y hy => by rw [List.mem_singleton.mp hy]; exact fun z => n (z ▸ hx)⟩
  · rcases Nat.lt_or_ge j m.length with w | w
    · rw [List.getElem?_append_left w] at h1
      rw [List.getElem?_append_left (by rw [← r.len]; exact w)] at h2
      exact (r.at_ j b d h1 h2).monoW (lw_adopt h) rfl
    · rw [List.getElem?_append_right w] at h1
      rw [List.getElem?_append_right (by rw [← r.len]; exact w), ← r.len] at h2
      cases hk : j - m.length with
      | zero =>
        rw [hk] at h1 h2
        simp at h1 h2
        subst h1; subst h2
        exact ⟨vs, h, q.monoW (lw_adopt h)⟩
      | succ n => rw [hk] at h1; simp at h1
theorem Le.adopt (e : Le K m H m1 H1) (h0 : H p = none) : Le K m H (m1 ++ [p]) H1 := by
  refine ⟨?_, e.tup, e.frl, e.fr, fun b h => ?_, e.trk⟩
  · obtain ⟨r, rfl⟩ := e.pre
    exact ⟨r ++ [p], by simp⟩
  · rcases List.mem_append.mp h with q | q
    · exact e.nw b q
    · rw [List.mem_singleton.mp q]; exact .inr h0
end
def wipeE (env : Sl) : List Nat → Sl
  | [] => env
  | v :: vs => (wipeE env vs).set v none
theorem wipeE_length (env : Sl) : ∀ vs : List Nat, (wipeE env vs).length = env.length
  | [] => rfl
  | v :: vs => by unfold wipeE; rw [List.length_set, wipeE_length env vs]
theorem wipeE_some {env : Sl} {i : Nat} {x : D} : ∀ {vs : List Nat}, (wipeE env vs)[i]? = some (some x) → env[i]? = some (some x) ∧ i ∉ vs
  | [], h => ⟨h, by simp⟩
  | v :: vs, h => by
    unfold wipeE at h
    by_cases hi : v = i
    · subst hi
      by_cases hv : v < (wipeE env vs).length
      · rw [List.getElem?_set_self hv] at h; cases h
      · rw [List.getElem?_eq_none (by simpa using hv)] at h; cases h
    · rw [List.getElem?_set_ne hi] at h
      obtain ⟨h1, h2⟩ := wipeE_some h
      exact ⟨h1, by simp only [List.mem_cons, not_or]; exact ⟨fun e => hi e.symm, h2⟩⟩
theorem relE_wipe {K : PySem.W.Frag} {m : List Addr} {H : Hp} {env : Sl} {σ : L2.St} (E : RelE K m H env σ) (vs : List Nat) : RelE K m H (wipeE env vs) (wipe σ vs) := by
  refine ⟨by rw [wipeE_length, wipe_length]; exact E.1, fun i d h => ?_⟩
  obtain ⟨h1, h2⟩ := wipeE_some h
  obtain ⟨v, h3, h4⟩ := E.2 i d h1
  exact ⟨v, by rw [wipe_out h2]; exact h3, h4⟩
theorem wipe_in {σ : L2.St} {i : Nat} : ∀ {vs : List Nat}, i ∈ vs → i < σ.length → (wipe σ vs)[i]? = some none
  | v :: vs, h, hl => by
    unfold wipe
    by_cases hv : v = i
    · subst hv
      rw [List.getElem?_set_self (by rw [wipe_length]; exact hl)]
    · rw [List.getElem?_set_ne hv]
      exact wipe_in (by rcases List.mem_cons.mp h with e | e; exact absurd e.symm hv; exact e) hl
theorem wipe_congr {σ σ' : L2.St} {vs : List Nat} (hl : σ'.length = σ.length) (h : ∀ i, i ∉ vs → σ'[i]? = σ[i]?) : wipe σ' vs = wipe σ vs := by
  apply List.ext_getElem?
  intro i
  by_cases hi : i ∈ vs
  · by_cases hn : i < σ.length
    · rw [wipe_in hi (by rw [hl]; exact hn), wipe_in hi hn]
    · rw [List.getElem?_eq_none (by rw [wipe_length, hl]; omega), List.getElem?_eq_none (by rw [wipe_length]; omega)]
  · rw [wipe_out hi, wipe_out hi, h i hi]
theorem wipe_wipe (σ : L2.St) (vs : List Nat) : wipe (wipe σ vs) vs = wipe σ vs := wipe_congr (wipe_length σ vs) fun i hi => wipe_out hi
/-- nothing is raised within a comprehension -/
def noX {α : Type} : R α → R α
  | .ok a s => .ok a s
  | _ => .no
open Classical in
noncomputable def lcL (guard : Store → Prop) (g : D → Sl → Option Sl) (t : ME Bool) (e : ME D) (env : Sl) : List D → List D → Store → R (List D)
  | [], acc, s => if guard s then .ok acc s else .no
  | x :: xs, acc, s => if guard s then (match g x env with
    | none => .no
    | some env1 => match t env1 s with
      | .ok b s1 => if b then (match e env1 s1 with
        | .ok y s2 => if acc.length < sizeLine then lcL guard g t e env xs (acc ++ [y]) s2 else .no
        | _ => .no) else lcL guard g t e env xs acc s1
      | _ => .no) else .no
noncomputable def eLc (it : ME Itm) (vs : List Nat) (g : D → Sl → Option Sl) (t : ME Bool) (e : ME D) : ME D := fun env s => (it env s).bind fun i s => (lcL i.guard g t e (wipeE env vs) i.xs [] s).bind fun acc s => .ok (.loc s.length) (s ++ [.lst acc])
def tT : ME Bool := fun _ s => .ok true s
abbrev WF : WX := fun _ _ _ _ => False
section
variable {X : Cx} {W : WX}
theorem lc_run {fi : ME Itm} {vs : List Nat} {gt : D → Sl → Option Sl} {ft : ME Bool} {fe : ME D} : ∀ σ H Q, Te X.K X.mg W (eLc fi vs gt ft fe) σ H Q →
    tLc (Ti X.K X.mg W fi) (GTm X.K vs gt) (Tt X.K X.mg WF ft) (Te X.K X.mg WF fe) vs σ H Q := fun σ H Q h =>
  Tm.bind (k := fun env (i : Itm) s => (lcL i.guard gt ft fe (wipeE env vs) i.xs [] s).bind fun acc s => R.ok (D.loc s.length) (s ++ [Cell.lst acc])) h fun m1 H1 env it J s1 r1 E1 p1 g1 => by
    intro P hP
    refine ⟨fun i k H => k = it.xs.length - i ∧ i ≤ it.xs.length ∧ ∃ m2 s2 acc accV, Le X.K m1 H1 m2 H ∧ Rel X.K m2 H s2 ∧ H P = some (.lst accV) ∧ P ∉ m2 ∧ Reps X.K m2 H acc accV ∧
        G X.K X.mg (Rep X.K) W σ m1 H1 Q ((lcL it.guard gt ft fe (wipeE env vs) (it.xs.drop i) acc s2).bind fun acc s => R.ok (D.loc s.length) (s ++ [Cell.lst acc])),
      ⟨it.xs.length, by simp, Nat.zero_le _, m1, s1, [], [], le_new hP, r1.tmp hP, upd_same, r1.new_notin hP, .nil, g1⟩, ?_⟩
    rintro i k H2 ⟨rfl, hi, m2, s2, acc, accV, l2, r2, hD, nD, pA, g2⟩
    by_cases hlt : i < it.xs.length
    · have hx : it.xs[i]? = some it.xs[i] := by simp [hlt]
      have hd : it.xs.drop i = it.xs[i] :: it.xs.drop (i + 1) := List.drop_eq_getElem_cons hlt
      rw [hd] at g2
      unfold lcL at g2
      by_cases hgd : it.guard s2
      · simp only [hgd, if_true] at g2
        obtain ⟨hall, _⟩ := p1 m2 H2 s2 l2 r2 hgd
        obtain ⟨hgo, hy⟩ := hall i _ hx
        refine .inr ⟨hgo, fun H' => ∃ m2 s2 acc accV, Le X.K m1 H1 m2 H' ∧ Rel X.K m2 H' s2 ∧ H' P = some (.lst accV) ∧ P ∉ m2 ∧ Reps X.K m2 H' acc accV ∧
          G X.K X.mg (Rep X.K) W σ m1 H1 Q ((lcL it.guard gt ft fe (wipeE env vs) (it.xs.drop (i + 1)) acc s2).bind fun acc s => R.ok (D.loc s.length) (s ++ [Cell.lst acc])),
          fun H' q => ⟨it.xs.length - (i + 1), by omega, rfl, hlt, q⟩, fun v H3 y => ?_⟩
        obtain ⟨l3, r3, p3⟩ := hy v H3 y
        cases q : gt it.xs[i] (wipeE env vs) with
        | none => simp only [q] at g2; exact g2.elim
        | some env3 =>
          simp only [q] at g2
          have l13 := l2.trans l3
          have hD3 := l3.fr P _ hD nD
          refine ⟨m2, wipeE env vs, s2, it.xs[i], env3, r3, relE_wipe (E1.mono l13) vs, p3, q, fun σ4 E4 k4 n4 => ⟨by rw [wipe_congr n4 k4, wipe_wipe], m2, env3, s2, r3, E4, ?_⟩⟩
          cases ht : ft env3 s2 with
          | no => rw [ht] at g2; exact g2.elim
          | ex x s4 => rw [ht] at g2; exact g2.elim
          | ok b s4 =>
            simp only [ht] at g2
            intro m5 H5 b' l5 r5 eb
            cases (show b = b' from eb)
            have hD5 := l5.fr P _ hD3 nD
            have nD5 : P ∉ m5 := fun z => by
              rcases l5.nw P z with w | w
              · exact nD w
              · rw [hD3] at w; cases w
            have l15 := l13.trans l5
            cases b with
            | false =>
              refine iteF ⟨m5, s4, acc, accV, l15, r5, hD5, nD5, (pA.mono l3).mono l5, ?_⟩
              simpa using g2
            | true =>
              simp only [if_true] at g2
              refine iteT ⟨m5, env3, s4, r5, E4.mono l5, ?_⟩
              cases he : fe env3 s4 with
              | no => rw [he] at g2; exact g2.elim
              | ex x s6 => rw [he] at g2; exact g2.elim
              | ok y s6 =>
                simp only [he] at g2
                by_cases hz : acc.length < sizeLine
                · simp only [hz, if_true] at g2
                  intro m7 H7 yv l7 r7 p7
                  have hD7 := l7.fr P _ hD5 nD5
                  have nD7 : P ∉ m7 := fun z => by
                    rcases l7.nw P z with w | w
                    · exact nD5 w
                    · rw [hD5] at w; cases w
                  have pA7 := ((pA.mono l3).mono l5).mono l7
                  exact ⟨accV, hD7, by rw [← pA.length]; exact hz, m7, s6, acc ++ [y], accV ++ [yv], (l15.trans l7).side hP hD7, r7.side hD7 nD7, upd_same, nD7,
                    (pA7.monoW (lw_side hD7)).append (.cons (p7.monoW (lw_side hD7)) .nil), g2⟩
                · simp only [hz, if_false] at g2
                  exact g2.elim
      · simp only [hgd, if_false] at g2
        exact g2.elim
    · have e : i = it.xs.length := by omega
      subst e
      rw [List.drop_length] at g2
      unfold lcL at g2
      by_cases hgd : it.guard s2
      · simp only [hgd, if_true] at g2
        refine .inl ⟨(p1 m2 H2 s2 l2 r2 hgd).2, ?_⟩
        exact g2 (m2 ++ [P]) H2 (.ref P) (l2.adopt hP) (r2.adopt nD hD pA) (.loc (len_get r2))
      · simp only [hgd, if_false] at g2
        exact g2.elim
variable {elt tg iter c : Expr} {ifs : List Expr} {scope : Scope} {own : List (Str × Nat)} {pos : Pos} {fi : ME Itm} {gt : D → Sl → Option Sl} {ft : ME Bool} {fe : ME D}
theorem cts_nil : PTs X [] (Tt X.K X.mg W tT) := ⟨fun pins s σ H Q I ⟨m, env, st, r, E, g⟩ => pts_nil.run pins s σ H Q I (g.nowB r)⟩
theorem cts_one (h : PT X c (Tt X.K X.mg W ft)) : PTs X [c] (Tt X.K X.mg W ft) := pts_one h
theorem ce_lc (hc : X.calm = true) (hN : X.N.Nodup) (hi : PI X tg iter (Ti X.K X.mg W fi)) (ok : BlkOk X.N X.env.scope scope own)
    (hg : ∀ (s : Shared) (H : Hp) (C : Addr) (cl : List (Str × Addr)) (fp : List Addr), PG (X.blk s H scope (compEnvC scope cl C X.env) fp) tg (GTm X.K (own.map (·.2)) gt)) (ht : ∀ (s : Shared) (H : Hp) (C : Addr) (cl : List (Str × Addr)) (fp : List Addr), PTs (X.blk s H scope (compEnvC scope cl C X.env) fp) ifs (Tt X.K X.mg WF ft))
    (he : ∀ (s : Shared) (H : Hp) (C : Addr) (cl : List (Str × Addr)) (fp : List Addr), PE (X.blk s H scope (compEnvC scope cl C X.env) fp) elt (Te X.K X.mg WF fe)) (hs : ∀ x, foldedSetIterable iter X.env x = pure x := by intro _; rfl) :
    PE X (.ListComp elt [⟨tg, iter, ifs, 0⟩] scope pos) (Te X.K X.mg W (eLc fi (own.map (·.2)) gt ft fe)) := PE.imp (pe_lc hc hN hi ok hg ht he hs) lc_run
theorem cs_setLc {i : Nat} {y : Str} {py spos : Pos} (hc : X.calm = true) (hN : X.N.Nodup) (hy : X.N[i]? = some y) (hyl : X.env.scope.names.lookup y = some .local)
    (hsw : swapsWith (.ListComp elt [⟨tg, iter, ifs, 0⟩] scope pos) (some (.Name y py)) spos.line X.env = pure true) (hi : PI X tg iter (Ti X.K X.mg W fi)) (ok : BlkOk X.N X.env.scope scope own)
    (hg : ∀ (s : Shared) (H : Hp) (C : Addr) (cl : List (Str × Addr)) (fp : List Addr), PG (X.blk s H scope (compEnvC scope cl C X.env) fp) tg (GTm X.K (own.map (·.2)) gt)) (ht : ∀ (s : Shared) (H : Hp) (C : Addr) (cl : List (Str × Addr)) (fp : List Addr), PTs (X.blk s H scope (compEnvC scope cl C X.env) fp) ifs (Tt X.K X.mg WF ft))
    (he : ∀ (s : Shared) (H : Hp) (C : Addr) (cl : List (Str × Addr)) (fp : List Addr), PE (X.blk s H scope (compEnvC scope cl C X.env) fp) elt (Te X.K X.mg WF fe)) (hs : ∀ x, foldedSetIterable iter X.env x = pure x := by intro _; rfl) :
    PS X (.Assign [.Name y py] (.ListComp elt [⟨tg, iter, ifs, 0⟩] scope pos) spos) (Ts X.K X.mg W (sSet i (eLc fi (own.map (·.2)) gt ft fe))) := PS.imp (ps_setLc (i := i) hc hN hy hyl hsw hi ok hg ht he hs) fun Dn σ H h =>
  lc_run σ H _ (Ts.ofE (k := fun env d s => RS.nx (env.set i (some d)) s) h fun m1 H1 env d v s1 r1 E1 p1 g1 => g1 m1 _ H1 .refl r1 (relE_set E1 p1 i))
end
/-! ### a def -/
/-- the mirror of a def: N names, n of them parameters -/
def fnM (N n : Nat) (b : MS) : List D → Store → R D := fun ds s => match b (ds.map some ++ List.replicate (N - n) none) s with
  | .rt d s => .ok d s
  | .nx _ s => .ok .non s
  | .ex e _ s => .ex e s
  | _ => .no
theorem relE_start {K : PySem.W.Frag} {m : List Addr} {H : Hp} {N : List Str} {ds : List D} {vs : List V} (p : Reps K m H ds vs) : RelE K m H (ds.map some ++ List.replicate (N.length - ds.length) none) (L2.start N vs) := by
  have hl := p.length
  refine ⟨by simp [L2.start, hl], fun i d h => ?_⟩
  by_cases hi : i < ds.length
  · rw [List.getElem?_append_left (by simpa using hi), List.getElem?_map] at h
    cases q : ds[i]? with
    | none => rw [q] at h; cases h
    | some d' =>
      rw [q] at h; cases h
      obtain ⟨v, h1, h2⟩ := p.get q
      refine ⟨v, ?_, h2⟩
      unfold L2.start
      rw [List.getElem?_append_left (by simpa using (hl ▸ hi)), List.getElem?_map, h1]
      rfl
  · rw [List.getElem?_append_right (by simpa using Nat.le_of_not_lt hi), List.getElem?_replicate] at h
    split at h <;> cases h
theorem okM {P : Program} {w : World} {K : PySem.W.Frag} {mg : Str → Option Value} {base : Heap} {x qual : Str} {st : Stmt} {f : Addr} {fd : FuncData} {N ps : List Str} {k n : Nat} {b : MS} (F : Fun K x qual st f fd) (S : FnScope N ps (defScope st)) (hn : ps.length = n)
    (hb : ∀ (cdv : Value) (A : Around) (outer : List Env) (s : Shared) (H : Hp) (E : XK), Room k (A.deeper (envOfC qual (defScope st) s.heap.objs.size f cdv)) → Takes (cxOf (L2.CX P w) P w K mg base N qual (defScope st) f cdv A outer s H E) (fun c d _ H => E c d H) →
      PSs (cxOf (L2.CX P w) P w K mg base N qual (defScope st) f cdv A outer s H E) (defBody st) (Ts K mg (fun c d _ H => E c d H) b)) :
    FnOk P w K mg base (L2.CX P w) (k + 1) f fd ps (spM K mg n (fnM N.length n b)) := by
  refine F.okX S (fun vs H Q E h => by rw [hn]; exact h.1) fun cdv A outer s H vs Q E hr h => ⟨_, hb cdv A outer s H E hr (takes_of rfl rfl rfl rfl), ?_⟩
  obtain ⟨hl, m, s, ds, r, p, g⟩ := h
  refine ⟨m, _, s, r, relE_start (N := N) p, ?_⟩
  have hd : ds.length = n := by rw [p.length, hl]
  unfold fnM at g
  rw [hd]
  cases q : b (ds.map some ++ List.replicate (N.length - n) none) s with
  | nx env s1 => rw [q] at g; exact fun m' σ' H' l r' _ => g m' H' .non l r' .non
  | rt d s1 => rw [q] at g; exact g
  | ex e env s1 => rw [q] at g; exact fun m' σ' H' c dd l r' _ x => g m' H' c dd l r' x
  | bk env s1 => rw [q] at g; exact g.elim
  | ct env s1 => rw [q] at g; exact g.elim
  | no => rw [q] at g; exact g.elim
end Mi
namespace Mi
open PySem PySem.Spec PyProof.Rows L2
/-! ### the law's end -/
theorem an_nil : ∀ (xs : List D) (s : Store) (env : Sl) (s' : Store), aNil env s = .ok xs s' → xs.length = 0 := fun xs s env s' h => by cases h; rfl
theorem an_cons {a : ME D} {r : ME (List D)} {n : Nat} (h : ∀ (xs : List D) (s : Store) (env : Sl) (s' : Store), r env s = .ok xs s' → xs.length = n) :
    ∀ (xs : List D) (s : Store) (env : Sl) (s' : Store), aCons a r env s = .ok xs s' → xs.length = n + 1 := fun xs s env s' e => by
  unfold aCons at e
  cases q : a env s with
  | no => rw [q] at e; cases e
  | ex x s1 => rw [q] at e; cases e
  | ok x s1 =>
    rw [q] at e
    simp only [R.bind_ok] at e
    cases q2 : r env s1 with
    | no => rw [q2] at e; cases e
    | ex x s2 => rw [q2] at e; cases e
    | ok ys s2 =>
      rw [q2] at e
      simp only [R.bind_ok] at e
      have z := h ys s1 env s2 q2
      cases e
      rw [List.length_cons, z]
def dAddI : D → D → Store → Option (D × Store) := dI fun i j => some (.int (i + j))
theorem ips_add {K : PySem.W.Frag} : OpS K (ipI fun i j => i + j) dAddI := fun {mg W σ m H s x y dx dy Q} r px py g => ops_dI0 (K := K) (gv := fun i j => .int (i + j)) (fun _ _ _ _ => .int _) r px py g
theorem ips_sub {K : PySem.W.Frag} : OpS K (ipI fun i j => i - j) dSub := fun {mg W σ m H s x y dx dy Q} r px py g => ops_sub (K := K) r px py g
theorem cx_none {P : Program} {w : World} {l : List Env} {H : Hp} {s : Shared} {e : Value} {s' : Shared} (h : L2.CX P w l H s (fun _ _ _ => False) e s') : False := by
  obtain ⟨_, _, _, _, _, _, _, _, _, _, _, _, z⟩ := h
  exact z
def spLaw (K : PySem.W.Frag) : Sp := fun vs H Q _ => ∃ (a : Addr) (ns : List Int), vs = [.ref a] ∧ SqL K H a (ns.map V.int) ∧ ns.length ≤ 63 ∧ Only H ∧ ∀ H', Q (.bl true) H'
theorem law_imp {K : PySem.W.Frag} {mg : Str → Option Value} {g : List D → Store → R D} (h : ∀ ns : List Int, ns.length ≤ 63 → ∃ s, g [.fl (ns.map D.int)] [] = .ok (.bl true) s) :
    ∀ vs H Q E, spLaw K vs H Q E → spM K mg 1 g vs H Q E := fun vs H Q E ⟨a, ns, e, hS, hl, hO, q⟩ => by
  subst e
  refine ⟨rfl, [], [], [.fl (ns.map D.int)], ⟨rfl, List.nodup_nil, fun l a c h => by simp at h⟩, .cons (.fl (vs := ns.map V.int) ?_ (reps_ints ns)) .nil, ?_⟩
  · rcases hS with (hS | hS) | hS
    · rcases hO a with z | ⟨o, xs, z⟩
      · rw [hS] at z; cases z
      · rw [hS] at z; cases z
    · exact .inl hS
    · exact .inr hS
  · obtain ⟨s, e⟩ := h ns hl
    rw [e]
    intro m' H' v _ _ p
    cases p
    exact q H'
end Mi
namespace Mi
open PySem PySem.Spec PyProof.Rows L2
/-! ### running a mirror by simp -/
@[simp] theorem line_num : sizeLine = 16777216 := sizeLine_eq
/-- what range(n) gives -/
def rng (n : Nat) : List D := (List.range n).map fun i => .int ((0 : Int) + (i : Nat))
section
variable (env : Sl) (s : Store)
@[simp] theorem eC_eq (d : D) : eC d env s = .ok d s := rfl
@[simp] theorem eV_0 (d : D) (r : Sl) : eV 0 (some d :: r) s = .ok d s := rfl
@[simp] theorem eV_s (i : Nat) (o : Option D) (r : Sl) : eV (i + 1) (o :: r) s = eV i r s := rfl
@[simp] theorem e2_eq (g) (a b : ME D) : e2 g a b env s = (a env s).bind fun x s => (b env s).bind fun y s => R.of (g x y s) := rfl
@[simp] theorem e1_eq (g) (a : ME D) : e1 g a env s = (a env s).bind fun x s => R.of (g x s) := rfl
@[simp] theorem aNil_eq : aNil env s = .ok [] s := rfl
@[simp] theorem aCons_eq (a : ME D) (r : ME (List D)) : aCons a r env s = (a env s).bind fun x s => (r env s).bind fun xs s => .ok (x :: xs) s := rfl
@[simp] theorem eFn_eq (g) (a : ME (List D)) : eFn g a env s = (a env s).bind fun xs s => R.of (g xs s) := rfl
theorem le_line {n : Nat} (h : n ≤ 1000000) : n ≤ sizeLine := by rw [sizeLine_eq]; omega
theorem lt_line {n : Nat} (h : n ≤ 1000000) : n < sizeLine := by rw [sizeLine_eq]; omega
@[simp] theorem eTup_eq (a : ME (List D)) : eTup a env s = (a env s).bind fun xs s => if xs.length ≤ sizeLine then .ok (.tup xs) s else .no := rfl
@[simp] theorem eLst_eq (a : ME (List D)) : eLst a env s = (a env s).bind fun xs s => if xs.length ≤ sizeLine then .ok (.loc s.length) (s ++ [.lst xs]) else .no := rfl
/-- written displays -/
def arity : ME (List D) → Nat → Prop := fun a n => ∀ env s xs s', a env s = .ok xs s' → xs.length = n
theorem tup_short (xs : List D) (h : xs.length ≤ 1000000) : (if xs.length ≤ sizeLine then (R.ok (D.tup xs) s : R D) else .no) = .ok (.tup xs) s := if_pos (le_line h)
@[simp] theorem eCall_eq (g : List D → Store → R D) (a : ME (List D)) : eCall g a env s = (a env s).bind g := rfl
@[simp] theorem tV_eq (a : ME D) : tV a env s = (a env s).bind fun x s => match x with | .bl b => .ok b s | _ => .no := rfl
@[simp] theorem tAnd_eq (a b : ME Bool) : tAnd a b env s = (a env s).bind fun x s => if x then b env s else .ok false s := rfl
@[simp] theorem tOr_eq (a b : ME Bool) : tOr a b env s = (a env s).bind fun x s => if x then .ok true s else b env s := rfl
@[simp] theorem tNot_eq (a : ME Bool) : tNot a env s = (a env s).bind fun x s => .ok (!x) s := rfl
@[simp] theorem eIf_eq (c : ME Bool) (a b : ME D) : eIf c a b env s = (c env s).bind fun x s => if x then a env s else b env s := rfl
@[simp] theorem eAnd_eq (a b : ME D) : eAnd a b env s = (a env s).bind fun x s => match x with | .bl true => b env s | .bl false => .ok (.bl false) s | _ => .no := rfl
@[simp] theorem eOr_eq (a b : ME D) : eOr a b env s = (a env s).bind fun x s => match x with | .bl true => .ok (.bl true) s | .bl false => b env s | _ => .no := rfl
@[simp] theorem eNot_eq (a : ME D) : eNot a env s = (a env s).bind fun x s => match x with | .bl c => .ok (.bl !c) s | _ => .no := rfl
@[simp] theorem eChain_eq (g g') (a b c : ME D) : eChain g g' a b c env s = (a env s).bind fun x s => (b env s).bind fun y s => (R.of (g x y s)).bind fun z s => match z with
  | .bl true => (c env s).bind fun w s => R.of (g' y w s)
  | .bl false => .ok (.bl false) s
  | _ => .no := rfl
@[simp] theorem eMt_eq (T : String) (g) (a : ME D) (fs : ME (List D)) : eMt T g a fs env s = (a env s).bind fun x s => if tyOk T s x = true then (fs env s).bind fun xs s => R.of (g x xs s) else .no := rfl
@[simp] theorem eMt0_eq (T : String) (g) (a : ME D) : eMt0 T g a env s = (a env s).bind fun x s => if tyOk T s x = true then R.of (g x [] s) else .no := rfl
@[simp] theorem oNone_eq : oNone env s = .ok none s := rfl
@[simp] theorem oSome_eq (a : ME D) : oSome a env s = (a env s).bind fun x s => match x with | .int i => .ok (some i) s | _ => .no := rfl
@[simp] theorem eSl_eq (g) (a : ME D) (lo hi : ME (Option Int)) : eSl g a lo hi env s = (a env s).bind fun x s => (lo env s).bind fun l s => (hi env s).bind fun u s => R.of (g x l u s) := rfl
@[simp] theorem gN_eq (i : Nat) (d : D) : gN i d env = some (env.set i (some d)) := rfl
@[simp] theorem gsN_eq : gsN [] env = some env := rfl
@[simp] theorem gsC_eq (g) (r) (x : D) (xs : List D) : gsC g r (x :: xs) env = (g x env).bind (r xs) := rfl
@[simp] theorem gT_eq (n : Nat) (r) (xs : List D) : gT n r (.tup xs) env = if xs.length = n then r xs env else none := rfl
@[simp] theorem sNil_eq : sNil env s = .nx env s := rfl
@[simp] theorem sSeq_eq (f g : MS) : sSeq f g env s = (f env s).bind g := rfl
@[simp] theorem sSet_eq (i : Nat) (e : ME D) : sSet i e env s = (e env s).then env fun d s => .nx (env.set i (some d)) s := rfl
@[simp] theorem sAsg_eq (g) (e : ME D) : sAsg g e env s = (e env s).then env fun d s => match g d env with | some env' => .nx env' s | none => .no := rfl
@[simp] theorem sIf_eq (c : ME Bool) (f g : MS) : sIf c f g env s = (c env s).then env fun b s => if b then f env s else g env s := rfl
@[simp] theorem sRet_eq (e : ME D) : sRet e env s = (e env s).then env fun d s => .rt d s := rfl
@[simp] theorem sRetN_eq : sRetN env s = .rt .non s := rfl
@[simp] theorem sExpr_eq (e : ME D) : sExpr e env s = (e env s).then env fun _ s => .nx env s := rfl
@[simp] theorem sBrk_eq : sBrk env s = .bk env s := rfl
@[simp] theorem sCnt_eq : sCnt env s = .ct env s := rfl
@[simp] theorem sPut_eq (g) (o i e : ME D) : sPut g o i e env s = (e env s).then env fun d s => (o env s).then env fun x s => (i env s).then env fun y s => match g x y d s with
  | some s' => .nx env s'
  | none => .no := rfl
@[simp] theorem sFor_eq (it : ME Itm) (g) (b : MS) : sFor it g b env s = (it env s).then env fun i s => forL i.guard g b i.xs env s := rfl
@[simp] theorem eLc_eq (it : ME Itm) (vs g t e) : eLc it vs g t e env s = (it env s).bind fun i s => (lcL i.guard g t e (wipeE env vs) i.xs [] s).bind fun acc s => .ok (.loc s.length) (s ++ [.lst acc]) := rfl
@[simp] theorem tT_eq : tT env s = .ok true s := rfl
@[simp] theorem iSeq_eq (a : ME D) : iSeq a env s = (a env s).bind fun x s => match x with
  | .tup xs => .ok (Itm.mk xs always) s
  | .fl xs => .ok (Itm.mk xs always) s
  | .str z => .ok (Itm.mk (z.cps.toList.map fun c => .str ⟨#[c]⟩) always) s
  | .loc l => match s[l]? with
    | some (.lst xs) => .ok (Itm.mk xs fun s2 => s2[l]? = some (.lst xs)) s
    | _ => .no
  | _ => .no := rfl
noncomputable def rangeOf (x : List D) (s : Store) : R Itm := match x with
  | [.int j] => if InR j then .ok (Itm.mk (rng j.toNat) always) s else .no
  | _ => .no
@[simp] theorem iRange1_eq (a : ME (List D)) : iRange1 a env s = (a env s).bind rangeOf := (rfl)
theorem big62 : (1000000000 : Int) < 2 ^ 62 := by decide
@[simp] theorem rangeOf_int (j : Int) (h0 : 0 ≤ j) (h1 : j ≤ 1000000000) : rangeOf [.int j] s = .ok (Itm.mk (rng j.toNat) always) s :=
  if_pos ⟨Int.le_trans (by decide) h0, Int.lt_of_le_of_lt h1 big62⟩
noncomputable def rangeOf2 (x : List D) (s : Store) : R Itm := match x with
  | [.int i, .int j] => if InR i ∧ InR j then .ok (Itm.mk ((List.range (j - i).toNat).map fun k => .int (i + (k : Nat))) always) s else .no
  | _ => .no
@[simp] theorem iRange2_eq (a : ME (List D)) : iRange2 a env s = (a env s).bind rangeOf2 := (rfl)
@[simp] theorem rangeOf2_int (i j : Int) (h0 : 0 ≤ i) (h1 : i ≤ 1000000000) (h2 : 0 ≤ j) (h3 : j ≤ 1000000000) : rangeOf2 [.int i, .int j] s = .ok (Itm.mk ((List.range (j - i).toNat).map fun k => .int (i + (k : Nat))) always) s :=
  if_pos ⟨⟨Int.le_trans (by decide) h0, Int.lt_of_le_of_lt h1 big62⟩, Int.le_trans (by decide) h2, Int.lt_of_le_of_lt h3 big62⟩
@[simp] theorem wipeE_nil : wipeE env [] = env := rfl
@[simp] theorem wipeE_cons (v : Nat) (vs : List Nat) : wipeE env (v :: vs) = (wipeE env vs).set v none := rfl
@[simp] theorem forL_nil_always (g) (b : MS) : forL always g b [] env s = .nx env s := by unfold forL; simp [always]
theorem forL_cons_always (g) (b : MS) (x : D) (xs : List D) : forL always g b (x :: xs) env s = match g x env with
    | none => .no
    | some env1 => match b env1 s with
      | .nx env2 s2 => forL always g b xs env2 s2
      | .ct env2 s2 => forL always g b xs env2 s2
      | .bk env2 s2 => .nx env2 s2
      | .rt d s2 => .rt d s2
      | .ex e env2 s2 => .ex e env2 s2
      | .no => .no := by
  conv => lhs; unfold forL
  exact (if_pos trivial).trans rfl
theorem forL_nil (gd : Store → Prop) (h : gd s) (g) (b : MS) : forL gd g b [] env s = .nx env s := by unfold forL; simp [h]
theorem forL_cons (gd : Store → Prop) (h : gd s) (g) (b : MS) (x : D) (xs : List D) : forL gd g b (x :: xs) env s = match g x env with
    | none => .no
    | some env1 => match b env1 s with
      | .nx env2 s2 => forL gd g b xs env2 s2
      | .ct env2 s2 => forL gd g b xs env2 s2
      | .bk env2 s2 => .nx env2 s2
      | .rt d s2 => .rt d s2
      | .ex e env2 s2 => .ex e env2 s2
      | .no => .no := by
  conv => lhs; unfold forL
  exact (if_pos h).trans rfl
theorem lcL_nil (gd : Store → Prop) (h : gd s) (g t e) (acc : List D) : lcL gd g t e env [] acc s = .ok acc s := by unfold lcL; simp [h]
theorem lcL_cons (gd : Store → Prop) (h : gd s) (g t e) (acc : List D) (x : D) (xs : List D) : lcL gd g t e env (x :: xs) acc s = match g x env with
    | none => .no
    | some env1 => match t env1 s with
      | .ok b s1 => if b then (match e env1 s1 with
        | .ok y s2 => if acc.length < sizeLine then lcL gd g t e env xs (acc ++ [y]) s2 else .no
        | _ => .no) else lcL gd g t e env xs acc s1
      | _ => .no := by
  conv => lhs; unfold lcL
  exact (if_pos h).trans rfl
end
@[simp] theorem dI_eq (f : Int → Int → Option D) (i j : Int) (s : Store) : dI f (.int i) (.int j) s = (f i j).map fun d => (d, s) := rfl
@[simp] theorem dAdd_int (i j : Int) (s : Store) : dAdd (.int i) (.int j) s = some (.int (i + j), s) := rfl
theorem dAdd_loc {s : Store} {l k : Nat} {xs ys : List D} (h : s[l]? = some (.lst xs)) (h2 : s[k]? = some (.lst ys)) (hz : xs.length + ys.length ≤ 1000000) : dAdd (.loc l) (.loc k) s = some (.loc s.length, s ++ [.lst (xs ++ ys)]) := by
  have q := le_line hz
  simp only [dAdd, h, h2, q, if_true]
theorem dAdd_tup {s : Store} {xs ys : List D} (hz : xs.length + ys.length ≤ 1000000) : dAdd (.tup xs) (.tup ys) s = some (.tup (xs ++ ys), s) := by
  have q := le_line hz
  simp only [dAdd, q, if_true]
@[simp] theorem dSub_int (i j : Int) (s : Store) : dSub (.int i) (.int j) s = some (.int (i - j), s) := rfl
theorem dMul_int (i j : Int) (s : Store) (h : CMul i j) : dMul (.int i) (.int j) s = some (.int (i * j), s) := by simp [dMul, h]
/-- one factor is small -/
@[simp] theorem dMul_r (i j : Int) (s : Store) (h : -(2 ^ 64) < j ∧ j < 2 ^ 64) : dMul (.int i) (.int j) s = some (.int (i * j), s) := dMul_int i j s (.inr h)
theorem dMul_l (i j : Int) (s : Store) (h : -(2 ^ 64) < i ∧ i < 2 ^ 64) : dMul (.int i) (.int j) s = some (.int (i * j), s) := dMul_int i j s (.inl h)
@[simp] theorem dDiv_int (i j : Int) (s : Store) (h : 0 < j ∧ j < 1073741824) : dDiv (.int i) (.int j) s = some (.int (i / j), s) := by
  have q : CDiv i j := h
  simp [dDiv, q]
@[simp] theorem dMod_int (i j : Int) (s : Store) (h : 0 < j) : dMod (.int i) (.int j) s = some (.int (i % j), s) := by simp [dMod, h]
@[simp] theorem dPow_int (i j : Int) (s : Store) (h : 0 ≤ j ∧ j ≤ 1000000 ∧ i.natAbs < 2 ^ 64) : dPow (.int i) (.int j) s = some (.int (i ^ j.toNat), s) := by
  have q : CPow i j := h
  simp [dPow, q]
@[simp] theorem dNeg_int (i : Int) (s : Store) : dNeg (.int i) s = some (.int (-i), s) := rfl
@[simp] theorem dLt_int (i j : Int) (s : Store) : dLt (.int i) (.int j) s = some (.bl (decide (i < j)), s) := rfl
@[simp] theorem dLe_int (i j : Int) (s : Store) : dLe (.int i) (.int j) s = some (.bl (decide (i ≤ j)), s) := rfl
@[simp] theorem dGt_int (i j : Int) (s : Store) : dGt (.int i) (.int j) s = some (.bl (decide (j < i)), s) := rfl
@[simp] theorem dGe_int (i j : Int) (s : Store) : dGe (.int i) (.int j) s = some (.bl (decide (j ≤ i)), s) := rfl
@[simp] theorem dEq_int (i j : Int) (s : Store) : dEq (.int i) (.int j) s = some (.bl (decide (i = j)), s) := rfl
@[simp] theorem dNe_int (i j : Int) (s : Store) : dNe (.int i) (.int j) s = some (.bl (!decide (i = j)), s) := rfl
@[simp] theorem dEq_bl (i j : Bool) (s : Store) : dEq (.bl i) (.bl j) s = some (.bl (decide (i = j)), s) := rfl
@[simp] theorem dNe_bl (i j : Bool) (s : Store) : dNe (.bl i) (.bl j) s = some (.bl (!decide (i = j)), s) := rfl
@[simp] theorem dEq_str (i j : Str) (s : Store) : dEq (.str i) (.str j) s = some (.bl (decide (i = j)), s) := rfl
@[simp] theorem dNe_str (i j : Str) (s : Store) : dNe (.str i) (.str j) s = some (.bl (!decide (i = j)), s) := rfl
@[simp] theorem dIs_non_non (s : Store) : dIs .non .non s = some (.bl true, s) := rfl
@[simp] theorem dIs_int_non (i : Int) (s : Store) : dIs (.int i) .non s = some (.bl false, s) := rfl
@[simp] theorem dIs_bl_bl (i j : Bool) (s : Store) : dIs (.bl i) (.bl j) s = some (.bl (decide (i = j)), s) := rfl
@[simp] theorem dIs_str_non (i : Str) (s : Store) : dIs (.str i) .non s = some (.bl false, s) := rfl
@[simp] theorem dIs_tup_non (i : List D) (s : Store) : dIs (.tup i) .non s = some (.bl false, s) := rfl
@[simp] theorem dIsNot_non_non (s : Store) : dIsNot .non .non s = some (.bl false, s) := rfl
@[simp] theorem dIsNot_int_non (i : Int) (s : Store) : dIsNot (.int i) .non s = some (.bl true, s) := rfl
@[simp] theorem dIsNot_bl_bl (i j : Bool) (s : Store) : dIsNot (.bl i) (.bl j) s = some (.bl (!decide (i = j)), s) := rfl
@[simp] theorem dIsNot_str_non (i : Str) (s : Store) : dIsNot (.str i) .non s = some (.bl true, s) := rfl
@[simp] theorem dIsNot_tup_non (i : List D) (s : Store) : dIsNot (.tup i) .non s = some (.bl true, s) := rfl
@[simp] theorem dInt_int (i : Int) (s : Store) : dInt [.int i] s = some (.int i, s) := rfl
@[simp] theorem dInt_bl (i : Bool) (s : Store) : dInt [.bl i] s = some (.int (if i then 1 else 0), s) := rfl
theorem dMax2_int (i j : Int) (s : Store) : dMax2 [.int i, .int j] s = some (.int (if j > i then j else i), s) := rfl
theorem dMin2_int (i j : Int) (s : Store) : dMin2 [.int i, .int j] s = some (.int (if j < i then j else i), s) := rfl
theorem max_if (i j : Int) : (if j > i then j else i) = max i j := by
  rw [Int.max_def]; split <;> split <;> omega
theorem min_if (i j : Int) : (if j < i then j else i) = min i j := by
  rw [Int.min_def]; split <;> split <;> omega
@[simp] theorem dMax2_max (i j : Int) (s : Store) : dMax2 [.int i, .int j] s = some (.int (max i j), s) := by rw [dMax2_int, max_if]
@[simp] theorem dMin2_min (i j : Int) (s : Store) : dMin2 [.int i, .int j] s = some (.int (min i j), s) := by rw [dMin2_int, min_if]
@[simp] theorem lstOf_fl (s : Store) (xs : List D) : lstOf s (.fl xs) = some xs := rfl
theorem lstOf_loc {s : Store} {l : Nat} {xs : List D} (h : s[l]? = some (.lst xs)) : lstOf s (.loc l) = some xs := by simp [lstOf, h]
@[simp] theorem seqOf_tup (s : Store) (xs : List D) : seqOf s (.tup xs) = some xs := rfl
@[simp] theorem seqOf_fl (s : Store) (xs : List D) : seqOf s (.fl xs) = some xs := rfl
theorem seqOf_loc {s : Store} {l : Nat} {xs : List D} (h : s[l]? = some (.lst xs)) : seqOf s (.loc l) = some xs := by simp [seqOf, lstOf, h]
@[simp] theorem dLen_tup (s : Store) (xs : List D) : dLen [.tup xs] s = some (.int xs.length, s) := rfl
@[simp] theorem dLen_fl (s : Store) (xs : List D) : dLen [.fl xs] s = some (.int xs.length, s) := rfl
theorem dLen_loc {s : Store} {l : Nat} {xs : List D} (h : s[l]? = some (.lst xs)) : dLen [.loc l] s = some (.int xs.length, s) := by simp [dLen, seqOf, lstOf, h]
@[simp] theorem dTuple_tup (s : Store) (xs : List D) : dTuple [.tup xs] s = some (.tup xs, s) := rfl
theorem dTuple_loc {s : Store} {l : Nat} {xs : List D} (h : s[l]? = some (.lst xs)) : dTuple [.loc l] s = some (.tup xs, s) := by simp [dTuple, seqOf, lstOf, h]
theorem dSum_loc {s : Store} {l : Nat} {ns : List Int} (h : s[l]? = some (.lst (ns.map D.int))) : dSum [.loc l] s = some (.int ns.sum, s) := by simp [dSum, lstOf, h, intsOf_map]
theorem dIx_tup (s : Store) (xs : List D) (i : Int) : dIx (.tup xs) (.int i) s = (atI xs i).map fun d => (d, s) := rfl
theorem dIx_loc {s : Store} {l : Nat} {xs : List D} (h : s[l]? = some (.lst xs)) (i : Int) : dIx (.loc l) (.int i) s = (atI xs i).map fun d => (d, s) := by simp [dIx, seqOf, lstOf, h]
theorem atI_ofNat (xs : List D) (j : Nat) (d : D) (h : xs[j]? = some d) : atI xs (j : Int) = some d := atI_nat h
@[simp] theorem atI_zero (x : D) (xs : List D) : atI (x :: xs) 0 = some x := atI_nat (j := 0) rfl
@[simp] theorem atI_one (x y : D) (xs : List D) : atI (x :: y :: xs) 1 = some y := atI_nat (j := 1) rfl
@[simp] theorem atI_two (x y z : D) (xs : List D) : atI (x :: y :: z :: xs) 2 = some z := atI_nat (j := 2) rfl
@[simp] theorem atI_three (x y z w : D) (xs : List D) : atI (x :: y :: z :: w :: xs) 3 = some w := atI_nat (j := 3) rfl
theorem dAppend_loc {s : Store} {l : Nat} {xs : List D} (h : s[l]? = some (.lst xs)) (hz : xs.length ≤ 1000000) (y : D) : dAppend (.loc l) [y] s = some (.non, s.set l (.lst (xs ++ [y]))) := by
  have q := lt_line hz
  simp only [dAppend, h, q, if_true]
theorem dPop_loc {s : Store} {l : Nat} {xs : List D} {y : D} (h : s[l]? = some (.lst (xs ++ [y]))) : dPop (.loc l) [] s = some (y, s.set l (.lst xs)) := by simp [dPop, h]
theorem tyOk_list {s : Store} {l : Nat} {xs : List D} (h : s[l]? = some (.lst xs)) : tyOk "list" s (.loc l) = true := by simp [tyOk, h]
theorem pList_loc {s : Store} {l : Nat} {xs : List D} (h : s[l]? = some (.lst xs)) (j : Nat) (hj : j < xs.length) (z : D) : pList (.loc l) (.int j) z s = some (s.set l (.lst (xs.set j z))) := by
  have e : ixN xs.length (j : Int) = some j := by
    unfold ixN
    rw [if_pos (by omega), if_pos (by omega)]
    simp
  simp [pList, h, e]
theorem pList_zero {s : Store} {l : Nat} {x : D} {xs : List D} (h : s[l]? = some (.lst (x :: xs))) (z : D) : pList (.loc l) (.int 0) z s = some (s.set l (.lst (z :: xs))) :=
  pList_loc h 0 (by simp) z
@[simp] theorem fnM_eq (N n : Nat) (b : MS) (ds : List D) (s : Store) : fnM N n b ds s = match b (ds.map some ++ List.replicate (N - n) none) s with
  | .rt d s => .ok d s
  | .nx _ s => .ok .non s
  | .ex e _ s => .ex e s
  | _ => .no := rfl
/-! ### stores: what stays -/
/-- all places of s but p are as they were -/
def Kp (p : Nat) (s s' : Store) : Prop := s.length ≤ s'.length ∧ ∀ l, l < s.length → l ≠ p → s'[l]? = s[l]?
theorem Kp.refl (p : Nat) (s : Store) : Kp p s s := ⟨Nat.le_refl _, fun _ _ _ => rfl⟩
theorem Kp.trans {p : Nat} {s s1 s2 : Store} (a : Kp p s s1) (b : Kp p s1 s2) : Kp p s s2 :=
  ⟨Nat.le_trans a.1 b.1, fun l h n => (b.2 l (Nat.lt_of_lt_of_le h a.1) n).trans (a.2 l h n)⟩
theorem Kp.set (p : Nat) (s : Store) (c : Cell) : Kp p s (s.set p c) := ⟨by simp, fun l _ n => List.getElem?_set_ne (Ne.symm n)⟩
theorem Kp.app (p : Nat) (s r : Store) : Kp p s (s ++ r) := ⟨by simp, fun l h _ => List.getElem?_append_left h⟩
theorem Kp.get {p : Nat} {s s' : Store} (a : Kp p s s') {l : Nat} {c : Cell} (h : s[l]? = some c) (n : l ≠ p) : s'[l]? = some c := by
  rw [a.2 l (by
    rcases Nat.lt_or_ge l s.length with q | q
    · exact q
    · rw [List.getElem?_eq_none q] at h; cases h) n]
  exact h
theorem lt_of_get {s : Store} {l : Nat} {c : Cell} (h : s[l]? = some c) : l < s.length := by
  rcases Nat.lt_or_ge l s.length with q | q
  · exact q
  · rw [List.getElem?_eq_none q] at h; cases h
theorem get_new (s : Store) (c : Cell) : (s ++ [c])[s.length]? = some c := by simp
theorem get_set {s : Store} {l : Nat} {c c' : Cell} (h : s[l]? = some c) : (s.set l c')[l]? = some c' := List.getElem?_set_self (lt_of_get h)
/-! #### isinstance -/
@[simp] theorem kit_NoneType_int : kitB "NoneType" "int" = some false := by decide +kernel
@[simp] theorem kit_NoneType_bool : kitB "NoneType" "bool" = some false := by decide +kernel
@[simp] theorem kit_NoneType_str : kitB "NoneType" "str" = some false := by decide +kernel
@[simp] theorem kit_NoneType_tuple : kitB "NoneType" "tuple" = some false := by decide +kernel
@[simp] theorem kit_NoneType_list : kitB "NoneType" "list" = some false := by decide +kernel
@[simp] theorem kit_NoneType_dict : kitB "NoneType" "dict" = some false := by decide +kernel
@[simp] theorem kit_bool_int : kitB "bool" "int" = some true := by decide +kernel
@[simp] theorem kit_bool_bool : kitB "bool" "bool" = some true := by decide +kernel
@[simp] theorem kit_bool_str : kitB "bool" "str" = some false := by decide +kernel
@[simp] theorem kit_bool_tuple : kitB "bool" "tuple" = some false := by decide +kernel
@[simp] theorem kit_bool_list : kitB "bool" "list" = some false := by decide +kernel
@[simp] theorem kit_bool_dict : kitB "bool" "dict" = some false := by decide +kernel
@[simp] theorem kit_int_int : kitB "int" "int" = some true := by decide +kernel
@[simp] theorem kit_int_bool : kitB "int" "bool" = some false := by decide +kernel
@[simp] theorem kit_int_str : kitB "int" "str" = some false := by decide +kernel
@[simp] theorem kit_int_tuple : kitB "int" "tuple" = some false := by decide +kernel
@[simp] theorem kit_int_list : kitB "int" "list" = some false := by decide +kernel
@[simp] theorem kit_int_dict : kitB "int" "dict" = some false := by decide +kernel
@[simp] theorem kit_str_int : kitB "str" "int" = some false := by decide +kernel
@[simp] theorem kit_str_bool : kitB "str" "bool" = some false := by decide +kernel
@[simp] theorem kit_str_str : kitB "str" "str" = some true := by decide +kernel
@[simp] theorem kit_str_tuple : kitB "str" "tuple" = some false := by decide +kernel
@[simp] theorem kit_str_list : kitB "str" "list" = some false := by decide +kernel
@[simp] theorem kit_str_dict : kitB "str" "dict" = some false := by decide +kernel
@[simp] theorem kit_tuple_int : kitB "tuple" "int" = some false := by decide +kernel
@[simp] theorem kit_tuple_bool : kitB "tuple" "bool" = some false := by decide +kernel
@[simp] theorem kit_tuple_str : kitB "tuple" "str" = some false := by decide +kernel
@[simp] theorem kit_tuple_tuple : kitB "tuple" "tuple" = some true := by decide +kernel
@[simp] theorem kit_tuple_list : kitB "tuple" "list" = some false := by decide +kernel
@[simp] theorem kit_tuple_dict : kitB "tuple" "dict" = some false := by decide +kernel
@[simp] theorem kit_list_int : kitB "list" "int" = some false := by decide +kernel
@[simp] theorem kit_list_bool : kitB "list" "bool" = some false := by decide +kernel
@[simp] theorem kit_list_str : kitB "list" "str" = some false := by decide +kernel
@[simp] theorem kit_list_tuple : kitB "list" "tuple" = some false := by decide +kernel
@[simp] theorem kit_list_list : kitB "list" "list" = some true := by decide +kernel
@[simp] theorem kit_list_dict : kitB "list" "dict" = some false := by decide +kernel
@[simp] theorem kit_dict_int : kitB "dict" "int" = some false := by decide +kernel
@[simp] theorem kit_dict_bool : kitB "dict" "bool" = some false := by decide +kernel
@[simp] theorem kit_dict_str : kitB "dict" "str" = some false := by decide +kernel
@[simp] theorem kit_dict_tuple : kitB "dict" "tuple" = some false := by decide +kernel
@[simp] theorem kit_dict_list : kitB "dict" "list" = some false := by decide +kernel
@[simp] theorem kit_dict_dict : kitB "dict" "dict" = some true := by decide +kernel
@[simp] theorem dIsi_eq (T : String) (x : D) (s : Store) : dIsi T x s = (tyN s x).bind fun t => (kitB t T).map fun b => (.bl b, s) := rfl
@[simp] theorem tyN_non (s : Store) : tyN s .non = some "NoneType" := rfl
@[simp] theorem tyN_bl (s : Store) (b : Bool) : tyN s (.bl b) = some "bool" := rfl
@[simp] theorem tyN_int (s : Store) (b : Int) : tyN s (.int b) = some "int" := rfl
@[simp] theorem tyN_str (s : Store) (b : Str) : tyN s (.str b) = some "str" := rfl
@[simp] theorem tyN_tup (s : Store) (b : List D) : tyN s (.tup b) = some "tuple" := rfl
theorem tyN_lst {s : Store} {l : Nat} {xs : List D} (h : s[l]? = some (.lst xs)) : tyN s (.loc l) = some "list" := by simp [tyN, h]
/-! ### loops by what holds between the turns -/
/-- a call's end -/
def Rets {α : Type} (P : α → Store → Prop) : R α → Prop
  | .ok d s => P d s
  | _ => False
@[simp] theorem Rets_ok {α : Type} (P : α → Store → Prop) (d : α) (s : Store) : Rets P (.ok d s) = P d s := rfl
@[simp] theorem Rets_no {α : Type} (P : α → Store → Prop) : Rets P .no = False := rfl
@[simp] theorem Rets_ex {α : Type} (P : α → Store → Prop) (e : Ex) (s : Store) : Rets P (.ex e s) = False := rfl
theorem Rets.out {α : Type} {P : α → Store → Prop} {r : R α} (h : Rets P r) : ∃ d s, r = .ok d s ∧ P d s := by
  cases r with
  | ok d s => exact ⟨d, s, rfl, h⟩
  | ex e s => exact h.elim
  | no => exact h.elim
/-- what a turn's end asks: I of the next turn, Q of leaving -/
def Turns (I : Sl → Store → Prop) (Q : RS → Prop) : RS → Prop
  | .nx env s => I env s
  | .ct env s => I env s
  | .bk env s => Q (.nx env s)
  | .rt d s => Q (.rt d s)
  | .ex e env s => Q (.ex e env s)
  | .no => False
section
variable (I : Sl → Store → Prop) (Q : RS → Prop) (env : Sl) (s : Store)
@[simp] theorem Turns_nx : Turns I Q (.nx env s) = I env s := rfl
@[simp] theorem Turns_ct : Turns I Q (.ct env s) = I env s := rfl
@[simp] theorem Turns_bk : Turns I Q (.bk env s) = Q (.nx env s) := rfl
@[simp] theorem Turns_rt (d : D) : Turns I Q (.rt d s) = Q (.rt d s) := rfl
@[simp] theorem Turns_ex (e : Ex) : Turns I Q (.ex e env s) = Q (.ex e env s) := rfl
@[simp] theorem Turns_no : Turns I Q .no = False := rfl
end
/-- store the item, run the body -/
def turn (g : D → Sl → Option Sl) (b : MS) (x : D) : MS := fun env s => match g x env with
  | none => .no
  | some env1 => b env1 s
@[simp] theorem turn_gN (i : Nat) (b : MS) (x : D) (env : Sl) (s : Store) : turn (gN i) b x env s = b (env.set i (some x)) s := rfl
@[simp] theorem turn_gT (n : Nat) (r) (b : MS) (xs : List D) (env : Sl) (s : Store) : turn (gT n r) b (.tup xs) env s = match (if xs.length = n then r xs env else none) with
  | none => .no
  | some env1 => b env1 s := rfl
theorem forL_rule {gd : Store → Prop} {g : D → Sl → Option Sl} {b : MS} (I : List D → Sl → Store → Prop) (Q : RS → Prop) (hg : ∀ xs env s, I xs env s → gd s)
    (hs : ∀ x xs env s, I (x :: xs) env s → Turns (I xs) Q (turn g b x env s)) (he : ∀ env s, I [] env s → Q (.nx env s)) : ∀ {xs : List D} {env : Sl} {s : Store}, I xs env s → Q (forL gd g b xs env s) := by
  intro xs
  induction xs with
  | nil => intro env s h; rw [forL_nil env s gd (hg _ _ _ h)]; exact he env s h
  | cons x xs ih =>
    intro env s h
    rw [forL_cons env s gd (hg _ _ _ h)]
    have h1 := hs x xs env s h
    unfold turn at h1
    cases e1 : g x env with
    | none => rw [e1] at h1; exact h1.elim
    | some env1 =>
      rw [e1] at h1
      dsimp only at h1 ⊢
      cases q : b env1 s with
      | nx env2 s2 => rw [q] at h1; exact ih h1
      | ct env2 s2 => rw [q] at h1; exact ih h1
      | bk env2 s2 => rw [q] at h1; exact h1
      | rt d s2 => rw [q] at h1; exact h1
      | ex e env2 s2 => rw [q] at h1; exact h1
      | no => rw [q] at h1; exact h1.elim
/-- a loop that runs through -/
theorem forL_thru {gd : Store → Prop} {g : D → Sl → Option Sl} {b : MS} (I : List D → Sl → Store → Prop) (hg : ∀ xs env s, I xs env s → gd s)
    (hs : ∀ x xs env s, I (x :: xs) env s → Turns (I xs) (fun _ => False) (turn g b x env s)) {xs : List D} {env : Sl} {s : Store} (h : I xs env s) : ∃ env' s', forL gd g b xs env s = .nx env' s' ∧ I [] env' s' :=
  forL_rule I (fun r => ∃ env' s', r = .nx env' s' ∧ I [] env' s') hg (fun x xs env s h => by
    have z := hs x xs env s h
    cases q : turn g b x env s with
    | nx env2 s2 => rw [q] at z; exact z
    | ct env2 s2 => rw [q] at z; exact z
    | bk env2 s2 => rw [q] at z; exact z.elim
    | rt d s2 => rw [q] at z; exact z.elim
    | ex e env2 s2 => rw [q] at z; exact z.elim
    | no => rw [q] at z; exact z.elim) (fun env s h => ⟨env, s, rfl, h⟩) h
/-! a loop over range(n) -/
theorem rng_drop {n i : Nat} (h : i < n) : (rng n).drop i = .int ((0 : Int) + (i : Nat)) :: (rng n).drop (i + 1) := by
  have hl : i < (rng n).length := by simpa [rng] using h
  rw [List.drop_eq_getElem_cons hl]
  simp [rng]
theorem rng_lt {n i : Nat} {x : D} {xs : List D} (e : x :: xs = (rng n).drop i) : i < n ∧ x = .int (i : Nat) ∧ xs = (rng n).drop (i + 1) := by
  have hlt : i < n := by
    rcases Nat.lt_or_ge i n with w | w
    · exact w
    · rw [List.drop_eq_nil_of_le (by simpa [rng] using w)] at e; cases e
  rw [rng_drop hlt] at e
  obtain ⟨rfl, rfl⟩ := List.cons.inj e
  exact ⟨hlt, by rw [Int.zero_add], rfl⟩
theorem rng_end {n i : Nat} (hi : i ≤ n) (e : [] = (rng n).drop i) : i = n := by
  rcases Nat.lt_or_ge i n with w | w
  · rw [rng_drop w] at e; cases e
  · omega
theorem forL_range {gd : Store → Prop} {g : D → Sl → Option Sl} {b : MS} (n : Nat) (I : Nat → Sl → Store → Prop) (Q : RS → Prop) (hg : ∀ i env s, i ≤ n → I i env s → gd s)
    (hs : ∀ i env s, i < n → I i env s → Turns (I (i + 1)) Q (turn g b (.int (i : Nat)) env s)) (he : ∀ env s, I n env s → Q (.nx env s)) {env : Sl} {s : Store} (h : I 0 env s) : Q (forL gd g b (rng n) env s) := by
  refine forL_rule (fun xs env s => ∃ i, i ≤ n ∧ xs = (rng n).drop i ∧ I i env s) Q (fun xs env s ⟨i, hi, _, q⟩ => hg i env s hi q) (fun x xs env s ⟨i, hi, e, q⟩ => ?_) (fun env s ⟨i, hi, e, q⟩ => ?_) ⟨0, Nat.zero_le _, rfl, h⟩
  · obtain ⟨hlt, rfl, rfl⟩ := rng_lt e
    have t1 := hs i env s hlt q
    cases hb : turn g b (.int (i : Nat)) env s with
    | nx env2 s2 => rw [hb] at t1; exact ⟨i + 1, hlt, rfl, t1⟩
    | ct env2 s2 => rw [hb] at t1; exact ⟨i + 1, hlt, rfl, t1⟩
    | bk env2 s2 => rw [hb] at t1; exact t1
    | rt d s2 => rw [hb] at t1; exact t1
    | ex x env2 s2 => rw [hb] at t1; exact t1
    | no => rw [hb] at t1; exact t1
  · have hlt := rng_end hi e
    subst hlt
    exact he env s q
theorem forL_rangeT {gd : Store → Prop} {g : D → Sl → Option Sl} {b : MS} (n : Nat) (I : Nat → Sl → Store → Prop) (hg : ∀ i env s, i ≤ n → I i env s → gd s)
    (hs : ∀ i env s, i < n → I i env s → Turns (I (i + 1)) (fun _ => False) (turn g b (.int (i : Nat)) env s)) {env : Sl} {s : Store} (h : I 0 env s) : ∃ env' s', forL gd g b (rng n) env s = .nx env' s' ∧ I n env' s' :=
  forL_range n I (fun r => ∃ env' s', r = .nx env' s' ∧ I n env' s') hg (fun i env s hi h => by
    have z := hs i env s hi h
    cases q : turn g b (.int (i : Nat)) env s with
    | nx env2 s2 => rw [q] at z; exact z
    | ct env2 s2 => rw [q] at z; exact z
    | bk env2 s2 => rw [q] at z; exact z.elim
    | rt d s2 => rw [q] at z; exact z.elim
    | ex e env2 s2 => rw [q] at z; exact z.elim
    | no => rw [q] at z; exact z.elim) (fun env s h => ⟨env, s, rfl, h⟩) h
/-! comprehensions -/
/-- one item: kept with its value, or not -/
def pick (g : D → Sl → Option Sl) (t : ME Bool) (e : ME D) (x : D) (env : Sl) (s : Store) : R (Option D) := match g x env with
  | none => .no
  | some env1 => (t env1 s).bind fun b s => if b then (e env1 s).bind fun y s => .ok (some y) s else .ok none s
@[simp] theorem pick_gN (i : Nat) (t : ME Bool) (e : ME D) (x : D) (env : Sl) (s : Store) : pick (gN i) t e x env s = (t (env.set i (some x)) s).bind fun b s => if b then (e (env.set i (some x)) s).bind fun y s => .ok (some y) s else .ok none s := rfl
@[simp] theorem pick_gT (n : Nat) (r) (t : ME Bool) (e : ME D) (xs : List D) (env : Sl) (s : Store) : pick (gT n r) t e (.tup xs) env s = match (if xs.length = n then r xs env else none) with
  | none => .no
  | some env1 => (t env1 s).bind fun b s => if b then (e env1 s).bind fun y s => .ok (some y) s else .ok none s := rfl
/-- what an item's end asks of the list so far -/
def Kept (I : List D → Store → Prop) (acc : List D) : R (Option D) → Prop
  | .ok (some y) s => acc.length ≤ 1000000 ∧ I (acc ++ [y]) s
  | .ok none s => I acc s
  | _ => False
@[simp] theorem Kept_some (I : List D → Store → Prop) (acc : List D) (y : D) (s : Store) : Kept I acc (.ok (some y) s) = (acc.length ≤ 1000000 ∧ I (acc ++ [y]) s) := rfl
@[simp] theorem Kept_none (I : List D → Store → Prop) (acc : List D) (s : Store) : Kept I acc (.ok none s) = I acc s := rfl
@[simp] theorem Kept_no (I : List D → Store → Prop) (acc : List D) : Kept I acc .no = False := rfl
theorem lcL_thru {gd : Store → Prop} {g : D → Sl → Option Sl} {t : ME Bool} {e : ME D} {env : Sl} (I : List D → List D → Store → Prop) (hg : ∀ xs acc s, I xs acc s → gd s)
    (hs : ∀ x xs acc s, I (x :: xs) acc s → Kept (I xs) acc (pick g t e x env s)) :
    ∀ {xs acc : List D} {s : Store}, I xs acc s → ∃ acc' s', lcL gd g t e env xs acc s = .ok acc' s' ∧ I [] acc' s' := by
  intro xs
  induction xs with
  | nil => intro acc s h; exact ⟨acc, s, lcL_nil env s gd (hg _ _ _ h) g t e acc, h⟩
  | cons x xs ih =>
    intro acc s h
    rw [lcL_cons env s gd (hg _ _ _ h)]
    have h1 := hs x xs acc s h
    unfold pick at h1
    cases e1 : g x env with
    | none => rw [e1] at h1; exact h1.elim
    | some env1 =>
      rw [e1] at h1
      dsimp only at h1 ⊢
      cases e2 : t env1 s with
      | no => rw [e2] at h1; exact h1.elim
      | ex x s => rw [e2] at h1; exact h1.elim
      | ok k s1 =>
        rw [e2] at h1
        simp only [R.bind_ok] at h1
        cases k with
        | false => simpa using ih (by simpa using h1)
        | true =>
          simp only [if_true] at h1 ⊢
          cases e3 : e env1 s1 with
          | no => rw [e3] at h1; exact h1.elim
          | ex x s => rw [e3] at h1; exact h1.elim
          | ok y s2 =>
            rw [e3] at h1
            obtain ⟨hz, h3⟩ := (show acc.length ≤ 1000000 ∧ I xs (acc ++ [y]) s2 from h1)
            have z := lt_line hz
            simp only [z, if_true]
            exact ih h3
/-- a comprehension that leaves the store as it is -/
theorem lcL_fm {β : Type} {gd : Store → Prop} {g : D → Sl → Option Sl} {t : ME Bool} {e : ME D} {env : Sl} {s : Store} (hg : gd s) (h : β → D) (f : β → Option D) :
    ∀ (xs : List β) (acc : List D), (∀ x ∈ xs, pick g t e (h x) env s = .ok (f x) s) → acc.length + xs.length ≤ 1000000 → lcL gd g t e env (xs.map h) acc s = .ok (acc ++ xs.filterMap f) s := by
  intro xs
  induction xs with
  | nil => intro acc _ _; rw [List.map_nil, lcL_nil env s gd hg]; simp
  | cons x xs ih =>
    intro acc hp hz
    rw [List.length_cons] at hz
    rw [List.map_cons, lcL_cons env s gd hg]
    have h1 := hp x (by simp)
    unfold pick at h1
    cases e1 : g (h x) env with
    | none => rw [e1] at h1; cases h1
    | some env1 =>
      rw [e1] at h1
      dsimp only at h1 ⊢
      cases e2 : t env1 s with
      | no => rw [e2] at h1; cases h1
      | ex x s => rw [e2] at h1; cases h1
      | ok k s1 =>
        rw [e2] at h1
        simp only [R.bind_ok] at h1
        cases k with
        | false =>
          simp at h1
          obtain ⟨h2, rfl⟩ := h1
          simp only [Bool.false_eq_true, if_false]
          rw [ih acc (fun y hy => hp y (by simp [hy])) (by omega), List.filterMap_cons, ← h2]
        | true =>
          simp only [if_true] at h1 ⊢
          cases e3 : e env1 s1 with
          | no => rw [e3] at h1; cases h1
          | ex x s => rw [e3] at h1; cases h1
          | ok y s2 =>
            rw [e3] at h1
            simp at h1
            obtain ⟨h2, rfl⟩ := h1
            have z : acc.length < sizeLine := lt_line (by omega)
            simp only [z, if_true]
            rw [ih (acc ++ [y]) (fun y hy => hp y (by simp [hy])) (by simp; omega), List.filterMap_cons, ← h2]
            simp
theorem lcL_map {β : Type} {gd : Store → Prop} {g : D → Sl → Option Sl} {t : ME Bool} {e : ME D} {env : Sl} {s : Store} (hg : gd s) (h : β → D) (f : β → D) (xs : List β)
    (hp : ∀ x ∈ xs, pick g t e (h x) env s = .ok (some (f x)) s) (hz : xs.length ≤ 1000000) : lcL gd g t e env (xs.map h) [] s = .ok (xs.map f) s := by
  have w := lcL_fm hg h (fun x => some (f x)) xs [] hp (by simpa using hz)
  rw [w]
  simp
theorem lcL_range {gd : Store → Prop} {g : D → Sl → Option Sl} {t : ME Bool} {e : ME D} {env : Sl} (n : Nat) (I : Nat → List D → Store → Prop) (hg : ∀ i acc s, i ≤ n → I i acc s → gd s)
    (hs : ∀ i acc s, i < n → I i acc s → Kept (I (i + 1)) acc (pick g t e (.int (i : Nat)) env s)) {acc : List D} {s : Store}
    (h : I 0 acc s) : ∃ acc' s', lcL gd g t e env (rng n) acc s = .ok acc' s' ∧ I n acc' s' := by
  obtain ⟨acc', s', h1, i, hi, e, h2⟩ := lcL_thru (gd := gd) (g := g) (t := t) (e := e) (env := env) (fun xs acc s => ∃ i, i ≤ n ∧ xs = (rng n).drop i ∧ I i acc s) (fun xs acc s ⟨i, hi, _, q⟩ => hg i acc s hi q) (fun x xs acc s ⟨i, hi, e, q⟩ => by
    obtain ⟨hlt, rfl, rfl⟩ := rng_lt e
    have z := hs i acc s hlt q
    cases hp : pick g t _ (.int (i : Nat)) env s with
    | no => rw [hp] at z; exact z
    | ex x s => rw [hp] at z; exact z
    | ok o s2 =>
      rw [hp] at z
      cases o with
      | none => exact ⟨i + 1, hlt, rfl, z⟩
      | some y => exact ⟨z.1, i + 1, hlt, rfl, z.2⟩) (xs := rng n) ⟨0, Nat.zero_le _, rfl, h⟩
  have hlt := rng_end hi e
  subst hlt
  exact ⟨acc', s', h1, h2⟩
/-- all ints -/
def Ints (xs : List D) : Prop := ∃ ns : List Int, xs = ns.map D.int
theorem cut_ints {xs : List D} (h : Ints xs) (lo hi : Option Int) : Ints (Mi.cutD xs lo hi) := by
  obtain ⟨ns, rfl⟩ := h
  unfold Mi.cutD
  exact ⟨_, by rw [← List.map_drop, ← List.map_take]⟩
theorem cut_len (xs : List D) (lo hi : Option Int) : (Mi.cutD xs lo hi).length ≤ xs.length := by
  unfold Mi.cutD
  simp
  omega
end Mi
namespace Mi
open PySem PySem.W PySem.Spec PySem.Calls PyProof.Rows L2
section
variable {prog : Program} {w : World} {A : Around} {E : Value → Shared → Prop} {s : Shared}
/-- the items of a tuple, collected -/
theorem tup_coll {t : Addr} {us : List Value} {R : List Value → Shared → Prop} (ht : IsTup s.heap t us.toArray) (hz : us.length ≤ sizeLine)
    (q : R us { s with heap := (s.heap.push (seqObj "list" #[] 0)).update s.heap.objs.size (Obj.mapSeq (· ++ us.toArray)) }) : wpAny (model prog w) A (collect (.ref t)) R E s := by
  obtain ⟨o, ho, hc, n, hd⟩ := ht
  have ho1 : (s.heap.push (seqObj "list" #[] 0)).get? t = some o := Heap.get?_push_of_some _ ho
  have hn1 : (s.heap.push (seqObj "list" #[] 0)).get? s.heap.objs.size = some (seqObj "list" #[] 0) := Heap.get?_push_size _ rfl
  have hT : (Value.type "tuple" == Value.type "tuple") = true := by rfl
  unfold collect
  refine wpAny_bind (wpAny_runValue (codeAny_builtin entry_proto_collect' ?_))
  show wpAny _ _ (do again (.builtin "list.__iadd__" ⟨[← newList [], .ref t], []⟩)) _ _ s
  refine wpAny_bind (wpAny_newList (wpAny_pure ⟨Code.quiet_builtin _ (by decide +kernel), ?_⟩))
  refine codeAny_builtin entry_list_iadd' ?_
  show wpAny _ _ (Builtin.List.listExtendWith (.ref s.heap.objs.size) (.ref t) (.ref s.heap.objs.size)) _ _ { s with heap := s.heap.push (seqObj "list" #[] 0) }
  unfold Builtin.List.listExtendWith
  refine wpAny_bind (wpAny_typeOf (T := "tuple") ⟨o, ho1, hc⟩ ?_)
  rw [if_pos (by rw [hT]; simp)]
  refine wpAny_bind (listItems_at ho1 hd (wpAny_bind (listItems_at (xs := #[]) (n := 0) hn1 rfl ?_)))
  rw [if_neg (by simp)]
  refine wpAny_bind (listUpdate_at (xs := #[]) (n := 0) hn1 rfl ?_ (Nat.zero_le _) (by rw [Array.size_append]; simp; have := sizeLine_eq; omega))
  refine wpAny_pure ?_
  refine wpAny_bind (wpAny_load (get?_update_seq hn1 _) ?_)
  have e : (((#[] : Array Value) ++ us.toArray).toList) = us := by simp
  show wpAny _ _ (pure ((#[] : Array Value) ++ us.toArray).toList) R E _
  rw [e]
  exact wpAny_pure q
/-- sorted(a tuple), by what sorts the new list -/
theorem tup_sorted {κ : _} {t : Addr} {us : List Value} {R : Value → Shared → Prop} (ht : IsTup s.heap t us.toArray) (hz : us.length ≤ sizeLine)
    (S : SortsAt prog w A.in1.in1 { s with heap := sortingHeap (copyHeap s.heap us) (s.heap.objs.size + 1) us } κ us)
    (q : R (.ref (s.heap.objs.size + 1)) { s with heap := sortedAll s.heap us (sortVals κ false us us).toArray }) : wpAny (model prog w) A (call (.builtin "sorted") [.ref t]) R E s := by
  have hs : ((s.heap.push (seqObj "list" #[] 0)).update s.heap.objs.size (Obj.mapSeq (· ++ us.toArray))).objs.size = s.heap.objs.size + 1 := by rw [Heap.size_update, size_push']
  refine call_function_entry_kw kind_sorted plain_sorted entry_sorted (args_sorted1 _) ?_
  unfold Builtin.«sorted»
  refine wpAny_bind (m := checkCount "sorted" 1 1 _) (wpAny_pure (wpAny_bind (tup_coll ht hz (wpAny_bind (wpAny_newList ?_ hz)))))
  show wpAny _ _ _ _ _ { s with heap := copyHeap s.heap us }
  rw [hs]
  refine wpAny_bind (wpAny_holding (wpAny_call_entry_kw slot_list_sort ⟨_, copyHeap_at s.heap us, rfl⟩ entry_list_sort ?body (args_list_sort _)))
  case body =>
    have b := list_sort_vals (s := { s with heap := copyHeap s.heap us }) (A := A.in1.in1) (E := E) (P := fun f s' => f = .done (.ret .none) ∧ R (.ref (s.heap.objs.size + 1)) s') (copyHeap_at s.heap us) S hz ⟨rfl, q⟩
    refine wpAny_mono b (fun f s' hf => ?_) fun _ _ e => e
    obtain ⟨rfl, hq⟩ := hf
    exact ⟨_, rfl, wpAny_pure ⟨_, rfl, hq⟩⟩
end
/-! ### sorted as a call -/
noncomputable def pyD (d : D) : PyData := (py0 d).getD .none
def rSortB (K : PySem.W.Frag) : List V → Hp → VK → Prop := fun vs H Q => ∃ (a : Addr) (bs : List (D × V)), vs = [.ref a] ∧ (SqL K H a (bs.map Prod.snd) ∨ SqT K H a (bs.map Prod.snd)) ∧ (∀ b ∈ bs, Dp K H b.2 (pyD b.1)) ∧
  AllAlike (bs.map fun b => pyD b.1) ∧ Sortable (bs.map fun b => pyD b.1) ∧ (∀ b ∈ bs, (pyD b.1).depth ≤ 60) ∧ ∀ p, H p = none → Q (.ref p) (upd H p (.lst ((bs.mergeSort (dataLe false fun b => pyD b.1)).map Prod.snd)))
theorem each_vals : ∀ {bs : List (D × V)} {us : List Value}, Vals (bs.map Prod.snd) us → EachIs (fun u b => RelV b.2 u) us bs
  | [], _, .nil => .nil
  | _ :: bs, _, .cons r t => .cons r (each_vals (bs := bs) t)
theorem vals_each : ∀ {bs : List (D × V)} {us : List Value}, EachIs (fun u b => RelV b.2 u) us bs → Vals (bs.map Prod.snd) us
  | [], _, .nil => .nil
  | _ :: bs, _, .cons r t => .cons r (vals_each (bs := bs) t)
theorem each_dp {X : Cx} {pins : List (Addr × Obj)} {σ : L2.St} {H : Hp} {s : Shared} (I : Inv X pins σ H s) : ∀ {bs : List (D × V)} {us : List Value}, (∀ b ∈ bs, Dp X.K H b.2 (pyD b.1)) → EachIs (fun u b => RelV b.2 u) us bs → EachIs (fun u b => ∃ as, Reads s.heap u (pyD b.1) as) us bs
  | [], _, _, .nil => .nil
  | b :: bs, _, h, .cons r t => .cons (Dp.reads I _ _ _ (h b (by simp)) r) (each_dp I (fun z hz => h z (by simp [hz])) t)
theorem cr_sortedB {X : Cx} (hu : X.A.units + 64 < cLine) : CallR X (.builtin "sorted") (rSortB X.K) := by
  intro pins s σ H vs us Q I r h
  obtain ⟨a, bs, rfl, hs, hd, hal, hk, hdep, q⟩ := h
  rw [Vals.ref1 r]
  have fin : ∀ (its out : List Value), its.length = bs.length → bs.length ≤ sizeLine → EachIs (fun u b => RelV b.2 u) out (bs.mergeSort (dataLe false fun b => pyD b.1)) → out.length = bs.length →
      ∃ v H', Inv X pins σ H' { s with heap := sortedAll s.heap its out.toArray } ∧ RelV v (Value.ref (s.heap.objs.size + 1)) ∧ Q v H' := fun its out h1 h2 h3 h4 => by
    obtain ⟨n, hn⟩ := sortedAll_at s.heap its out.toArray
    exact ⟨.ref _, upd H (s.heap.objs.size + 1) (.lst ((bs.mergeSort (dataLe false fun b => pyD b.1)).map Prod.snd)), I.laid (t' := s.toks) (fun _ _ => sortedAll_old) (Nat.le_succ _) ⟨by rw [List.length_map, List.length_mergeSort]; exact h2, out, n, vals_each h3, hn⟩, rfl, q _ (I.hok.fresh (Nat.le_succ _))⟩
  rcases hs with hs | hs
  · obtain ⟨its, rv, hl, hz⟩ := I.list hs
    have hL : bs.length ≤ sizeLine := by simpa using hz
    have e1 := each_vals rv
    refine sorted_data hl.isList e1 (each_dp I hd e1) hal hk hL (fun b hb => by have := hdep b hb; omega) fun out h1 h2 => ?_
    exact fin its out e1.length hL h2 h1
  · obtain ⟨its, rv, hl, hz⟩ := I.tuple hs
    have hL : bs.length ≤ sizeLine := by simpa using hz
    have e1 := each_vals rv
    have er := (each_dp I hd e1).mono fun _ _ ⟨as, z⟩ => (⟨as, PyProof.Rows.Reads.keeps (fun _ _ => sorting_copy_old) z⟩ : ∃ as, Reads (sortingHeap (copyHeap s.heap its) (s.heap.objs.size + 1) its) _ _ as)
    refine tup_sorted hl (by rw [e1.length]; exact hL) (SortsAt.data (A := X.A.in1.in1) (s := { s with heap := sortingHeap (copyHeap s.heap its) (s.heap.objs.size + 1) its }) (each_map (R := fun v d => ∃ as, Reads (sortingHeap (copyHeap s.heap its) (s.heap.objs.size + 1) its) v d as) (fun b : D × V => pyD b.1) er) hal hk (bound_map (enc := fun b : D × V => pyD b.1) (bs := bs) fun b hb => by have := hdep b hb; show X.A.units + 1 + 1 + (pyD b.1).depth < cLine; omega)) ?_
    exact fin its _ e1.length hL (sortVals_data false e1 er hal) (by rw [sortVals_length false rfl]; exact e1.length)
/-! ### its mirror -/
def sortOk (xs : List D) : Prop := (∀ d ∈ xs, (py0 d).isSome = true ∧ (pyD d).depth ≤ 60) ∧ AllAlike (xs.map pyD) ∧ Sortable (xs.map pyD)
noncomputable def sortD (xs : List D) : List D := xs.mergeSort (dataLe false pyD)
open Classical in
noncomputable def dSorted : List D → Store → Option (D × Store)
  | [x], s => (seqOf s x).bind fun xs => if sortOk xs then some (.loc s.length, s ++ [.lst (sortD xs)]) else none
  | _, _ => none
theorem zip_map1 {K : PySem.W.Frag} {m : List Addr} {H : Hp} : ∀ {xs : List D} {vs : List V}, Reps K m H xs vs → (xs.zip vs).map Prod.fst = xs ∧ (xs.zip vs).map Prod.snd = vs ∧ ∀ b ∈ xs.zip vs, Rep K m H b.1 b.2
  | [], _, .nil => ⟨rfl, rfl, fun _ h => by cases h⟩
  | x :: xs, _, .cons h r => by
    obtain ⟨a, b, c⟩ := zip_map1 r
    exact ⟨by simp [a], by simp [b], fun z hz => by
      rcases List.mem_cons.mp hz with e | e
      · rw [e]; exact h
      · exact c z e⟩
theorem reps_map {K : PySem.W.Frag} {m : List Addr} {H : Hp} : ∀ {bs : List (D × V)}, (∀ b ∈ bs, Rep K m H b.1 b.2) → Reps K m H (bs.map Prod.fst) (bs.map Prod.snd)
  | [], _ => .nil
  | b :: bs, h => .cons (h b (by simp)) (reps_map fun z hz => h z (by simp [hz]))
theorem fns_sorted {K : PySem.W.Frag} : FnS K (rSortB K) dSorted := by
  intro mg W σ m H s xs ds Q r p g
  unfold dSorted at g
  split at g
  · obtain ⟨v, rfl, h⟩ := reps1 p
    rename_i x
    cases q : seqOf s x with
    | none => rw [q] at g; exact g.elim
    | some ys =>
      rw [q] at g
      simp only [Option.bind_some] at g
      split at g
      · rename_i ok
        have g' : G K mg (Rep K) W σ m H Q (.ok (.loc s.length) (s ++ [.lst (sortD ys)])) := g
        obtain ⟨a, vs, rfl, hq, rr⟩ := seqOf_sq r h q
        obtain ⟨z1, z2, z3⟩ := zip_map1 rr
        have e1 : ((ys.zip vs).map fun b => pyD b.1) = ys.map pyD := by
          conv => rhs; rw [← z1, List.map_map]
          rfl
        have z4 : ∀ b ∈ ys.zip vs, b.1 ∈ ys := fun b hb => by
          have := List.mem_map.mpr ⟨b, hb, (rfl : b.1 = b.1)⟩
          rw [z1] at this
          exact this
        refine ⟨a, ys.zip vs, rfl, by rw [z2]; exact hq, fun b hb => ?_, by rw [e1]; exact ok.2.1, by rw [e1]; exact ok.2.2, fun b hb => (ok.1 _ (z4 b hb)).2, fun l hl => ?_⟩
        · obtain ⟨w1, _⟩ := ok.1 _ (z4 b hb)
          obtain ⟨pd, hp⟩ := Option.isSome_iff_exists.mp w1
          have := py0_dp (z3 b hb) hp
          unfold pyD
          rw [hp]
          exact this
        · have e2 : sortD ys = ((ys.zip vs).mergeSort (dataLe false fun b => pyD b.1)).map Prod.fst := by
            rw [List.map_mergeSort (r := dataLe false fun b : D × V => pyD b.1) (s := dataLe false pyD) (fun _ _ _ _ => rfl), z1]
            rfl
          rw [e2] at g'
          refine g' (m ++ [l]) _ _ (le_more r hl) (rel_newlist r hl (reps_map fun b hb => z3 b ?_)) (.loc (len_get r))
          exact (List.mergeSort_perm _ _).mem_iff.mp hb
      · exact g.elim
  · exact g.elim
end Mi
namespace HT
open PySem PySem.Spec PyProof.Rows
section
variable {prog : Program} {w : World} {A : Around} {E : Value → Shared → Prop} {s : Shared}
theorem rev_pick (xs : Array Value) : ((List.range xs.size).filterMap fun (m : Nat) => xs[((xs.size : Int) - 1 + (m : Int) * (-1)).toNat]?).toArray = xs.toList.reverse.toArray := by
  have q := PySem.W.krv_pick xs
  unfold slicePick at q
  rw [PySem.W.krv_bounds] at q
  have q' : ((sliceRange ((xs.size : Int) - 1) (-1) (-1)).filterMap (xs[·]?)).toArray = xs.toList.reverse.toArray := q
  rw [PySem.W.krv_sliceRange, List.filterMap_map] at q'
  rw [← q']
  refine congrArg List.toArray (congrArg (fun f => List.filterMap f (List.range xs.size)) (funext fun m => ?_))
  show xs[_]? = xs[_]?
  refine congrArg (fun i : Nat => xs[i]?) ?_
  show ((xs.size : Int) - 1 + (m : Int) * (-1)).toNat = xs.size - 1 - m
  omega
theorem sliced_back {sl : Addr} {vl vu vs : Value} {n : Nat} {R : Int × Int × Nat → Shared → Prop} (hs : s.heap.IsSliceOf sl vl vu vs) (pl : IsPart vl none) (pu : IsPart vu none) (ps : IsPart vs (some (-1)))
    (q : R ((n : Int) - 1, -1, n) s) : wpAny (model prog w) A (Builtin.Slice.sliceApplied (.ref sl) (pure (n : Int))) R E s := by
  obtain ⟨os, hos, hcs, hds⟩ := id hs
  have e : Builtin.Slice.slicePlaces ((n : Int) - 1) (-1) (-1) = n := by
    unfold Builtin.Slice.slicePlaces
    rw [if_neg (by omega)]
    by_cases c : (n : Int) - 1 > -1
    · rw [if_pos c]
      simp
    · rw [if_neg c]
      omega
  unfold Builtin.Slice.sliceApplied Builtin.Slice.sliceFields
  refine wpAny_bind (wpAny_bind (wpAny_field hos hds (x := vl) rfl (wpAny_bind (wpAny_field hos hds (x := vu) rfl (wpAny_bind (wpAny_field hos hds (x := vs) rfl (wpAny_pure ?_)))))))
  refine wpAny_bind (slicePart_ ps ?_)
  show wpAny _ _ (if ((-1 : Int) == 0) = true then _ else _) _ _ s
  rw [if_neg (by decide)]
  refine wpAny_bind (slicePart_ pl (wpAny_bind (slicePart_ pu (wpAny_bind (wpAny_pure ?_)))))
  show wpAny _ _ (pure ((n : Int) - 1, (-1 : Int), Builtin.Slice.slicePlaces ((n : Int) - 1) (-1) (-1))) _ _ s
  rw [e]
  exact wpAny_pure q
theorem tup_back {t sl : Addr} {items : Array Value} {vl vu vs : Value} {R : Value → Shared → Prop} (ht : IsTup s.heap t items) (hs : s.heap.IsSliceOf sl vl vu vs) (pl : IsPart vl none) (pu : IsPart vu none) (ps : IsPart vs (some (-1)))
    (hz : items.size ≤ sizeLine) (h : R (.ref s.heap.objs.size) { s with heap := s.heap.push { cls := .type "tuple", data := .seq items.toList.reverse.toArray } }) : wpAny (model prog w) A (getItem (.ref t) (.ref sl)) R E s := by
  have room : sizeOk (.seq items.toList.reverse.toArray) := by
    show items.toList.reverse.toArray.size ≤ sizeLine
    rw [List.size_toArray, List.length_reverse]
    exact hz
  obtain ⟨os, hos, hcs, hds⟩ := id hs
  have hT : s.TypeIs (.ref sl) "slice" := ⟨os, hos, hcs⟩
  unfold getItem
  try with_reducible refine wpAny_holding ?_
  first | refine wpAny_bind (wpAny_pure ?_) | skip
  refine wpAny_bind (wpAny_sequenceKey ht.typeIs (by decide) ?_)
  refine wpAny_bind (wpAny_callSpecial?_slot (name := Str.ofString "__getitem__") ht.typeIs PyProof.Rows.slot_tuple_getitem (wpAny_call_entry PyProof.Rows.slot_tuple_getitem ht.typeIs entry_tuple_getitem ?_ (args_tuple_getitem _ _)))
  show wpAny _ _ (Builtin.Tuple.tupleItemsOf (.ref t) >>= _) _ _ s
  refine wpAny_bind (tupleItemsOf_ ht (wpAny_bind (wpAny_typeOf hT ?_)))
  rw [if_pos (by decide)]
  refine wpAny_bind (sliced_back hs pl pu ps ?_)
  show wpAny _ _ (if ((((items.size : Int) - 1) == 0 && (-1 : Int) == 1 && items.size == items.size) = true) then _ else _) _ _ s
  rw [if_neg (by simp), rev_pick]
  first
    | exact wpAny_bind (m := Builtin.Tuple.tupleExact _) (wpAny_newObj_type (wpAny_pure ⟨_, rfl, wpAny_pure h⟩) room)
    | exact wpAny_bind (m := Builtin.Tuple.tupleExact _) (wpAny_newObj_type (wpAny_bind (wpAny_pure (wpAny_pure ⟨_, rfl, wpAny_pure h⟩))) room)
    | exact wpAny_bind (wpAny_bind (m := Builtin.Tuple.tupleExact _) (wpAny_newObj_type (wpAny_pure (wpAny_pure ⟨_, rfl, wpAny_pure h⟩)) room))
    | exact wpAny_bind (wpAny_bind (m := Builtin.Tuple.tupleExact _) (wpAny_newObj_type (wpAny_pure ⟨_, rfl, wpAny_pure h⟩) room))
end
end HT
namespace Mi
open PySem PySem.Spec PyProof.Rows L2
/-- a[::-1], a list or a tuple -/
def tBack (K : PySem.W.Frag) (te : TE) : TE := fun σ H Q => te σ H fun x H1 => ∃ a xs, x = .ref a ∧ ((SqL K H1 a xs ∧ ∀ p, H1 p = none → Q (.ref p) (upd H1 p (.lst xs.reverse))) ∨ (SqT K H1 a xs ∧ ∀ p, H1 p = none → Q (.ref p) (upd H1 p (.tup xs.reverse))))
theorem pe_back {X : Cx} {e : Expr} {te : TE} {k : Nat} {p1 p2 p3 pos : Pos} (he : PE X e te) : PE X (.Subscript e (.Slice none none (some (.UnaryOp .USub (.Constant (.int 1) k p1) p2)) p3) pos) (tBack X.K te) := by
  refine ⟨fun pins s σ H Q I h => Subscript_ (thn (he.run pins s σ H _ I h) fun v s1 ⟨x, H1, I1, r1, a, xs, ex, q⟩ => ?_)⟩
  subst ex
  cases r1
  have step : PO X (some (.UnaryOp .USub (.Constant (.int 1) k p1) p2)) (tPart (tUn (rU fun i => .int (-i)) (tC (.int 1)))) := po_some (pe_un un_neg pe_int)
  refine wpAny_Slice (thn (po_none.run pins s1 σ H1 (fun o H2 => o = none ∧ H2 = H1) I1 ⟨rfl, rfl⟩) fun vl s2 ⟨l, H2, I2, pl, el, e2⟩ => ?_)
  cases el
  cases e2
  refine thn (po_none.run pins s2 σ H1 (fun o H3 => o = none ∧ H3 = H1) I2 ⟨rfl, rfl⟩) fun vu s3 ⟨u, H3, I3, pu, eu, e3⟩ => ?_
  cases eu
  cases e3
  refine thn (step.run pins s3 σ H1 (fun o H4 => o = some (-1) ∧ H4 = H1) I3 ⟨1, rfl, -1, rfl, rfl, rfl⟩) fun vs s4 ⟨o, H4, I4, ps, eo, e4⟩ => ?_
  cases eo
  cases e4
  have I5 : Inv X pins σ H1 { s4 with heap := s4.heap.push { cls := .type "slice", data := .fields #[vl, vu, vs] } } := I4.kept (t' := s4.toks) fun b ob q => Heap.get?_push_of_some _ q
  show wpAny (model X.prog X.w) X.A (subscriptTail e (.Slice none none (some (.UnaryOp .USub (.Constant (.int 1) k p1) p2)) p3) (.ref a) (.ref s4.heap.objs.size)) (EP X pins σ Q) X.xe { s4 with heap := s4.heap.push { cls := .type "slice", data := .fields #[vl, vu, vs] } }
  rcases q with ⟨hx, q⟩ | ⟨hx, q⟩
  · obtain ⟨its, r, ht, hz⟩ := I5.list hx
    have hlen := r.length
    refine tail_any (ops := [.ref a, .ref s4.heap.objs.size]) ht.isList.typeIs (PySem.slot_list_getitem.lookup) ?_ (by with_unfolding_all rfl)
    refine wpAny_getItem_list_slice ht.isList (Heap.IsSliceOf.new _ vl vu vs) pl pu ps (by decide) ?_ (by rw [List.size_toArray]; omega)
    rw [PySem.W.krv_pick]
    refine ⟨.ref _, _, I5.laid (t' := s4.toks) (o := .lst xs.reverse) (fun b ob q => Heap.get?_push_of_some _ q) (Nat.le_refl _) ?_, rfl, q _ (I5.hok.fresh (Nat.le_refl _))⟩
    exact ⟨by rw [List.length_reverse]; exact hz, _, 0, r.reverse, Heap.get?_push_size _ rfl⟩
  · obtain ⟨its, r, ht, hz⟩ := I5.tuple hx
    have hlen := r.length
    refine tail_any (ops := [.ref a, .ref s4.heap.objs.size]) ht.typeIs (PyProof.Rows.slot_tuple_getitem.lookup) ?_ (by with_unfolding_all rfl)
    refine HT.tup_back ht (Heap.IsSliceOf.new _ vl vu vs) pl pu ps (by rw [List.size_toArray]; omega) ?_
    refine ⟨.ref _, _, I5.laid (t' := s4.toks) (o := .tup xs.reverse) (fun b ob q => Heap.get?_push_of_some _ q) (Nat.le_refl _) ?_, rfl, q _ (I5.hok.fresh (Nat.le_refl _))⟩
    exact ⟨by rw [List.length_reverse]; exact hz, _, r.reverse, IsTup.new _ _⟩
def dRev (x : D) (s : Store) : Option (D × Store) := match x with
  | .tup xs => some (.tup xs.reverse, s)
  | x => (lstOf s x).map fun xs => (.loc s.length, s ++ [.lst xs.reverse])
theorem Reps.rev {K : PySem.W.Frag} {m : List Addr} {H : Hp} {xs : List D} {vs : List V} (h : Reps K m H xs vs) : Reps K m H xs.reverse vs.reverse := by
  obtain ⟨a, b, c⟩ := zip_map1 h
  have q := reps_map (bs := (xs.zip vs).reverse) fun z hz => c z (List.mem_reverse.mp hz)
  rw [List.map_reverse, List.map_reverse, a, b] at q
  exact q
section
variable {X : Cx} {W : WX} {pos p1 p2 p3 : Pos} {k : Nat} {a : Expr} {fa : ME D}
theorem ce_back (ha : PE X a (Te X.K X.mg W fa)) : PE X (.Subscript a (.Slice none none (some (.UnaryOp .USub (.Constant (.int 1) k p1) p2)) p3) pos) (Te X.K X.mg W (e1 dRev fa)) :=
  PE.imp (pe_back ha) fun σ H Q h => Tm.bind (k := fun env x s => R.of (dRev x s)) h fun m1 H1 env x v s1 r1 E1 p g1 => by
    have gen : (∀ ys, x ≠ .tup ys) → ∃ a xs, v = .ref a ∧ ((SqL X.K H1 a xs ∧ ∀ p, H1 p = none → Q (.ref p) (upd H1 p (.lst xs.reverse))) ∨ (SqT X.K H1 a xs ∧ ∀ p, H1 p = none → Q (.ref p) (upd H1 p (.tup xs.reverse)))) := by
      intro hn
      have e : dRev x s1 = (lstOf s1 x).map fun xs => (.loc s1.length, s1 ++ [.lst xs.reverse]) := by
        cases x <;> first | rfl | exact (hn _ rfl).elim
      rw [e] at g1
      cases q : lstOf s1 x with
      | none => rw [q] at g1; exact g1.elim
      | some xs =>
        rw [q] at g1
        have g2 : G X.K X.mg (Rep X.K) W σ m1 H1 Q (.ok (.loc s1.length) (s1 ++ [.lst xs.reverse])) := g1
        obtain ⟨a, vs, rfl, hq, rr⟩ := lstOf_sq r1 p q
        exact ⟨a, vs, rfl, .inl ⟨hq, fun l hl => g2 (m1 ++ [l]) _ _ (le_more r1 hl) (rel_newlist r1 hl rr.rev) (.loc (len_get r1))⟩⟩
    cases x with
    | tup xs =>
      obtain ⟨a, vs, rfl, hq, rr⟩ := p.sqT
      have g2 : G X.K X.mg (Rep X.K) W σ m1 H1 Q (.ok (.tup xs.reverse) s1) := g1
      exact ⟨a, vs, rfl, .inr ⟨hq, fun l hl => g2 m1 _ _ (le_new hl) (r1.tmp hl) (rep_newtup hl rr.rev)⟩⟩
    | _ => exact gen (fun _ h => nomatch h)
end
end Mi
namespace Mi
open PySem PySem.Spec PyProof.Rows L2
section
variable {K : PySem.W.Frag}
theorem reps3 {m : List Addr} {H : Hp} {d e f : D} {xs : List V} (p : Reps K m H [d, e, f] xs) : ∃ u v w, xs = [u, v, w] ∧ Rep K m H d u ∧ Rep K m H e v ∧ Rep K m H f w := by
  cases p with
  | cons h r =>
    obtain ⟨v, w, rfl, h2, h3⟩ := reps2 r
    exact ⟨_, v, w, rfl, h, h2, h3⟩
/-! #### min, max of three -/
def dMax3 : List D → Store → Option (D × Store)
  | [.int i, .int j, .int k], s => some (.int (max (max i j) k), s)
  | _, _ => none
def dMin3 : List D → Store → Option (D × Store)
  | [.int i, .int j, .int k], s => some (.int (min (min i j) k), s)
  | _, _ => none
theorem nu_lt (i j : Int) : nuLt (.int i) (.int j) = some (decide (i < j)) := rfl
theorem nu_max (i j : Int) : nuMax2 (.int i) (.int j) = some (.int (max i j)) := by
  show (nuLt (.int i) (.int j)).map _ = _
  rw [nu_lt, Option.map_some]
  by_cases c : i < j
  · simp [c, Int.max_def, Int.le_of_lt c]
  · simp [c, Int.max_def]
    omega
theorem nu_min (i j : Int) : nuMin2 (.int i) (.int j) = some (.int (min i j)) := by
  show (nuLt (.int j) (.int i)).map _ = _
  rw [nu_lt, Option.map_some]
  by_cases c : j < i
  · simp [c, Int.min_def]
    omega
  · simp [c, Int.min_def]
theorem fns_max3 : FnS K (rNuC3 nuMax3) dMax3 := by
  intro mg W σ m H s xs ds Q r p g
  unfold dMax3 at g
  split at g
  · obtain ⟨u, v, w, rfl, h, h2, h3⟩ := reps3 p
    cases h; cases h2; cases h3
    exact ⟨_, _, _, _, rfl, by rw [nuMax3, nu_max, Option.bind_some, nu_max], g.now r (.int _)⟩
  · exact g.elim
theorem fns_min3 : FnS K (rNuC3 nuMin3) dMin3 := by
  intro mg W σ m H s xs ds Q r p g
  unfold dMin3 at g
  split at g
  · obtain ⟨u, v, w, rfl, h, h2, h3⟩ := reps3 p
    cases h; cases h2; cases h3
    exact ⟨_, _, _, _, rfl, by rw [nuMin3, nu_min, Option.bind_some, nu_min], g.now r (.int _)⟩
  · exact g.elim
/-! #### min, max of a list of ints -/
def dMaxL : List D → Store → Option (D × Store)
  | [x], s => (lstOf s x).bind fun xs => (intsOf xs).bind fun ns => ns.max?.map fun z => (.int z, s)
  | _, _ => none
def dMinL : List D → Store → Option (D × Store)
  | [x], s => (lstOf s x).bind fun xs => (intsOf xs).bind fun ns => ns.min?.map fun z => (.int z, s)
  | _, _ => none
theorem fns_maxL : FnS K (rMax K) dMaxL := by
  intro mg W σ m H s xs ds Q r p g
  unfold dMaxL at g
  split at g
  · obtain ⟨v, rfl, h⟩ := reps1 p
    rename_i x
    cases q : lstOf s x with
    | none => rw [q] at g; exact g.elim
    | some ys =>
      rw [q, Option.bind_some] at g
      cases q2 : intsOf ys with
      | none => rw [q2] at g; exact g.elim
      | some ns =>
        rw [q2, Option.bind_some] at g
        cases q3 : ns.max? with
        | none => rw [q3] at g; exact g.elim
        | some z =>
          rw [q3] at g
          obtain ⟨a, vs, rfl, hq, rr⟩ := lstOf_sq r h q
          rw [of_intsOf q2] at rr
          have e := rr.ints
          subst e
          obtain ⟨z1, z2⟩ := List.max?_eq_some_iff.mp q3
          refine ⟨a, ns, rfl, hq, List.length_pos_iff_exists_mem.mpr ⟨z, z1⟩, fun y h1 h2 => ?_⟩
          have e : y = z := Int.le_antisymm (z2 y h1) (h2 z z1)
          rw [e]
          exact G.now (d := D.int z) g r (.int _)
  · exact g.elim
theorem fns_minL : FnS K (rMin K) dMinL := by
  intro mg W σ m H s xs ds Q r p g
  unfold dMinL at g
  split at g
  · obtain ⟨v, rfl, h⟩ := reps1 p
    rename_i x
    cases q : lstOf s x with
    | none => rw [q] at g; exact g.elim
    | some ys =>
      rw [q, Option.bind_some] at g
      cases q2 : intsOf ys with
      | none => rw [q2] at g; exact g.elim
      | some ns =>
        rw [q2, Option.bind_some] at g
        cases q3 : ns.min? with
        | none => rw [q3] at g; exact g.elim
        | some z =>
          rw [q3] at g
          obtain ⟨a, vs, rfl, hq, rr⟩ := lstOf_sq r h q
          rw [of_intsOf q2] at rr
          have e := rr.ints
          subst e
          obtain ⟨z1, z2⟩ := List.min?_eq_some_iff.mp q3
          refine ⟨a, ns, rfl, hq, List.length_pos_iff_exists_mem.mpr ⟨z, z1⟩, fun y h1 h2 => ?_⟩
          have e : y = z := Int.le_antisymm (h2 z z1) (z2 y h1)
          rw [e]
          exact G.now (d := D.int z) g r (.int _)
  · exact g.elim
end
end Mi
namespace Mi
open PySem PySem.Spec PyProof.Rows L2
/-! ### a while by an invariant and a measure -/
theorem whileN_more {c : ME Bool} {b : MS} : ∀ {n : Nat} {env : Sl} {s : Store}, whileN c b n env s ≠ .no → whileN c b (n + 1) env s = whileN c b n env s := by
  intro n
  induction n with
  | zero => intro env s h; exact (h rfl).elim
  | succ n ih =>
    intro env s h
    unfold whileN at h ⊢
    cases e : c env s with
    | no => rfl
    | ex x s1 => rfl
    | ok k s1 =>
      rw [e] at h
      cases k with
      | false => rfl
      | true =>
        simp only [R.then, if_true] at h ⊢
        cases e2 : b env s1 with
        | nx env2 s2 => rw [e2] at h; exact ih h
        | ct env2 s2 => rw [e2] at h; exact ih h
        | bk env2 s2 => rfl
        | rt d s2 => rfl
        | ex x env2 s2 => rfl
        | no => rfl
theorem whileN_add {c : ME Bool} {b : MS} {n : Nat} {env : Sl} {s : Store} (h : whileN c b n env s ≠ .no) : ∀ k, whileN c b (n + k) env s = whileN c b n env s
  | 0 => rfl
  | k + 1 => by
    have q := whileN_add h k
    rw [← q] at h
    rw [← Nat.add_assoc, whileN_more h, q]
theorem whileN_one {c : ME Bool} {b : MS} {n m : Nat} {env : Sl} {s : Store} (h : whileN c b n env s ≠ .no) (h2 : whileN c b m env s ≠ .no) : whileN c b n env s = whileN c b m env s := by
  rw [← whileN_add h m, ← whileN_add h2 n, Nat.add_comm]
theorem sWhile_of {c : ME Bool} {b : MS} {n : Nat} {env : Sl} {s : Store} (h : whileN c b n env s ≠ .no) : sWhile c b env s = whileN c b n env s := by
  have z : ∃ n, whileN c b n env s ≠ .no := ⟨n, h⟩
  unfold sWhile
  rw [dif_pos z]
  exact whileN_one (Classical.choose_spec z) h
/-- one turn's promise -/
theorem while_rule {c : ME Bool} {b : MS} (I : Nat → Sl → Store → Prop) (Q : RS → Prop) (no : ¬ Q .no)
    (hs : ∀ n env s, I n env s → (∃ s', c env s = .ok false s' ∧ Q (.nx env s')) ∨ (∃ s', c env s = .ok true s' ∧ Turns (fun env s => ∃ m, m < n ∧ I m env s) Q (b env s'))) {n : Nat} {env : Sl} {s : Store} (h : I n env s) : Q (sWhile c b env s) := by
  have key : ∀ n env s, I n env s → ∃ k, Q (whileN c b k env s) := by
    intro n
    induction n using Nat.strongRecOn with
    | ind n ih =>
      intro env s h
      rcases hs n env s h with ⟨s', e, q⟩ | ⟨s', e, q⟩
      · refine ⟨1, ?_⟩
        unfold whileN
        rw [e]
        exact q
      · cases e2 : b env s' with
        | nx env2 s2 =>
          rw [e2] at q
          obtain ⟨m, hm, hi⟩ := q
          obtain ⟨k, hk⟩ := ih m hm env2 s2 hi
          refine ⟨k + 1, ?_⟩
          unfold whileN
          simp only [e, R.then, if_true, e2]
          exact hk
        | ct env2 s2 =>
          rw [e2] at q
          obtain ⟨m, hm, hi⟩ := q
          obtain ⟨k, hk⟩ := ih m hm env2 s2 hi
          refine ⟨k + 1, ?_⟩
          unfold whileN
          simp only [e, R.then, if_true, e2]
          exact hk
        | bk env2 s2 =>
          rw [e2] at q
          refine ⟨1, ?_⟩
          unfold whileN
          simp only [e, R.then, if_true, e2]
          exact q
        | rt d s2 =>
          rw [e2] at q
          refine ⟨1, ?_⟩
          unfold whileN
          simp only [e, R.then, if_true, e2]
          exact q
        | ex x env2 s2 =>
          rw [e2] at q
          refine ⟨1, ?_⟩
          unfold whileN
          simp only [e, R.then, if_true, e2]
          exact q
        | no => rw [e2] at q; exact q.elim
  obtain ⟨k, hk⟩ := key n env s h
  have nn : whileN c b k env s ≠ .no := fun e => no (e ▸ hk)
  rw [sWhile_of nn]
  exact hk
/-! ### name op= e -/
@[simp] theorem sAug_eq (i : Nat) (g : D → D → Store → Option (D × Store)) (e : ME D) (env : Sl) (s : Store) : sAug i g e env s = match env[i]? with
  | some (some x) => (e env s).then env fun y s => match g x y s with
    | some (z, s') => .nx (env.set i (some z)) s'
    | none => .no
  | _ => .no := rfl
@[simp] theorem dAddI_int (i j : Int) (s : Store) : dAddI (.int i) (.int j) s = some (.int (i + j), s) := rfl
/-! ### a value's truth -/
open Classical in
noncomputable def dTru (s : Store) : D → Option Bool
  | .non => some false
  | .bl b => some b
  | .int i => some (i != 0)
  | .str y => if y.length ≤ sizeLine then some ((y.length : Int) != 0) else none
  | .tup xs => some (!xs.isEmpty)
  | .fl xs => some (!xs.isEmpty)
  | .loc l => match s[l]? with
    | some (.lst xs) => some (!xs.isEmpty)
    | some (.dic ks) => some (!ks.isEmpty)
    | _ => none
  | .exv _ _ _ _ => none
theorem reps_empty {K : PySem.W.Frag} {m : List Addr} {H : Hp} {xs : List D} {vs : List V} (h : Reps K m H xs vs) : xs.isEmpty = vs.isEmpty := by
  cases h <;> rfl
theorem repk_empty {K : PySem.W.Frag} {m : List Addr} {H : Hp} {xs : List (Key × D)} {vs : List (Key × V)} (h : RepK K m H xs vs) : xs.isEmpty = vs.isEmpty := by
  cases h <;> rfl
theorem dTru_ok {K : PySem.W.Frag} {m : List Addr} {H : Hp} {s : Store} (r : Rel K m H s) {d : D} {v : V} {k : Bool} (p : Rep K m H d v) (e : dTru s d = some k) : TruV K v H k := by
  cases p with
  | non => cases e; rfl
  | bl b => cases e; rfl
  | int i => cases e; rfl
  | str y =>
    by_cases hz : y.length ≤ sizeLine
    · simp only [dTru, if_pos hz] at e
      cases e
      exact ⟨hz, rfl⟩
    · simp only [dTru, if_neg hz] at e
      cases e
  | tup h q => have e' := Option.some.inj e; subst e'; exact .inr (.inl ⟨_, .inl (.inl h), by rw [reps_empty q]⟩)
  | fl h q => cases e; exact .inl ⟨_, h.sq, by rw [reps_empty q]⟩
  | @loc l a h =>
    unfold dTru at e
    cases q : s[l]? with
    | none => simp [q] at e
    | some c =>
      cases c with
      | lst xs =>
        simp only [q] at e
        cases e
        obtain ⟨vs, q1, p1⟩ := r.list h q
        exact .inl ⟨vs, .inl (.inl q1), by rw [reps_empty p1]⟩
      | dic ks =>
        simp only [q] at e
        cases e
        obtain ⟨ws, q1, p1⟩ := r.at_ l a _ h q
        exact .inr (.inr ⟨ws, q1, by rw [repk_empty p1]⟩)
      | dct _ => simp [q] at e
  | exv => cases e
noncomputable def tTru (a : ME D) : ME Bool := fun env s => (a env s).bind fun x s => match dTru s x with
  | some b => .ok b s
  | none => .no
section
variable {X : Cx} {W : WX} {a : Expr} {fa : ME D}
theorem ct_tru (ha : PE X a (Te X.K X.mg W fa)) (he : ∀ whole, isTrue a X.env whole = (do let v ← whole; standAt a.pos; holding [v] (truthy v)) := by intro _; rfl) : PT X a (Tt X.K X.mg W (tTru fa)) :=
  PT.imp (pt_truth ha he) fun σ H Q h => Tm.bind (k := fun _ x s => match dTru s x with | some b => R.ok b s | none => R.no) h fun m1 H1 env x v s1 r1 E1 p1 g1 => by
    cases q : dTru s1 x with
    | none => rw [q] at g1; exact g1.elim
    | some k => rw [q] at g1; exact ⟨k, dTru_ok r1 p1 q, g1.nowB r1⟩
end
@[simp] theorem tTru_eq (a : ME D) (env : Sl) (s : Store) : tTru a env s = (a env s).bind fun x s => match dTru s x with | some b => .ok b s | none => .no := rfl
@[simp] theorem dTru_bl (s : Store) (b : Bool) : dTru s (.bl b) = some b := rfl
@[simp] theorem dTru_non (s : Store) : dTru s .non = some false := rfl
@[simp] theorem dTru_tup (s : Store) (xs : List D) : dTru s (.tup xs) = some (!xs.isEmpty) := rfl
theorem dTru_loc {s : Store} {l : Nat} {xs : List D} (h : s[l]? = some (.lst xs)) : dTru s (.loc l) = some (!xs.isEmpty) := by simp [dTru, h]
/-! ### the last place -/
@[simp] theorem atI_neg1 (xs : List D) (y : D) : atI (xs ++ [y]) (-1) = some y := L2.atI_last xs y
theorem pList_last {s : Store} {l : Nat} {xs : List D} {y : D} (h : s[l]? = some (.lst (xs ++ [y]))) (z : D) : pList (.loc l) (.int (-1)) z s = some (s.set l (.lst (xs ++ [z]))) := by
  have e : ixN (xs ++ [y]).length (-1) = some xs.length := by
    unfold ixN
    simp
    omega
  have e' : ixN (xs.length + 1) (-1) = some xs.length := by simpa using e
  simp [pList, h]
  exact ⟨xs.length, e', by simp⟩
end Mi
namespace Mi
open PySem PySem.Spec PyProof.Rows L2
/-! ### raise C(e, ..), C with an __init__ that stores its parameters -/
def sRaise (c : Str) (ns : List Str) (a : ME (List D)) : MS := fun env s => (a env s).then env fun xs s => if xs.length = ns.length then .ex ⟨c, (ns.zip xs).reverse⟩ env s else .no
/-- what __init__(self, p) of one field leaves -/
def spI1 (C : Addr) (f : Str) : Sp := fun vs H Q _ => ∃ a y, vs = [.ref a, y] ∧ H a = some (exo a C none) ∧ ∀ dx, H dx = none → dx ≠ a → Q .non (upd (upd H dx (exd dx [(f, y)])) a (exo a C (some dx)))
def spI2 (C : Addr) (f g : Str) : Sp := fun vs H Q _ => ∃ a y z, vs = [.ref a, y, z] ∧ H a = some (exo a C none) ∧ ∀ dx, H dx = none → dx ≠ a → Q .non (upd (upd (upd H dx (exd dx [(f, y)])) a (exo a C (some dx))) dx (exd dx [(g, z), (f, y)]))
section
variable {P : Program} {w : World} {K : PySem.W.Frag} {mg : Str → Option Value} {base : Heap} {x qual : Str} {st : Stmt} {fi C : Addr} {fd : FuncData} {N ps : List Str} {f g : Str}
theorem okI1 (F : Fun K x qual st fi fd) (S : FnScope N ps (defScope st)) (hN : N.length = 2) (hn : ps.length = 2) (T : OexC K C) (no : PySem.W.findIn K (.ref C) f = some none)
    (hb : ∀ (cdv : Value) (A : Around) (outer : List Env) (s : Shared) (H : Hp) (E : XK), PSs (cxOf (L2.CX P w) P w K mg base N qual (defScope st) fi cdv A outer s H E) (defBody st) (tOst K f (tVar 0) (tVar 1))) : FnOk P w K mg base (L2.CX P w) 1 fi fd ps (spI1 C f) := by
  refine F.okX S (fun vs H Q E ⟨a, y, e, _⟩ => by rw [hn, e]; rfl) fun cdv A outer s H vs Q E hr ⟨a, y, e, ha, q⟩ => ⟨_, hb cdv A outer s H E, ?_⟩
  subst e
  match N, hN with
  | [n1, n2], _ => exact ⟨y, rfl, .ref a, rfl, a, C, rfl, T, no, .inl ⟨ha, fun dx h1 h2 => q dx h1 h2⟩⟩
theorem okI2 (F : Fun K x qual st fi fd) (S : FnScope N ps (defScope st)) (hN : N.length = 3) (hn : ps.length = 3) (T : OexC K C) (no : PySem.W.findIn K (.ref C) f = some none) (no2 : PySem.W.findIn K (.ref C) g = some none)
    (hb : ∀ (cdv : Value) (A : Around) (outer : List Env) (s : Shared) (H : Hp) (E : XK), PSs (cxOf (L2.CX P w) P w K mg base N qual (defScope st) fi cdv A outer s H E) (defBody st) (tSeq (tOst K f (tVar 0) (tVar 1)) (tOst K g (tVar 0) (tVar 2)))) : FnOk P w K mg base (L2.CX P w) 1 fi fd ps (spI2 C f g) := by
  refine F.okX S (fun vs H Q E ⟨a, y, z, e, _⟩ => by rw [hn, e]; rfl) fun cdv A outer s H vs Q E hr ⟨a, y, z, e, ha, q⟩ => ⟨_, hb cdv A outer s H E, ?_⟩
  subst e
  match N, hN with
  | [n1, n2, n3], _ =>
    refine ⟨y, rfl, .ref a, rfl, a, C, rfl, T, no, .inl ⟨ha, fun dx h1 h2 => ?_⟩⟩
    refine ⟨z, rfl, .ref a, rfl, a, C, rfl, T, no2, .inr ⟨dx, [(f, y)], upd_same, by rw [upd_ne h2]; exact upd_same, by simp, q dx h1 h2⟩⟩
theorem del_upd {H : Hp} {a d : Addr} {o1 o2 : HO} (ha : H a = none) (h : d ≠ a) (G : Hp) (hG : ∀ b, b ≠ a → b ≠ d → G b = H b) : upd (del G a) d o1 = upd H d o1 := by
  funext b
  by_cases e : b = d
  · rw [e, upd_same, upd_same]
  · rw [upd_ne e, upd_ne e]
    by_cases e2 : b = a
    · rw [e2, del_same, ha]
    · rw [del_ne e2, hG b e2 e]
end
section
variable {X : Cx} {W : WX} {c q : Str} {C fI : Addr} {fd : FuncData} {k : Nat} {f g x1 x2 x0 : Str} {p pos pos2 : Pos} {e e2 : Expr} {fs : ME (List D)}
theorem cs_raise1 (hc : X.calm = true) (tk : Takes X W) (gC : X.mg c = some (.ref C)) (T : OexC X.K C) (iC : PySem.W.findIn X.K (.ref C) "__init__" = some (some (.ref fI))) (tI : PySem.W.typeIn X.K (.ref fI) = some (.type "function"))
    (F : FnOk X.prog X.w X.K X.mg X.base (L2.CX X.prog X.w) 1 fI fd [x0, x1] (spI1 C f)) (hr : Room 2 X.A) (hb : Binds X.K fd [x0, x1] []) (hg : Gl X c) (ha : PA X [e] (Ta X.K X.mg W fs)) (hdb : (c == ("__debug__" : Str)) = false := by decide)
    (he : starEach [e] X.env = (false, eval e X.env) :: starEach [] X.env := by rfl) (hpl : (backTo pos (starEach [] X.env)).any (·.1) = false := by rfl) :
    PS X (.Raise (some (.Call (.Name c p) [e] [] pos)) none pos2) (Ts X.K X.mg W (sRaise c [f] fs)) :=
  PS.imp (ps_raise hc tk (pmk_oex (dvs := []) T iC tI F hr hb .nil (fun pins σ H s e s' I h => (cx_none h).elim) hg gC ha hdb he hpl)) fun Dn σ H h =>
    Ts.ofE (k := fun env (xs : List D) s => if xs.length = [f].length then RS.ex ⟨c, ([f].zip xs).reverse⟩ env s else .no) h fun m1 H1 env xs vs s1 r1 E1 p1 g1 => by
      split at g1
      · rename_i hl
        match xs, vs, p1, hl with
        | [x], [v], .cons pv .nil, _ =>
          refine ⟨by simp, fun a ha => ⟨a, v, rfl, upd_same, fun dx h1 h2 => ⟨rfl, dx, [(f, v)], upd_same, by rw [upd_ne h2]; exact upd_same, by rw [upd_ne h2] at h1; exact h1, ?_⟩⟩⟩
          have h1' : H1 dx = none := by rw [upd_ne h2] at h1; exact h1
          rw [del_upd (o2 := exo a C none) ha h2 _ fun b h3 h4 => by rw [upd_ne h3, upd_ne h4, upd_ne h3]]
          exact g1 m1 _ _ _ _ (le_new h1') (r1.tmp h1') (E1.mono (le_new h1')) ⟨gC, .inr ⟨dx, _, rfl, upd_same, r1.new_notin h1', .cons (pv.mono (le_new h1')) .nil⟩⟩
      · exact g1.elim
theorem cs_raise2 (hc : X.calm = true) (tk : Takes X W) (gC : X.mg c = some (.ref C)) (T : OexC X.K C) (iC : PySem.W.findIn X.K (.ref C) "__init__" = some (some (.ref fI))) (tI : PySem.W.typeIn X.K (.ref fI) = some (.type "function"))
    (F : FnOk X.prog X.w X.K X.mg X.base (L2.CX X.prog X.w) 1 fI fd [x0, x1, x2] (spI2 C f g)) (hr : Room 2 X.A) (hb : Binds X.K fd [x0, x1, x2] []) (hg : Gl X c) (ha : PA X [e, e2] (Ta X.K X.mg W fs)) (hdb : (c == ("__debug__" : Str)) = false := by decide)
    (he : starEach [e, e2] X.env = (false, eval e X.env) :: starEach [e2] X.env := by rfl) (hpl : (backTo pos (starEach [e2] X.env)).any (·.1) = false := by rfl) :
    PS X (.Raise (some (.Call (.Name c p) [e, e2] [] pos)) none pos2) (Ts X.K X.mg W (sRaise c [f, g] fs)) :=
  PS.imp (ps_raise hc tk (pmk_oex (dvs := []) T iC tI F hr hb .nil (fun pins σ H s e s' I h => (cx_none h).elim) hg gC ha hdb he hpl)) fun Dn σ H h =>
    Ts.ofE (k := fun env (xs : List D) s => if xs.length = [f, g].length then RS.ex ⟨c, ([f, g].zip xs).reverse⟩ env s else .no) h fun m1 H1 env xs vs s1 r1 E1 p1 g1 => by
      split at g1
      · rename_i hl
        match xs, vs, p1, hl with
        | [x, y], [v, z], .cons pv (.cons pz .nil), _ =>
          refine ⟨by simp, fun a ha => ⟨a, v, z, rfl, upd_same, fun dx h1 h2 => ⟨rfl, dx, [(g, z), (f, v)], by rw [upd_ne (Ne.symm h2)]; exact upd_same, upd_same, by rw [upd_ne h2] at h1; exact h1, ?_⟩⟩⟩
          have h1' : H1 dx = none := by rw [upd_ne h2] at h1; exact h1
          rw [del_upd (o2 := exo a C none) ha h2 _ fun b h3 h4 => by rw [upd_ne h4, upd_ne h3, upd_ne h4, upd_ne h3]]
          exact g1 m1 _ _ _ _ (le_new h1') (r1.tmp h1') (E1.mono (le_new h1')) ⟨gC, .inr ⟨dx, _, rfl, upd_same, r1.new_notin h1', .cons (pz.mono (le_new h1')) (.cons (pv.mono (le_new h1')) .nil)⟩⟩
      · exact g1.elim
end
/-! ### n.f of the exception that a suite holds -/
def eFld (g : Nat × Nat) (i : Nat) (f : Str) : ME D := fun env s => match env[i]? with
  | some (some (.exv a dd _ fs)) => if a = g.1 ∧ dd = g.2 then (match fs.lookup f with
    | some d => .ok d s
    | none => .no) else .no
  | _ => .no
theorem fld_lookup {K : PySem.W.Frag} {m : List Addr} {H : Hp} {f : Str} : ∀ {fs : List (Str × D)} {vfs : List (Str × V)} {d : D}, FldR K m H fs vfs → fs.lookup f = some d → ∃ v, vfs.lookup f = some v ∧ Rep K m H d v
  | _, _, _, .nil, e => by cases e
  | (h, x) :: fs, (_, v) :: vfs, d, .cons p r, e => by
    by_cases c : f = h
    · subst c
      simp [List.lookup] at e ⊢
      subst e
      exact p
    · have c' : (f == h) = false := by simpa using c
      simp only [List.lookup, c'] at e ⊢
      exact fld_lookup r e
section
variable {X : Cx} {W : WX} {a : Addr} {oe : Obj} {cls : Value} {d : Option Addr} {pn : List (Addr × Obj)} {pos p : Pos} {n f : Str} {i : Nat} {g : Nat × Nat}
theorem ce_fld (hX : ∃ C, cls = .ref C ∧ XfC X.K C ∧ PySem.W.findIn X.K (.ref C) f = some none) (hz : Zc cls d oe) (hf : ∃ vs, oe.data = .fields vs) (g1 : g.1 = a) (g2 : d = some g.2)
    (he : PE (X.suite a ((a, oe) :: pn)) (.Name n p) (tVar i)) (hb : attributeBase (.Name n p) f X.env (eval (.Name n p) X.env) = eval (.Name n p) X.env := by rfl) :
    PE (X.suite a ((a, oe) :: pn)) (.Attribute (.Name n p) f pos) (Te X.K X.mg W (eFld g i f)) := by
  obtain ⟨C, ec, T, hno⟩ := hX
  refine PE.imp (pe_xf T hno hz hf he hb) fun σ H Q ⟨m, env, s, r, E, q⟩ => ?_
  unfold eFld at q
  cases e1 : env[i]? with
  | none => rw [e1] at q; exact q.elim
  | some o =>
    cases o with
    | none => rw [e1] at q; exact q.elim
    | some x =>
      rw [e1] at q
      cases x with
      | exv a' dd c fs =>
        simp only at q
        split at q
        · rename_i hh
          obtain ⟨h1, h2⟩ := hh
          cases e2 : fs.lookup f with
          | none => rw [e2] at q; exact q.elim
          | some dv =>
            rw [e2] at q
            obtain ⟨v, hv, pr⟩ := E.2 i _ e1
            cases pr with
            | exv h n' rf =>
              obtain ⟨u, hu, pu⟩ := fld_lookup rf e2
              refine ⟨_, hv, by rw [h1, g1], ec, g.2, _, u, g2, by rw [← h2]; exact h, hu, ?_⟩
              exact G.now q r pu
        · exact q.elim
      | _ => exact q.elim
end
/-! ### try: body except x as n: suite -/
def clr (i : Nat) : RS → RS
  | .nx env s => .nx (env.set i none) s
  | .bk env s => .bk (env.set i none) s
  | .ct env s => .ct (env.set i none) s
  | .rt d s => .rt d s
  | .ex _ _ _ => .no
  | .no => .no
open Classical in
noncomputable def sTryAs (i : Nat) (cs : List Str) (body : MS) (suite : Nat × Nat → MS) : MS := fun env s => match body env s with
  | .ex e env2 s2 => if e.cls ∈ cs ∧ e.fs ≠ [] ∧ ∀ g : Nat × Nat, clr i (suite g (env2.set i (some (.exv g.1 g.2 e.cls e.fs))) s2) = clr i (suite (0, 0) (env2.set i (some (.exv 0 0 e.cls e.fs))) s2)
    then clr i (suite (0, 0) (env2.set i (some (.exv 0 0 e.cls e.fs))) s2) else .no
  | r => r
theorem relE_clr {K : PySem.W.Frag} {m : List Addr} {H : Hp} {env : Sl} {σ : L2.St} (E : RelE K m H env σ) (i : Nat) : RelE K m H (env.set i none) (σ.set i none) := by
  refine ⟨by simp [E.1], fun j d h => ?_⟩
  by_cases c : i = j
  · subst c
    rw [List.getElem?_set] at h
    by_cases q : i < env.length
    · rw [if_pos rfl, if_pos q] at h; cases h
    · rw [if_pos rfl, if_neg q] at h; cases h
  · rw [List.getElem?_set_ne c] at h ⊢
    exact E.2 j d h
theorem gs_clr {K : PySem.W.Frag} {mg : Str → Option Value} {W W2 : WX} {Dn : Ends} {m : List Addr} {H : Hp} {i : Nat} {r : RS} (h : GS K mg W Dn m H (clr i r)) :
    GS K mg W2 { nx := fun σ' H' => Dn.nx (σ'.set i none) H', rt := Dn.rt, bk := fun σ' H' => Dn.bk (σ'.set i none) H', ct := fun σ' H' => Dn.ct (σ'.set i none) H' } m H r := by
  cases r with
  | nx env s => exact fun m' σ' H' l r E => h m' _ H' l r (relE_clr E i)
  | bk env s => exact fun m' σ' H' l r E => h m' _ H' l r (relE_clr E i)
  | ct env s => exact fun m' σ' H' l r E => h m' _ H' l r (relE_clr E i)
  | rt d s => exact h
  | ex e env s => exact h.elim
  | no => exact h.elim
section
variable {X : Cx} {W : WX} {x n : Str} {c : Value} {i : Nat} {body suite : List Stmt} {b₀ : Stmt} {np pos pos' : Pos} {fb : MS} {fs : Nat × Nat → MS} {cs : List Str}
theorem cs_tryAs (hs : X.stack = X.env :: X.outer) (hf : X.env.frame = some X.env.locals) (hN : X.N.Nodup) (hi : X.N[i]? = some n) (hln : X.env.kindOf n = some .local) (hc : Names X x c) (tk : Takes X W)
    (hcs : ∀ k ∈ cs, ∀ cls, X.mg k = some cls → PySem.W.exmOne X.K cls c = some true)
    (hb : ∀ (W : WX) (pn : List (Addr × Obj)) (xe : Value → Shared → Prop), Takes (X.tr pn xe) W → PSs (X.tr pn xe) body (Ts X.K X.mg W fb))
    (hsu : ∀ (a : Addr) (oe : Obj) (cls : Value) (d : Option Addr) (pn : List (Addr × Obj)) (g : Nat × Nat) (k : Str), Zc cls d oe → (∃ vs, oe.data = .fields vs) → g.1 = a → d = some g.2 → k ∈ cs → X.mg k = some cls →
      PSs (X.suite a ((a, oe) :: pn)) (b₀ :: suite) (Ts X.K X.mg (fun _ _ _ _ => False) (fs g))) :
    PS X (.Try body [.ExceptHandler (some (.Name x np)) (some n) (b₀ :: suite) pos'] [] [] pos) (Ts X.K X.mg W (sTryAs i cs fb fs)) :=
  PS.imp (ps_try_as (i := i) (tb := fun W => Ts X.K X.mg W fb) (ts := fun a cls d => fun Dn σ H => ∃ (g : Nat × Nat) (k : Str), g.1 = a ∧ d = some g.2 ∧ k ∈ cs ∧ X.mg k = some cls ∧ Ts X.K X.mg (fun _ _ _ _ => False) (fs g) Dn σ H) (Wout := W) hs hf hN hi hln hc tk
    (fun W pn xe tk _ => hb W pn xe tk) (fun a oe cls d pn hz hf => ⟨fun pins s σ H Dn I ⟨g, k, h1, h2, h3, h4, h⟩ => (hsu a oe cls d pn g k hz hf h1 h2 h3 h4).run pins s σ H Dn I h⟩)) fun Dn σ H ⟨m, env, s, r, E, q⟩ => by
    refine ⟨m, env, s, r, E, ?_⟩
    unfold sTryAs at q
    cases e : fb env s with
    | ex ex env2 s2 =>
      rw [e] at q
      simp only at q
      split at q
      · rename_i hh
        obtain ⟨h1, h2, h3⟩ := hh
        intro m' σ' H' cv dd l r' E' xr
        obtain ⟨gk, hx⟩ := xr
        rcases hx with ⟨z, _⟩ | ⟨da, vfs, ed, hd, nd, rf⟩
        · exact (h2 z).elim
        · refine ⟨true, hcs _ h1 _ gk, fun _ a ha => ⟨(a, da), ex.cls, rfl, ed, h1, gk, m', _, s2, r', relE_set E' (.exv hd nd rf : Rep X.K m' H' (.exv a da ex.cls ex.fs) (.ref a)) i, ?_⟩, fun z => Bool.noConfusion z⟩
          rw [← h3 (a, da)] at q
          exact gs_clr (GS.mono l q)
      · exact q.elim
    | nx env2 s2 => rw [e] at q; exact q
    | rt d s2 => rw [e] at q; exact q
    | bk env2 s2 => rw [e] at q; exact q
    | ct env2 s2 => rw [e] at q; exact q
    | no => rw [e] at q; exact q.elim
end
/-! ### words for printed texts -/
def clsBody : Stmt → List Stmt
  | .ClassDef (body := b) .. => b
  | _ => []
section
variable {K : PySem.W.Frag} {mg : Str → Option Value} {c f k : Str} {C : Addr} {cls : Value}
theorem hcs1 (g : mg c = some (.ref C)) (te : PySem.W.exmOne K (.ref C) (.ref C) = some true) : ∀ k ∈ [c], ∀ cls, mg k = some cls → PySem.W.exmOne K cls (.ref C) = some true := fun k hk cls e => by
  rw [List.mem_singleton.mp hk, g] at e
  cases e
  exact te
theorem hxf1 (g : mg c = some (.ref C)) (xf : XfC K C) (no : PySem.W.findIn K (.ref C) f = some none) (h3 : k ∈ [c]) (h4 : mg k = some cls) : ∃ C, cls = .ref C ∧ XfC K C ∧ PySem.W.findIn K (.ref C) f = some none := by
  rw [List.mem_singleton.mp h3, g] at h4
  cases h4
  exact ⟨C, rfl, xf, no⟩
theorem exm_own (h1 : PySem.W.subIn K (.ref C) (.type "BaseException") = some true) (h2 : PySem.W.isClsIn K C = true) (h3 : PySem.W.typeIn K (.ref C) = some (.type "type")) (h4 : PySem.W.subIn K (.ref C) (.ref C) = some true) : PySem.W.exmOne K (.ref C) (.ref C) = some true := by
  have z1 : (PySem.W.subIn K (.ref C) (.type "BaseException") == some true) = true := by rw [h1] <;> rfl
  have z2 : (PySem.W.clsIn K C).isSome = true := h2
  have z3 : ((PySem.W.clsIn K C).isSome && PySem.W.typeIn K (.ref C) == some (.type "type")) = true := by rw [z2, h3] <;> rfl
  have q : (if (PySem.W.subIn K (.ref C) (.type "BaseException") == some true) = true then (if ((PySem.W.clsIn K C).isSome && PySem.W.typeIn K (.ref C) == some (.type "type")) = true then PySem.W.subIn K (.ref C) (.ref C) else none) else none) = some true := by
    rw [if_pos z1, if_pos z3, h4]
  exact q
end
end Mi
namespace Mi
open PySem PySem.Spec PyProof.Rows L2
/-! ### enumerate of a tuple -/
theorem enum_made {v : Value} {o : Obj} {Hh : Heap → Prop} (B : Begins v o Hh) :
    Meets (Builtin.«enumerate.__new__» ⟨[.type "enumerate", v], []⟩) (fun _ R s => Hh s.heap ∧
      R (.ok (.ret (.ref (s.heap.push o).objs.size))) { s with heap := (s.heap.push o).push { cls := .type "enumerate", data := .fields #[.none, .bool false, .ref s.heap.objs.size, rawInt 0, .none, .none] } }) :=
  .of_wp fun prog w A R s h => by
    obtain ⟨hp, g, d, tk, os⟩ := s
    obtain ⟨h1, h⟩ := h
    have hsub := sub_enumerate
    have it : ∀ {A' : Around} {E : Value → Shared → Prop} {Q : Value → Shared → Prop}, Q (.ref hp.objs.size) ⟨hp.push o, g, d, tk, os⟩ → wpAny (model prog w) A' (pyIter v) Q E ⟨hp, g, d, tk, os⟩ := fun q => B.iter prog w _ _ ⟨hp, g, d, tk, os⟩ _ h1 q
    wp_walk using it
    refine wpAny_stack_any fun st => wpAny_pure ?_
    split
    · rename_i c _ _ _ _ _
      cases (c == Value.type "enumerate")
      · wp_walk using it
        exact ⟨_, rfl, h⟩
      · wp_walk using it
        exact ⟨_, rfl, h⟩
    · wp_walk using it
      exact ⟨_, rfl, h⟩
section
variable {prog : Program} {w : World} {A : Around} {E : Value → Shared → Prop} {s : Shared}
theorem enum_call {v : Value} {o : Obj} {Hh : Heap → Prop} {R : Value → Shared → Prop} (B : Begins v o Hh) (h1 : Hh s.heap)
    (q : ∀ h', IsEnum h' (s.heap.objs.size + 1) s.heap.objs.size 0 .none → h'.get? s.heap.objs.size = some o → (∀ b o, s.heap.get? b = some o → h'.get? b = some o) → R (.ref (s.heap.objs.size + 1)) { s with heap := h' }) :
    wpAny (model prog w) A (call (.type "enumerate") [v]) R E s := by
  refine callType_new F.called_enumerate (by decide) (F.typeCall_enumerate_1 _) (F.newCall_enumerate_1 _) (fun obj => F.args_object_init_2 obj _) F.entry_enumerate_new (enum_made B) ⟨h1, ?_⟩
  have hz : (s.heap.push o).objs.size = s.heap.objs.size + 1 := Heap.size_push ..
  show _ ∧ _
  rw [hz]
  have he : IsEnum ((s.heap.push o).push { cls := .type "enumerate", data := .fields #[.none, .bool false, .ref s.heap.objs.size, rawInt 0, .none, .none] }) (s.heap.objs.size + 1) s.heap.objs.size 0 .none := by
    have := Heap.get?_push_size (s.heap.push o) (o := { cls := .type "enumerate", data := .fields #[.none, .bool false, .ref s.heap.objs.size, rawInt 0, .none, .none] }) rfl
    rw [hz] at this
    exact this
  exact ⟨⟨_, he, rfl⟩, q _ he (Heap.get?_push_of_some _ (Heap.get?_push_size _ B.free)) fun b o x => Heap.get?_push_of_some _ (Heap.get?_push_of_some _ x)⟩
end
def Itu (K : PySem.W.Frag) (a : Addr) : It :=
  ⟨fun i H => ∃ (xs : List V) (x : V), SqT K H a xs ∧ xs[i]? = some x, fun i H v H' => ∃ T x, v = .ref T ∧ H T = none ∧ H' = upd H T (.tup [.int (i : Nat), x]) ∧ ∀ xs, SqT K H a xs → xs[i]? = some x, fun i H => ∃ xs : List V, SqT K H a xs ∧ xs.length = i⟩
theorem turn_enumT {P : Program} {w : World} {K : PySem.W.Frag} {elts : List Expr} {kk : Nat} {tpos : Pos} (a e it : Addr) :
    Turn P w K (.Tuple elts kk tpos) (Itu K a) [e, it] e (fun i h => (∃ old, IsEnum h e it ((i : Nat) : Int) old) ∧ h.IsTupleIter it a i ∧ e ≠ it) where
  mem := by simp
  obj := fun i h st b hb => by
    obtain ⟨⟨old, he⟩, ⟨o, ho, hc, hd⟩, _⟩ := st
    rcases (by simpa using hb : b = e ∨ b = it) with z | z
    · rw [z]; exact ⟨_, he, fun v q => nomatch q⟩
    · rw [z]; exact ⟨o, ho, fun v q => by rw [hd] at q; cases q⟩
  keep := fun i h h' st k => let ⟨⟨old, he⟩, hi, hne⟩ := st; ⟨⟨old, k e (by simp) _ he⟩, hi.at fun o q => k it (by simp) o q, hne⟩
  item := by
    intro X hP hw hK hc i pins s σ H E I hf st hg
    subst hP hw hK
    obtain ⟨⟨old, he⟩, hit, hne⟩ := st
    obtain ⟨xs, x, hq, hx⟩ := hg
    obtain ⟨its, rv, p, hz⟩ := I.tuple hq
    obtain ⟨u, hu, ru⟩ := rv.get hx
    have hel : e < s.heap.objs.size := Heap.lt_size he
    have hil : it < s.heap.objs.size := by obtain ⟨_, q, _⟩ := hit; exact Heap.lt_size q
    have ait : a ≠ it := fun z => by
      obtain ⟨o1, q1, c1, _⟩ := p
      obtain ⟨o2, q2, c2, _⟩ := hit
      rw [z] at q1
      rw [q1] at q2
      cases q2
      rw [c1] at c2
      exact absurd (Value.type.inj c2) (by decide)
    have ea : e ≠ a := fun z => by
      obtain ⟨o1, q1, c1, _⟩ := p
      have he' := he
      unfold IsEnum at he'
      rw [z, q1] at he'
      cases he'
      exact absurd (Value.type.inj c1) (by decide)
    refine wpAny_pyNext_enum_itemD (Draws.tuple (A := X.A.in1) (I.ok.hd hc) it a ait its.toArray) he ⟨hit, p⟩ (by have := (List.getElem?_eq_some_iff.mp hu).1; simpa using this) hne (by simp [hne, ea]) fun x' h' tk hP ho hst' hT hsz hk => ?_
    have ex : x' = u := by
      have hP' : its.toArray[i]? = some x' := hP
      rw [List.getElem?_toArray, hu] at hP'
      cases hP'
      rfl
    subst ex
    refine ⟨_, rfl, wpAny_letOwnedTupleGo_enum (s := { s with heap := h', toks := tk + 1 }) ho fun h'' he' sb => ?_⟩
    have hT2 : h''.get? s.heap.objs.size = some { cls := .type "tuple", data := .seq #[.int i tk, x'] } := (sb.2 _ (Nat.ne_of_gt hel)).trans hT
    have new : ObjOk X.prog X.w (upd H s.heap.objs.size (.tup [.int (i : Nat), x])) h'' s.heap.objs.size (.tup [.int (i : Nat), x]) :=
      ⟨by show 2 ≤ sizeLine; decide, [.int i tk, x'], .cons ⟨_, rfl⟩ (.cons ru .nil), ⟨_, hT2, rfl, _, rfl⟩⟩
    have I1 : Inv X pins σ (upd H s.heap.objs.size (.tup [.int (i : Nat), x])) { s with heap := h'', toks := tk + 1 } :=
      I.turnedNew (ch := [e, it]) (fun b ob hb q => (sb.2 b (fun z => hb (by simp [z]))).trans (hk b ob (fun z => hb (by simp [z])) (fun z => hb (by simp [z])) q)) hf (Nat.le_refl _) new
    refine ⟨.ref s.heap.objs.size, _, I1, rfl, ⟨_, x, rfl, I.hok.fresh (Nat.le_refl _), rfl, fun ys hy => by rw [I.tuple_inj hy hq]; exact hx⟩, ⟨⟨x', ?_⟩, hst'.1.at fun o q => (sb.2 it (Ne.symm hne)).trans q, hne⟩, fun b hb => ?_⟩
    · have e1 : ((i + 1 : Nat) : Int) = (i : Int) + 1 := by omega
      rw [e1]; exact he'
    · have hb' : b < s.heap.objs.size := by
        rcases (by simpa using hb : b = e ∨ b = it) with z | z
        · rw [z]; exact hel
        · rw [z]; exact hil
      rw [upd_ne (Nat.ne_of_lt hb')]
      exact (hf b hb).1
  done := by
    intro X hP hw hK hc i pins s σ H E I hf st hg
    subst hP hw hK
    obtain ⟨⟨old, he⟩, hit, hne⟩ := st
    obtain ⟨xs, hq, hx⟩ := hg
    obtain ⟨its, rv, p, hz⟩ := I.tuple hq
    obtain ⟨f0, f1, f2, f3, f4, f5⟩ := hf it (by simp)
    have hl := rv.length
    have ait : a ≠ it := fun z => by
      obtain ⟨o1, q1, c1, _⟩ := p
      obtain ⟨o2, q2, c2, _⟩ := hit
      rw [z] at q1
      rw [q1] at q2
      cases q2
      rw [c1] at c2
      exact absurd (Value.type.inj c2) (by decide)
    have en : its.toArray.size = i := by rw [List.size_toArray]; omega
    exact wpAny_pyNext_enum_endD (Draws.tuple (A := X.A.in1) (I.ok.hd hc) it a ait its.toArray) he ⟨by rw [en]; exact hit, p⟩ fun h' eb => ⟨rfl, I.turned (t' := s.toks) (fun b o hb q => eb b o hb q) f0 f1 f3 f4 f5⟩
  self := fun A i s Q E st h => let ⟨⟨_, he⟩, _⟩ := st; wpAny_pyIter_enum he h
/-- enumerate(x), x a list or a tuple -/
def iEnumA (K : PySem.W.Frag) (ta : TA) : TI := fun σ H R => ta σ H fun vs H1 => ∃ a, vs = [.ref a] ∧ (((∃ xs, SqL K H1 a xs) ∧ R (Ite K a) H1) ∨ ((∃ xs, SqT K H1 a xs) ∧ R (Itu K a) H1))
theorem pi_enumA {X : Cx} {e : Expr} {ta : TA} {p pos tpos : Pos} {elts : List Expr} {kk : Nat} (hg : Gl X "enumerate") (hm : X.mg "enumerate" = none) (ha : PA X [e] ta) (hs : starEach [e] X.env = [(false, eval e X.env)] := by rfl) :
    PI X (.Tuple elts kk tpos) (.Call (.Name "enumerate" p) [e] [] pos) (iEnumA X.K ta) := by
  refine ⟨fun pins s σ H R I h => ?_⟩
  refine Call_ (ld_blt I hg hm boot_enumerate (PyProof.Rows.callWith_type1 (thn (ha.run pos pins s σ H _ I h) fun us s1 ⟨vs, H1, I1, r1, a, ex, q1⟩ => ?_) hs rfl))
  subst ex
  cases r1 with
  | cons r rr =>
    cases rr
    cases r
    have fp : ∀ b ∈ [s1.heap.objs.size + 1, s1.heap.objs.size], FpOk X pins H1 b := fun b hb => by
      have hle : s1.heap.objs.size ≤ b := by
        rcases (by simpa using hb : b = s1.heap.objs.size + 1 ∨ b = s1.heap.objs.size) with z | z
        · rw [z]; exact Nat.le_add_right _ _
        · rw [z]; exact Nat.le_refl _
      exact I1.fpOk hle (I1.hok.fresh hle)
    rcases q1 with ⟨⟨xs, hq⟩, q⟩ | ⟨⟨xs, hq⟩, q⟩
    · obtain ⟨its, rv, p', hz⟩ := I1.list hq
      refine call_enumerate_list p'.isList fun h' he hit hsz hk => wpAny_pyIter_enum he ?_
      exact ⟨s1.heap.objs.size + 1, [s1.heap.objs.size + 1, s1.heap.objs.size], _, _, H1, rfl, I1.kept (t' := s1.toks) hk, turn_enum a (s1.heap.objs.size + 1) s1.heap.objs.size, ⟨⟨.none, he⟩, hit, Nat.succ_ne_self _⟩, fp, q⟩
    · obtain ⟨its, rv, p', hz⟩ := I1.tuple hq
      refine enum_call (begins_tuple a its.toArray) p' fun h' he hit hk => wpAny_pyIter_enum he ?_
      exact ⟨s1.heap.objs.size + 1, [s1.heap.objs.size + 1, s1.heap.objs.size], _, _, H1, rfl, I1.kept (t' := s1.toks) hk, turn_enumT a (s1.heap.objs.size + 1) s1.heap.objs.size, ⟨⟨.none, he⟩, ⟨_, hit, rfl, rfl⟩, Nat.succ_ne_self _⟩, fp, q⟩
/-! ### its mirror -/
def enm (xs : List D) : List D := xs.mapIdx fun i x => .tup [.int (i : Nat), x]
theorem enm_len (xs : List D) : (enm xs).length = xs.length := by simp [enm]
theorem enm_get {xs : List D} {i : Nat} {d : D} (h : (enm xs)[i]? = some d) : ∃ x, xs[i]? = some x ∧ d = .tup [.int (i : Nat), x] := by
  unfold enm at h
  rw [List.getElem?_mapIdx] at h
  cases e : xs[i]? with
  | none => rw [e] at h; cases h
  | some x => rw [e] at h; cases h; exact ⟨x, rfl, rfl⟩
def iEnm (a : ME (List D)) : ME Itm := fun env s => (a env s).bind fun x s => match x with
  | [.tup xs] => .ok (Itm.mk (enm xs) always) s
  | [.fl xs] => .ok (Itm.mk (enm xs) always) s
  | [.loc l] => match s[l]? with
    | some (.lst xs) => .ok (Itm.mk (enm xs) (fun s2 => s2[l]? = some (.lst xs))) s
    | _ => .no
  | _ => .no
section
variable {K : PySem.W.Frag} {m : List Addr} {H : Hp}
theorem enm_turn {m2 : List Addr} {H2 H3 : Hp} {s2 : Store} {v : V} {i : Nat} {x : D} {xs : List D} {vs : List V} (r2 : Rel K m2 H2 s2) (h : Reps K m2 H2 xs vs) (e : xs[i]? = some x) {T : Addr} {y : V} (ev : v = .ref T) (hT : H2 T = none) (h3 : H3 = upd H2 T (.tup [.int (i : Nat), y])) (hy : vs[i]? = some y) :
    Le K m2 H2 m2 H3 ∧ Rel K m2 H3 s2 ∧ Rep K m2 H3 (.tup [.int (i : Nat), x]) v := by
  subst ev h3
  obtain ⟨w, hw, rw'⟩ := h.get e
  rw [hy] at hw
  cases hw
  exact ⟨le_new hT, r2.tmp hT, rep_newtup hT (.cons (.int _) (.cons rw' .nil))⟩
theorem itr_enumL {l : Nat} {xs : List D} {a : Addr} (h : m[l]? = some a) : ItR K m H ⟨enm xs, fun s2 => s2[l]? = some (.lst xs)⟩ (Ite K a) := fun m2 H2 s2 l2 r2 g => by
  have g' : s2[l]? = some (.lst xs) := g
  obtain ⟨vs, h1, h2⟩ := r2.list (l2.get h) g'
  have hq : SqL K H2 a vs := .inl (.inl h1)
  refine ⟨fun i d e => ?_, ⟨vs, hq, by rw [← h2.length]; exact Nat.le_of_eq (enm_len xs).symm⟩⟩
  obtain ⟨x, hx, rfl⟩ := enm_get e
  obtain ⟨v, hv, rv⟩ := h2.get hx
  refine ⟨⟨vs, v, hq, hv⟩, fun w H3 y => ?_⟩
  obtain ⟨T, z, ev, hT, h3, y⟩ := y
  exact enm_turn r2 h2 hx ev hT h3 (y vs hq)
theorem itr_enumF {xs : List D} {vs : List V} {a : Addr} (h : FrL K H a vs) (p : Reps K m H xs vs) : ItR K m H ⟨enm xs, always⟩ (Ite K a) := fun m2 H2 s2 l2 r2 g => by
  have hq : SqL K H2 a vs := (l2.frl a vs h).sq
  have h2 := p.mono l2
  refine ⟨fun i d e => ?_, ⟨vs, hq, by rw [← h2.length]; exact Nat.le_of_eq (enm_len xs).symm⟩⟩
  obtain ⟨x, hx, rfl⟩ := enm_get e
  obtain ⟨v, hv, rv⟩ := h2.get hx
  refine ⟨⟨vs, v, hq, hv⟩, fun w H3 y => ?_⟩
  obtain ⟨T, z, ev, hT, h3, y⟩ := y
  exact enm_turn r2 h2 hx ev hT h3 (y vs hq)
theorem itr_enumT {xs : List D} {vs : List V} {a : Addr} (h : SqT K H a vs) (p : Reps K m H xs vs) : ItR K m H ⟨enm xs, always⟩ (Itu K a) := fun m2 H2 s2 l2 r2 g => by
  have hq : SqT K H2 a vs := l2.tup a vs h
  have h2 := p.mono l2
  refine ⟨fun i d e => ?_, ⟨vs, hq, by rw [← h2.length]; exact (enm_len xs).symm⟩⟩
  obtain ⟨x, hx, rfl⟩ := enm_get e
  obtain ⟨v, hv, rv⟩ := h2.get hx
  refine ⟨⟨vs, v, hq, hv⟩, fun w H3 y => ?_⟩
  obtain ⟨T, z, ev, hT, h3, y⟩ := y
  exact enm_turn r2 h2 hx ev hT h3 (y vs hq)
end
section
variable {X : Cx} {W : WX} {e : Expr} {p pos tpos : Pos} {elts : List Expr} {kk : Nat} {fs : ME (List D)}
theorem ci_enum (hg : Gl X "enumerate") (hm : X.mg "enumerate" = none) (ha : PA X [e] (Ta X.K X.mg W fs)) (hs : starEach [e] X.env = [(false, eval e X.env)] := by rfl) :
    PI X (.Tuple elts kk tpos) (.Call (.Name "enumerate" p) [e] [] pos) (Ti X.K X.mg W (iEnm fs)) := PI.imp (pi_enumA hg hm ha hs) fun σ H Rw h =>
  Tm.bind (k := fun _ (x : List D) s => match x with
  | [.tup xs] => R.ok (Itm.mk (enm xs) always) s
  | [.fl xs] => R.ok (Itm.mk (enm xs) always) s
  | [.loc l] => match s[l]? with
    | some (.lst xs) => R.ok (Itm.mk (enm xs) (fun s2 => s2[l]? = some (.lst xs))) s
    | _ => R.no
  | _ => R.no) h fun m1 H1 env x vs s1 r1 E1 p1 g1 => by
    split at g1
    · obtain ⟨v, rfl, h1⟩ := reps1 p1
      obtain ⟨a, vs, rfl, hq, rr⟩ := h1.sqT
      exact ⟨a, rfl, .inr ⟨⟨vs, hq⟩, g1 m1 H1 _ .refl r1 (itr_enumT hq rr)⟩⟩
    · obtain ⟨v, rfl, h1⟩ := reps1 p1
      cases h1 with
      | fl hq rr => exact ⟨_, rfl, .inl ⟨⟨_, hq.sq⟩, g1 m1 H1 _ .refl r1 (itr_enumF hq rr)⟩⟩
    · obtain ⟨v, rfl, h1⟩ := reps1 p1
      cases h1 with
      | loc hl =>
        split at g1
        · rename_i q
          obtain ⟨vs, h1, h2⟩ := r1.list hl q
          exact ⟨_, rfl, .inl ⟨⟨vs, .inl (.inl h1)⟩, g1 m1 H1 _ .refl r1 (itr_enumL hl)⟩⟩
        · exact g1.elim
    · exact g1.elim
end
/-! ### all, any of a list of bools -/
def blsOf : List D → Option (List Bool)
  | [] => some []
  | .bl i :: r => (blsOf r).map fun x => i :: x
  | _ :: _ => none
theorem blsOf_map (bs : List Bool) : blsOf (bs.map D.bl) = some bs := by
  induction bs with
  | nil => rfl
  | cons n ns ih => simp [blsOf, ih]
theorem bls_reps {K : PySem.W.Frag} {m : List Addr} {H : Hp} : ∀ {ds : List D} {vs : List V} {bs : List Bool}, Reps K m H ds vs → blsOf ds = some bs → vs = bs.map V.bl
  | [], _, _, .nil, e => by cases e; rfl
  | d :: ds, _, bs, .cons p r, e => by
    cases d with
    | bl i =>
      unfold blsOf at e
      cases q : blsOf ds with
      | none => rw [q] at e; cases e
      | some x => rw [q] at e; cases e; cases p; rw [List.map_cons, bls_reps r q]
    | _ => cases e
def dAll : List D → Store → Option (D × Store)
  | [x], s => (lstOf s x).bind fun xs => (blsOf xs).map fun bs => (.bl (bs.all id), s)
  | _, _ => none
def dAny : List D → Store → Option (D × Store)
  | [x], s => (lstOf s x).bind fun xs => (blsOf xs).map fun bs => (.bl (bs.any id), s)
  | _, _ => none
section
variable {K : PySem.W.Frag}
theorem fns_all : FnS K (rAll K) dAll := by
  intro mg W σ m H s xs ds Q r p g
  unfold dAll at g
  split at g
  · obtain ⟨v, rfl, h⟩ := reps1 p
    rename_i x
    cases q : lstOf s x with
    | none => rw [q] at g; exact g.elim
    | some ys =>
      rw [q, Option.bind_some] at g
      cases q2 : blsOf ys with
      | none => rw [q2] at g; exact g.elim
      | some bs =>
        rw [q2] at g
        obtain ⟨a, vs, rfl, hq, rr⟩ := lstOf_sq r h q
        have e := bls_reps rr q2
        subst e
        exact ⟨a, bs, rfl, hq, G.now (d := D.bl (bs.all id)) g r (.bl _)⟩
  · exact g.elim
theorem fns_any : FnS K (rAny K) dAny := by
  intro mg W σ m H s xs ds Q r p g
  unfold dAny at g
  split at g
  · obtain ⟨v, rfl, h⟩ := reps1 p
    rename_i x
    cases q : lstOf s x with
    | none => rw [q] at g; exact g.elim
    | some ys =>
      rw [q, Option.bind_some] at g
      cases q2 : blsOf ys with
      | none => rw [q2] at g; exact g.elim
      | some bs =>
        rw [q2] at g
        obtain ⟨a, vs, rfl, hq, rr⟩ := lstOf_sq r h q
        have e := bls_reps rr q2
        subst e
        exact ⟨a, bs, rfl, hq, G.now (d := D.bl (bs.any id)) g r (.bl _)⟩
  · exact g.elim
end
end Mi
namespace Mi
open PySem PySem.Spec PyProof.Rows L2
/-! ### dicts with ints and texts as keys -/
def rIxDic : R2 := fun x y H Q => ∃ a v, x = .ref a ∧ DGet H a y (some v) ∧ Q v H
theorem ix_dic {X : Cx} (hu : X.A.units + 64 < cLine) : IxR X rIxDic := by
  intro value slice pins s σ H x y v u Q I rx ry h hs
  obtain ⟨a, z, rfl, g, q⟩ := h
  cases rx
  exact tail_any (ops := [.ref a, u]) (dict_typeIs I g) PySem.F.slot_dict_getitem.lookup (d_getItem (by omega) I g ry fun w' s' I' r' => ⟨z, H, I', r', q⟩) hs
theorem ix_any {X : Cx} (hu : X.A.units + 64 < cLine) : IxR X (fun x y H Q => rIx X.K x y H Q ∨ rIxDic x y H Q) := ix_seq.or (ix_dic hu)
def rSetDic : TSet := fun x y z H Q => ∃ a H', x = .ref a ∧ DPut H a y z H' ∧ Q H'
theorem set_dic {X : Cx} (hu : X.A.units + 64 < cLine) : PSet X rSetDic := by
  intro pins s σ H o i v ov iv u Q I ro ri rv h
  obtain ⟨a, H', rfl, g, q⟩ := h
  cases ro
  exact d_setItem (by omega) I g ri rv fun s' I' => ⟨H', I', q⟩
theorem pset_or {X : Cx} {t t' : TSet} (h : PSet X t) (h' : PSet X t') : PSet X (fun x y z H Q => t x y z H Q ∨ t' x y z H Q) := by
  intro pins s σ H o i v ov iv u Q I ro ri rv q
  rcases q with q | q
  · exact h pins s σ H o i v ov iv u Q I ro ri rv q
  · exact h' pins s σ H o i v ov iv u Q I ro ri rv q
theorem set_any {X : Cx} (hu : X.A.units + 64 < cLine) : PSet X (fun x y z H Q => rSetL x y z H Q ∨ rSetDic x y z H Q) := pset_or set_list (set_dic hu)
/-! ### mirrors -/
def keyOf : D → Option Key
  | .int i => some (.inl i)
  | .str z => some (.inr z)
  | _ => none
theorem keyOf_rep {K : PySem.W.Frag} {m : List Addr} {H : Hp} {d : D} {v : V} {k : Key} (p : Rep K m H d v) (e : keyOf d = some k) : v = kV k := by
  cases p <;> first | (cases e; done) | (cases e; rfl)
def getD {κ : Type} [DecidableEq κ] (ks : List (κ × D)) (k : κ) : Option D := (ks.find? fun kv => decide (kv.1 = k)).map (·.2)
def putD {κ : Type} [DecidableEq κ] (ks : List (κ × D)) (k : κ) (v : D) : List (κ × D) :=
  if (ks.any fun kv => decide (kv.1 = k)) = true then ks.map (fun kv => if kv.1 = k then (kv.1, v) else kv) else ks ++ [(k, v)]
def dicOf (s : Store) : D → Option (Nat × List (Key × D))
  | .loc l => match s[l]? with
    | some (.dic ks) => some (l, ks)
    | _ => none
  | _ => none
/-- keys that are tuples of ints and texts -/
def keysOf : List D → Option (List Key)
  | [] => some []
  | x :: xs => (keyOf x).bind fun k => (keysOf xs).map fun r => k :: r
def keyT : D → Option (List Key)
  | .tup xs => keysOf xs
  | _ => none
def dctOf (s : Store) : D → Option (Nat × List (List Key × D))
  | .loc l => match s[l]? with
    | some (.dct ks) => some (l, ks)
    | _ => none
  | _ => none
theorem keysOf_rep {K : PySem.W.Frag} {m : List Addr} {H : Hp} : ∀ {ds : List D} {vs : List V} {ks : List Key}, Reps K m H ds vs → keysOf ds = some ks → vs = ks.map kV
  | _, _, _, .nil, e => by cases e; rfl
  | x :: xs, _, ks, .cons p r, e => by
    unfold keysOf at e
    cases q : keyOf x with
    | none => rw [q] at e; cases e
    | some k =>
      rw [q, Option.bind_some] at e
      cases q2 : keysOf xs with
      | none => rw [q2] at e; cases e
      | some r2 =>
        rw [q2] at e
        cases e
        rw [keyOf_rep p q, keysOf_rep r q2]
        rfl
theorem keyT_rep {K : PySem.W.Frag} {m : List Addr} {H : Hp} {d : D} {v : V} {k : List Key} (p : Rep K m H d v) (e : keyT d = some k) : ∃ b, v = .ref b ∧ H b = some (.tup (k.map kV)) := by
  cases d with
  | tup xs =>
    obtain ⟨a, vs, rfl, h, r⟩ := p.trk
    rw [keysOf_rep r e] at h
    exact ⟨a, rfl, h⟩
  | _ => cases e
/-- x[i], x a dict or a sequence -/
def dIxA (x i : D) (s : Store) : Option (D × Store) := match dicOf s x with
  | some (_, ks) => (keyOf i).bind fun k => (getD ks k).map fun d => (d, s)
  | none => match dctOf s x with
    | some (_, ks) => (keyT i).bind fun k => (getD ks k).map fun d => (d, s)
    | none => dIx x i s
section
variable {K : PySem.W.Frag} {m : List Addr} {H : Hp} {s : Store}
section
variable {κ : Type} [DecidableEq κ]
theorem repk_get {k : κ} : ∀ {ks : List (κ × D)} {vs : List (κ × V)} {d : D}, RepK K m H ks vs → getD ks k = some d → ∃ v, valV vs k = some v ∧ Rep K m H d v
  | _, _, _, .nil, e => by cases e
  | (q, x) :: ks, (_, v) :: vs, d, .cons p r, e => by
    by_cases c : q = k
    · subst c
      refine ⟨v, valV_pos rfl, ?_⟩
      simp [getD, List.find?_cons] at e
      subst e
      exact p
    · rw [valV_neg c]
      refine repk_get r ?_
      simpa [getD, List.find?_cons, c] using e
theorem repk_any {k : κ} : ∀ {ks : List (κ × D)} {vs : List (κ × V)}, RepK K m H ks vs → (ks.any fun kv => decide (kv.1 = k)) = (vs.any fun kv => decide (kv.1 = k))
  | _, _, .nil => rfl
  | (q, x) :: ks, (_, v) :: vs, .cons p r => by simp [repk_any r]
theorem repk_map {k : κ} {y : D} {w : V} (p : Rep K m H y w) : ∀ {ks : List (κ × D)} {vs : List (κ × V)}, RepK K m H ks vs → RepK K m H (ks.map fun kv => if kv.1 = k then (kv.1, y) else kv) (vs.map fun kv => if kv.1 = k then (kv.1, w) else kv)
  | _, _, .nil => .nil
  | (q, x) :: ks, (_, v) :: vs, .cons h r => by
    by_cases c : q = k
    · simp only [List.map_cons, c, if_true]
      exact .cons p (repk_map p r)
    · simp only [List.map_cons, c, if_false]
      exact .cons h (repk_map p r)
theorem repk_app {ks : List (κ × D)} {vs : List (κ × V)} {k : κ} {y : D} {w : V} (h : RepK K m H ks vs) (p : Rep K m H y w) : RepK K m H (ks ++ [(k, y)]) (vs ++ [(k, w)]) := by
  induction ks generalizing vs with
  | nil => cases h; exact .cons p .nil
  | cons a ks ih => cases h with | cons q r => exact .cons q (ih r)
theorem repk_put {ks : List (κ × D)} {vs : List (κ × V)} {k : κ} {y : D} {w : V} (h : RepK K m H ks vs) (p : Rep K m H y w) : RepK K m H (putD ks k y) (putK vs k w) := by
  unfold putD putK
  rw [repk_any h]
  split
  · exact repk_map p h
  · exact repk_app h p
theorem repk_len : ∀ {ks : List (κ × D)} {vs : List (κ × V)}, RepK K m H ks vs → ks.length = vs.length
  | _, _, .nil => rfl
  | _, _, .cons _ r => by simp [repk_len r]
end
theorem dicOf_at (r : Rel K m H s) {d : D} {v : V} {l : Nat} {ks : List (Key × D)} (p : Rep K m H d v) (e : dicOf s d = some (l, ks)) : ∃ a vs, d = .loc l ∧ v = .ref a ∧ m[l]? = some a ∧ H a = some (.dK vs) ∧ RepK K m H ks vs := by
  cases p with
  | @loc l' a h =>
    unfold dicOf at e
    cases q : s[l']? with
    | none => simp [q] at e
    | some c =>
      cases c with
      | lst _ => simp [q] at e
      | dct _ => simp [q] at e
      | dic ks' =>
        simp only [q] at e
        cases e
        obtain ⟨ws, h1, h2⟩ := r.at_ _ a _ h q
        exact ⟨a, ws, rfl, rfl, h, h1, h2⟩
  | _ => cases e
theorem dctOf_at (r : Rel K m H s) {d : D} {v : V} {l : Nat} {ks : List (List Key × D)} (p : Rep K m H d v) (e : dctOf s d = some (l, ks)) : ∃ a vs, d = .loc l ∧ v = .ref a ∧ m[l]? = some a ∧ H a = some (.dT vs) ∧ RepK K m H ks vs := by
  cases p with
  | @loc l' a h =>
    unfold dctOf at e
    cases q : s[l']? with
    | none => simp [q] at e
    | some c =>
      cases c with
      | lst _ => simp [q] at e
      | dic _ => simp [q] at e
      | dct ks' =>
        simp only [q] at e
        cases e
        obtain ⟨ws, h1, h2⟩ := r.at_ _ a _ h q
        exact ⟨a, ws, rfl, rfl, h, h1, h2⟩
  | _ => cases e
theorem ops_ixA : OpS K (fun x y H Q => rIx K x y H Q ∨ rIxDic x y H Q) dIxA := by
  intro mg W σ m H s x y dx dy Q r px py g
  unfold dIxA at g
  cases e : dicOf s dx with
  | none =>
    rw [e] at g
    simp only at g
    cases e0 : dctOf s dx with
    | none => rw [e0] at g; exact .inl (ops_ix r px py g)
    | some o =>
      obtain ⟨l, ks⟩ := o
      rw [e0] at g
      simp only at g
      cases e1 : keyT dy with
      | none => rw [e1] at g; exact g.elim
      | some k =>
        rw [e1, Option.bind_some] at g
        cases e2 : getD ks k with
        | none => rw [e2] at g; exact g.elim
        | some d =>
          rw [e2] at g
          obtain ⟨a, vs, _, rfl, _, h1, h2⟩ := dctOf_at r px e0
          obtain ⟨v, hv, pv⟩ := repk_get h2 e2
          obtain ⟨b, rfl, hb⟩ := keyT_rep py e1
          exact .inr ⟨a, v, rfl, hv ▸ DGet.t h1 hb, G.now (d := d) g r pv⟩
  | some o =>
    obtain ⟨l, ks⟩ := o
    rw [e] at g
    simp only at g
    cases e1 : keyOf dy with
    | none => rw [e1] at g; exact g.elim
    | some k =>
      rw [e1, Option.bind_some] at g
      cases e2 : getD ks k with
      | none => rw [e2] at g; exact g.elim
      | some d =>
        rw [e2] at g
        obtain ⟨a, vs, _, rfl, _, h1, h2⟩ := dicOf_at r px e
        obtain ⟨v, hv, pv⟩ := repk_get h2 e2
        rw [keyOf_rep py e1]
        exact .inr ⟨a, v, rfl, hv ▸ DGet.k h1, G.now (d := d) g r pv⟩
open Classical in
/-- o[i] = e, o a dict or a list -/
noncomputable def pAny (x y z : D) (s : Store) : Option Store := match dicOf s x with
  | some (l, ks) => (keyOf y).bind fun k => if ks.length < sizeLine then some (s.set l (.dic (putD ks k z))) else none
  | none => match dctOf s x with
    | some (l, ks) => (keyT y).bind fun k => if ks.length < sizeLine then some (s.set l (.dct (putD ks k z))) else none
    | none => pList x y z s
theorem puts_any : PutS K (fun x y z H Q => rSetL x y z H Q ∨ rSetDic x y z H Q) pAny := by
  intro m H s s' x y z dx dy dz Q r px py pz e q
  unfold pAny at e
  cases e0 : dicOf s dx with
  | none =>
    rw [e0] at e
    simp only at e
    cases e3 : dctOf s dx with
    | none => rw [e3] at e; exact .inl (puts_list r px py pz e q)
    | some o =>
      obtain ⟨l, ks⟩ := o
      rw [e3] at e
      simp only at e
      cases e1 : keyT dy with
      | none => rw [e1] at e; cases e
      | some k =>
        rw [e1, Option.bind_some] at e
        split at e
        · rename_i hz
          cases e
          obtain ⟨a, vs, rfl, rfl, hl, h1, h2⟩ := dctOf_at r px e3
          obtain ⟨b, rfl, hb⟩ := keyT_rep py e1
          have le := le_put (o := .dT (putK vs k z)) r (List.mem_of_getElem? hl)
          refine .inr ⟨a, _, rfl, DPut.t h1 hb (by rw [← repk_len h2]; exact hz), q _ le (r.put hl ⟨_, upd_same, ?_⟩)⟩
          have h3 := repk_put (k := k) h2 pz
          exact h3.mono le
        · cases e
  | some o =>
    obtain ⟨l, ks⟩ := o
    rw [e0] at e
    simp only at e
    cases e1 : keyOf dy with
    | none => rw [e1] at e; cases e
    | some k =>
      rw [e1, Option.bind_some] at e
      split at e
      · rename_i hz
        cases e
        obtain ⟨a, vs, rfl, rfl, hl, h1, h2⟩ := dicOf_at r px e0
        rw [keyOf_rep py e1]
        have le := le_put (o := .dK (putK vs k z)) r (List.mem_of_getElem? hl)
        refine .inr ⟨a, _, rfl, DPut.k h1 (by rw [← repk_len h2]; exact hz), q _ le (r.put hl ⟨_, upd_same, ?_⟩)⟩
        have h3 := repk_put (k := k) h2 pz
        exact h3.mono le
      · cases e
end
/-- {} -/
def eDict0 : ME D := fun _ s => .ok (.loc s.length) (s ++ [.dic []])
def eDict0T : ME D := fun _ s => .ok (.loc s.length) (s ++ [.dct []])
section
variable {X : Cx} {W : WX} {pos : Pos}
theorem ce_dict0T : PE X (.Dict [] [] pos) (Te X.K X.mg W eDict0T) := PE.imp pe_dnewT fun σ H Q ⟨m, env, s, r, E, g⟩ p hp =>
  g (m ++ [p]) _ _ (le_more r hp) (r.new hp ⟨[], upd_same, .nil⟩) (.loc (len_get r))
theorem ce_dict0 : PE X (.Dict [] [] pos) (Te X.K X.mg W eDict0) := PE.imp pe_dnewK fun σ H Q ⟨m, env, s, r, E, g⟩ p hp =>
  g (m ++ [p]) _ _ (le_more r hp) (r.new hp ⟨[], upd_same, .nil⟩) (.loc (len_get r))
end
end Mi
namespace Mi
open PySem PySem.Spec PyProof.Rows L2
/-! ### equations for simp -/
@[simp] theorem dIxA_tup (xs : List D) (i : D) (s : Store) : dIxA (.tup xs) i s = dIx (.tup xs) i s := rfl
@[simp] theorem dIxA_str (z : Str) (i : D) (s : Store) : dIxA (.str z) i s = dIx (.str z) i s := rfl
theorem dIxA_loc {s : Store} {l : Nat} {xs : List D} (h : s[l]? = some (.lst xs)) (i : Int) : dIxA (.loc l) (.int i) s = (L2.atI xs i).map fun d => (d, s) := by
  have e : dicOf s (.loc l) = none := by simp [dicOf, h]
  have e2 : dctOf s (.loc l) = none := by simp [dctOf, h]
  unfold dIxA
  rw [e]
  simp only
  rw [e2]
  exact dIx_loc h i
theorem dIxA_dct {s : Store} {l : Nat} {ks : List (List Key × D)} (h : s[l]? = some (.dct ks)) {i d : D} {k : List Key} (hk : keyT i = some k) (hd : getD ks k = some d) : dIxA (.loc l) i s = some (d, s) := by
  have e : dicOf s (.loc l) = none := by simp [dicOf, h]
  have e2 : dctOf s (.loc l) = some (l, ks) := by simp [dctOf, h]
  unfold dIxA
  rw [e]
  simp only
  rw [e2]
  simp [hk, hd]
theorem pAny_dct {s : Store} {l : Nat} {ks : List (List Key × D)} (h : s[l]? = some (.dct ks)) {i : D} {k : List Key} (hk : keyT i = some k) (hz : ks.length ≤ 1000000) (z : D) : pAny (.loc l) i z s = some (s.set l (.dct (putD ks k z))) := by
  have e : dicOf s (.loc l) = none := by simp [dicOf, h]
  have e2 : dctOf s (.loc l) = some (l, ks) := by simp [dctOf, h]
  have q : ks.length < sizeLine := by rw [sizeLine_eq]; omega
  unfold pAny
  rw [e]
  simp only
  rw [e2]
  simp only [hk, Option.bind_some, if_pos q]
@[simp] theorem eDict0T_eq (env : Sl) (s : Store) : eDict0T env s = .ok (.loc s.length) (s ++ [.dct []]) := rfl
theorem dIxA_dic {s : Store} {l : Nat} {ks : List (Key × D)} (h : s[l]? = some (.dic ks)) {i d : D} {k : Key} (hk : keyOf i = some k) (hd : getD ks k = some d) : dIxA (.loc l) i s = some (d, s) := by
  have e : dicOf s (.loc l) = some (l, ks) := by simp [dicOf, h]
  unfold dIxA
  rw [e]
  simp [hk, hd]
theorem pAny_loc {s : Store} {l : Nat} {xs : List D} (h : s[l]? = some (.lst xs)) (i z : D) : pAny (.loc l) i z s = pList (.loc l) i z s := by
  have e : dicOf s (.loc l) = none := by simp [dicOf, h]
  have e2 : dctOf s (.loc l) = none := by simp [dctOf, h]
  unfold pAny
  rw [e]
  simp only
  rw [e2]
theorem pAny_dic {s : Store} {l : Nat} {ks : List (Key × D)} (h : s[l]? = some (.dic ks)) {i : D} {k : Key} (hk : keyOf i = some k) (hz : ks.length ≤ 1000000) (z : D) : pAny (.loc l) i z s = some (s.set l (.dic (putD ks k z))) := by
  have e : dicOf s (.loc l) = some (l, ks) := by simp [dicOf, h]
  have q : ks.length < sizeLine := by rw [sizeLine_eq]; omega
  unfold pAny
  rw [e]
  simp only [hk, Option.bind_some, if_pos q]
@[simp] theorem eDict0_eq (env : Sl) (s : Store) : eDict0 env s = .ok (.loc s.length) (s ++ [.dic []]) := rfl
@[simp] theorem iEnm_eq (a : ME (List D)) (env : Sl) (s : Store) : iEnm a env s = (a env s).bind fun x s => match x with
  | [.tup xs] => .ok (Itm.mk (enm xs) always) s
  | [.fl xs] => .ok (Itm.mk (enm xs) always) s
  | [.loc l] => match s[l]? with
    | some (.lst xs) => .ok (Itm.mk (enm xs) (fun s2 => s2[l]? = some (.lst xs))) s
    | _ => .no
  | _ => .no := rfl
@[simp] theorem sRaise_eq (c : Str) (ns : List Str) (a : ME (List D)) (env : Sl) (s : Store) : sRaise c ns a env s = (a env s).then env fun xs s => if xs.length = ns.length then .ex ⟨c, (ns.zip xs).reverse⟩ env s else .no := rfl
theorem dAll_loc {s : Store} {l : Nat} {bs : List Bool} (h : s[l]? = some (.lst (bs.map D.bl))) : dAll [.loc l] s = some (.bl (bs.all id), s) := by simp [dAll, lstOf, h, blsOf_map]
theorem putD_get {κ : Type} [DecidableEq κ] (ks : List (κ × D)) (k : κ) (z : D) : getD (putD ks k z) k = some z := by
  unfold putD getD
  by_cases c : (ks.any fun kv => decide (kv.1 = k)) = true
  · rw [if_pos c]
    induction ks with
    | nil => simp at c
    | cons p ks ih =>
      by_cases q : p.1 = k
      · simp [q]
      · have c' : (ks.any fun kv => decide (kv.1 = k)) = true := by simpa [q] using c
        simpa [List.find?_cons, q] using ih c'
  · rw [if_neg c, List.find?_append]
    have n : ks.find? (fun kv => decide (kv.1 = k)) = none := List.find?_eq_none.mpr fun x hx h => c (List.any_eq_true.mpr ⟨x, hx, h⟩)
    rw [n]
    simp
theorem putD_other {κ : Type} [DecidableEq κ] {k k' : κ} (ne : k' ≠ k) (ks : List (κ × D)) (z : D) : getD (putD ks k z) k' = getD ks k' := by
  unfold putD getD
  by_cases c : (ks.any fun kv => decide (kv.1 = k)) = true
  · rw [if_pos c]
    clear c
    induction ks with
    | nil => rfl
    | cons p ks ih =>
      by_cases q : p.1 = k
      · have n : ¬ p.1 = k' := fun e => ne (e.symm.trans q)
        have n2 : ¬ k = k' := fun e => ne e.symm
        simpa [List.find?_cons, q, n, n2] using ih
      · by_cases q2 : p.1 = k'
        · simp [List.find?_cons, q, q2, ne]
        · simpa [List.find?_cons, q, q2] using ih
  · rw [if_neg c, List.find?_append]
    have n : ¬ k = k' := fun e => ne e.symm
    simp [n]
theorem putD_len {κ : Type} [DecidableEq κ] (ks : List (κ × D)) (k : κ) (z : D) : (putD ks k z).length ≤ ks.length + 1 := by
  unfold putD
  split <;> simp
end Mi
namespace Mi
open PySem PySem.Spec PyProof.Rows L2
/-! ### in, not in -/
theorem un65 {k : Nat} {A : Around} (r : Room k A) : A.units + 65 < cLine := by have := r.un; omega
def flatD : D → Bool
  | .non => true
  | .bl _ => true
  | .int _ => true
  | .str _ => true
  | _ => false
def eqD : D → D → Bool
  | .non, .non => true
  | .bl a, .bl b => a == b
  | .bl a, .int b => (if a then 1 else 0) == b
  | .int a, .bl b => a == (if b then 1 else 0)
  | .int a, .int b => a == b
  | .str a, .str b => a == b
  | _, _ => false
def inFlat (x : D) (xs : List D) : Option Bool := if flatD x = true ∧ xs.all flatD = true then some (xs.any fun z => eqD z x) else none
def inDeep (x y : D) (s : Store) : Option Bool := (py1 s x).bind fun a => (py1 s y).bind fun b => match b with
  | .list ds => if (SeqAt.shaped a && SeqAt.shaped (.list ds)) = true then some (ds.any fun z => PyData.eqv z a) else none
  | _ => none
/-- x in y -/
def dInB (x y : D) (s : Store) : Option Bool := match dicOf s y with
  | some (_, ks) => (keyOf x).map fun k => (getD ks k).isSome
  | none => match dctOf s y with
    | some (_, ks) => (keyT x).map fun k => (getD ks k).isSome
    | none => match y, x with
      | .str b, .str a => some (!(Builtin.Str.occurrences b a 0 b.length 1).isEmpty)
      | y, x => match (seqOf s y).bind (inFlat x) with
        | some c => some c
        | none => inDeep x y s
def dIn (x y : D) (s : Store) : Option (D × Store) := (dInB x y s).map fun b => (.bl b, s)
def dNotIn (x y : D) (s : Store) : Option (D × Store) := (dInB x y s).map fun b => (.bl !b, s)
def rDin : R2 := fun y x H Q => ∃ a o, x = .ref a ∧ DGet H a y o ∧ Q (.bl o.isSome) H
def rDnotin : R2 := fun y x H Q => ∃ a o, x = .ref a ∧ DGet H a y o ∧ Q (.bl (!o.isSome)) H
def rSin : R2 := fun x y H Q => ∃ i j, x = .str i ∧ y = .str j ∧ Q (.bl (!(Builtin.Str.occurrences j i 0 j.length 1).isEmpty)) H
def rSnotin : R2 := fun x y H Q => ∃ i j, x = .str i ∧ y = .str j ∧ Q (.bl (!(!(Builtin.Str.occurrences j i 0 j.length 1).isEmpty))) H
theorem op_din {X : Cx} (hu : X.A.units + 65 < cLine) : OpR X (compareOp .In) rDin := by
  intro pins s σ H x y v u Q I rx ry h
  obtain ⟨a, o, rfl, g, q⟩ := h
  cases ry
  exact d_in (by omega) I g rx fun s' I' => ⟨.bl o.isSome, H, I', rfl, q⟩
theorem op_dnotin {X : Cx} (hu : X.A.units + 65 < cLine) : OpR X (compareOp .NotIn) rDnotin := by
  intro pins s σ H x y v u Q I rx ry h
  obtain ⟨a, o, rfl, g, q⟩ := h
  cases ry
  exact d_notIn (by omega) I g rx fun s' I' => ⟨.bl (!o.isSome), H, I', rfl, q⟩
def rInA (K : PySem.W.Frag) : R2 := fun x y H Q => rIn K false x y H Q ∨ rDin x y H Q ∨ rSin x y H Q ∨ rInD K x y H Q
def rNotInA (K : PySem.W.Frag) : R2 := fun x y H Q => rIn K true x y H Q ∨ rDnotin x y H Q ∨ rSnotin x y H Q ∨ rNotInD K x y H Q
theorem opA_in {X : Cx} (hu : X.A.units + 65 < cLine) : OpR X (compareOp .In) (rInA X.K) := op_in_seq.or ((op_din hu).or (op_in_str.or (op_inD hu)))
theorem opA_notin {X : Cx} (hu : X.A.units + 65 < cLine) : OpR X (compareOp .NotIn) (rNotInA X.K) := op_notIn_seq.or ((op_dnotin hu).or (op_notin_str.or (op_notInD hu)))
section
variable {K : PySem.W.Frag} {m : List Addr} {H : Hp} {s : Store}
theorem flat_rep {d : D} {v : V} (p : Rep K m H d v) (h : flatD d = true) : flatV v = true := by
  cases p <;> first | rfl | cases h
theorem eqD_rep {d e : D} {v w : V} (p : Rep K m H d v) (q : Rep K m H e w) (h : flatD d = true) (h2 : flatD e = true) : eqV v w = eqD d e := by
  cases p <;> first | (cases h; done) | (cases q <;> first | (cases h2; done) | rfl)
theorem flat_reps : ∀ {xs : List D} {vs : List V}, Reps K m H xs vs → xs.all flatD = true → vs.all flatV = true
  | _, _, .nil, _ => rfl
  | _, _, .cons h r, e => by
    rw [List.all_cons, Bool.and_eq_true] at e
    rw [List.all_cons, Bool.and_eq_true]
    exact ⟨flat_rep h e.1, flat_reps r e.2⟩
theorem in_reps {x : D} {w : V} (p : Rep K m H x w) (hx : flatD x = true) : ∀ {xs : List D} {vs : List V}, Reps K m H xs vs → xs.all flatD = true → inV w vs = xs.any fun z => eqD z x
  | _, _, .nil, _ => rfl
  | _, _, .cons h r, e => by
    rw [List.all_cons, Bool.and_eq_true] at e
    rw [List.any_cons, ← in_reps p hx r e.2, ← eqD_rep h p e.1 hx]
    rfl
theorem repk_some {κ : Type} [DecidableEq κ] {k : κ} : ∀ {ks : List (κ × D)} {vs : List (κ × V)}, RepK K m H ks vs → (valV vs k).isSome = (getD ks k).isSome
  | _, _, .nil => rfl
  | (q, x) :: ks, (_, v) :: vs, .cons p r => by
    by_cases c : q = k
    · subst c
      rw [valV_pos rfl]
      simp [getD, List.find?_cons]
    · rw [valV_neg c, repk_some r]
      simp [getD, List.find?_cons, c]
theorem inB_cases (r : Rel K m H s) {dx dy : D} {x y : V} {b : Bool} (px : Rep K m H dx x) (py : Rep K m H dy y) (e : dInB dx dy s = some b) :
    (∃ p xs, y = .ref p ∧ (SqL K H p xs ∨ SqT K H p xs) ∧ flatV x = true ∧ xs.all flatV = true ∧ inV x xs = b) ∨ (∃ a o, y = .ref a ∧ DGet H a x o ∧ o.isSome = b) ∨
      (∃ i j, x = .str i ∧ y = .str j ∧ (!(Builtin.Str.occurrences j i 0 j.length 1).isEmpty) = b) ∨ ∃ d ds, Dp K H x d ∧ Dp K H y (.list ds) ∧ SeqAt.shaped d = true ∧ SeqAt.shaped (.list ds) = true ∧ (ds.any fun z => PyData.eqv z d) = b := by
  unfold dInB at e
  cases e0 : dicOf s dy with
  | some o =>
    obtain ⟨l, ks⟩ := o
    rw [e0] at e
    simp only at e
    cases e1 : keyOf dx with
    | none => rw [e1] at e; cases e
    | some k =>
      rw [e1] at e
      cases e
      obtain ⟨a, vs, _, rfl, _, h1, h2⟩ := dicOf_at r py e0
      rw [keyOf_rep px e1]
      exact .inr (.inl ⟨a, valV vs k, rfl, DGet.k h1, repk_some h2⟩)
  | none =>
    rw [e0] at e
    simp only at e
    cases e9 : dctOf s dy with
    | some o =>
      obtain ⟨l, ks⟩ := o
      rw [e9] at e
      simp only at e
      cases e1 : keyT dx with
      | none => rw [e1] at e; cases e
      | some k =>
        rw [e1] at e
        cases e
        obtain ⟨a, vs, _, rfl, _, h1, h2⟩ := dctOf_at r py e9
        obtain ⟨b, rfl, hb⟩ := keyT_rep px e1
        exact .inr (.inl ⟨a, valV vs k, rfl, DGet.t h1 hb, repk_some h2⟩)
    | none =>
     rw [e9] at e
     simp only at e
     split at e
     · cases px; cases py
       cases e
       exact .inr (.inr (.inl ⟨_, _, rfl, rfl, rfl⟩))
     · split at e
       · rename_i c hc
         cases e
         cases e2 : seqOf s dy with
         | none => rw [e2] at hc; cases hc
         | some xs =>
           rw [e2, Option.bind_some] at hc
           unfold inFlat at hc
           split at hc
           · rename_i hf
             cases hc
             obtain ⟨a, vs, rfl, h1, h2⟩ := seqOf_sq r py e2
             exact .inl ⟨a, vs, rfl, h1, flat_rep px hf.1, flat_reps h2 hf.2, in_reps px hf.1 h2 hf.2⟩
           · cases hc
       · unfold inDeep at e
         cases q1 : py1 s dx with
         | none => rw [q1] at e; cases e
         | some a =>
           cases q2 : py1 s dy with
           | none => rw [q1, q2] at e; cases e
           | some c =>
             rw [q1, q2] at e
             simp only [Option.bind_some] at e
             split at e
             · rename_i ds
               split at e
               · rename_i hs
                 rw [Bool.and_eq_true] at hs
                 cases e
                 exact .inr (.inr (.inr ⟨a, ds, py1_dp r px q1, py1_dp r py q2, hs.1, hs.2, rfl⟩))
               · cases e
             · cases e
theorem ops_in : OpS K (rInA K) dIn := by
  intro mg W σ m H s x y dx dy Q r px py g
  unfold dIn at g
  cases e : dInB dx dy s with
  | none => rw [e] at g; exact g.elim
  | some b =>
    rw [e] at g
    have q := g.now r (.bl b)
    rcases inB_cases r px py e with ⟨p, xs, h1, h2, h3, h4, h5⟩ | ⟨a, o, h1, h2, h3⟩ | ⟨i, j, h1, h2, h3⟩ | ⟨d, ds, h1, h2, h3, h4, h5⟩
    · exact .inl ⟨p, xs, h1, h2, h3, h4, by subst h5; exact q⟩
    · exact .inr (.inl ⟨a, o, h1, h2, by subst h3; exact q⟩)
    · exact .inr (.inr (.inl ⟨i, j, h1, h2, by subst h3; exact q⟩))
    · exact .inr (.inr (.inr ⟨d, ds, h1, h2, h3, h4, by subst h5; exact q⟩))
theorem ops_notin : OpS K (rNotInA K) dNotIn := by
  intro mg W σ m H s x y dx dy Q r px py g
  unfold dNotIn at g
  cases e : dInB dx dy s with
  | none => rw [e] at g; exact g.elim
  | some b =>
    rw [e] at g
    have q := g.now r (.bl (!b))
    rcases inB_cases r px py e with ⟨p, xs, h1, h2, h3, h4, h5⟩ | ⟨a, o, h1, h2, h3⟩ | ⟨i, j, h1, h2, h3⟩ | ⟨d, ds, h1, h2, h3, h4, h5⟩
    · exact .inl ⟨p, xs, h1, h2, h3, h4, by subst h5; exact q⟩
    · exact .inr (.inl ⟨a, o, h1, h2, by subst h3; exact q⟩)
    · exact .inr (.inr (.inl ⟨i, j, h1, h2, by subst h3; exact q⟩))
    · exact .inr (.inr (.inr ⟨d, ds, h1, h2, h3, h4, by subst h5; exact q⟩))
/-! ### str(i), str(z) -/
noncomputable instance (i : Int) : Decidable (i.natAbs.log2 < 1920) := Classical.propDecidable _
noncomputable def dStr : List D → Store → Option (D × Store)
  | [.int i], s => if i.natAbs.log2 < 1920 then some (.str (toString i), s) else none
  | [.str z], s => some (.str z, s)
  | _, _ => none
def rStr : List V → Hp → VK → Prop := fun xs H Q => (∃ i, xs = [.int i] ∧ i.natAbs.log2 < 1920 ∧ Q (.str (toString i)) H) ∨ ∃ a, xs = [.str a] ∧ Q (.str a) H
theorem call_strA {X : Cx} : CallR X (.type "str") rStr := call_str_int.or SkE.call_str_str
theorem fns_str : FnS K rStr dStr := by
  intro mg W σ m H s xs ds Q r p g
  unfold dStr at g
  split at g
  · rename_i i
    obtain ⟨v, rfl, h⟩ := reps1 p
    cases h
    split at g
    · rename_i hz
      exact .inl ⟨i, rfl, hz, g.now r (.str _)⟩
    · exact g.elim
  · rename_i z
    obtain ⟨v, rfl, h⟩ := reps1 p
    cases h
    exact .inr ⟨z, rfl, g.now r (.str _)⟩
  · exact g.elim
/-! ### xs.extend(ys), ys a list or a tuple -/
end
section
open PySem.AutoSeq1
theorem list_extend_tup (l : Addr) (items : Array Value) (n : Nat) (b : Addr) (items2 : Array Value) (n2 : Nat) (dd : Option Addr) (sl : Array (Option Value)) (hs0 : ¬(!items.isEmpty && Builtin.List.listTooLong (items.size + items2.size)) = true) (hs1 : items.size ≤ sizeLine) (hs2 : items.size + items2.size ≤ sizeLine + 1) :
    Meets (Builtin.«list.extend» ⟨[.ref l, .ref b], []⟩) (fun _ R s => s.heap.get? l = some { cls := .type "list", dict := none, data := .seq items n, slots := #[] } ∧ s.heap.get? b = some { cls := .type "tuple", dict := dd, data := .seq items2 n2, slots := sl } ∧ R (.ok (.ret Value.none)) { s with heap := s.heap.update l (Obj.mapSeq fun x => x ++ items2), toks := s.toks }) :=
  .of_wp fun prog w A R s h => by
    obtain ⟨hp, g, d, tk, os⟩ := s; obtain ⟨hl, hb, h⟩ := h; have f1 := PySem.AutoSeq1.idx_int; have f2 := PySem.AutoSeq1.sub_tuple_tuple; have f3 := PySem.AutoSeq1.sub_list_list; have f4 := PySem.AutoSeq1.sub_tuple_list; have f5 := PySem.AutoSeq1.sub_list_tuple;
    have hz' : (items ++ items2).size ≤ sizeLine + 1 := by rw [Array.size_append]; exact hs2
    wp_walk using (wpAny_updateSeq hl rfl (hz := hs1) (_hz' := hz')), wpAny_loadPart' hl, wpAny_loadPart' hb; exact ⟨_, rfl, h⟩
end
def rExtT (K : PySem.W.Frag) : V → List V → Hp → VK → Prop := fun x vs H Q => ∃ l b xs zs, x = .ref l ∧ vs = [.ref b] ∧ H l = some (.lst xs) ∧ SqT K H b zs ∧ xs.length + zs.length ≤ sizeLine ∧ Q .non (upd H l (.lst (xs ++ zs)))
theorem mt_extT {X : Cx} : MtR X "list.extend" (rExtT X.K) := by
  intro pins s σ H x vs v us Q I rx rv h
  obtain ⟨l, b, xs, zs, rfl, rfl, hH, hB, hz, q⟩ := h
  cases rx
  obtain ⟨u, rfl, ru⟩ := rv.one
  cases ru
  obtain ⟨z, its, n, r, hl, e⟩ := I.lstM hH
  obtain ⟨its2, r2, ⟨⟨cls, dd, data, sl⟩, e2, hc, n2, hd⟩, hl2⟩ := I.tuple hB
  simp only at hc hd
  subst hc hd
  have hl3 := r2.length
  have hsz : its.toArray.size + its2.toArray.size ≤ sizeLine := by rw [List.size_toArray, List.size_toArray]; omega
  have hlong : ¬ (!its.toArray.isEmpty && Builtin.List.listTooLong (its.toArray.size + its2.toArray.size)) = true := by
    rw [notLongL hsz, Bool.and_false]
    exact Bool.false_ne_true
  refine call_meets F.slot_list_extend ⟨_, e, rfl⟩ F.entry_list_extend (F.args_list_extend_2 _ _)
    (list_extend_tup l its.toArray n b its2.toArray n2 dd sl hlong (by rw [List.size_toArray]; omega) (by omega)) ⟨e, e2, ?_⟩
  refine ⟨.non, _, I.lset (its' := its ++ its2) hH e (by simp) (r.append r2) ?_, rfl, q⟩
  rw [List.length_append]
  omega
theorem MtR.or' {X : Cx} {id : String} {r r' : V → List V → Hp → VK → Prop} (h : MtR X id r) (h' : MtR X id r') : MtR X id (fun x vs H Q => r x vs H Q ∨ r' x vs H Q) := by
  intro pins s σ H x vs v us Q I rx rv q
  rcases q with q | q
  · exact h pins s σ H x vs v us Q I rx rv q
  · exact h' pins s σ H x vs v us Q I rx rv q
def rExtA (K : PySem.W.Frag) : V → List V → Hp → VK → Prop := fun x vs H Q => rExtend x vs H Q ∨ rExtT K x vs H Q
theorem mt_extA {X : Cx} : MtR X "list.extend" (rExtA X.K) := MtR.or' mt_extend mt_extT
noncomputable def dExtend (x : D) (ys : List D) (s : Store) : Option (D × Store) := match x, ys with
  | .loc l, [.loc k] => match s[l]?, s[k]? with
    | some (.lst xs), some (.lst zs) => if xs.length + zs.length ≤ sizeLine then some (.non, s.set l (.lst (xs ++ zs))) else none
    | _, _ => none
  | .loc l, [.tup zs] => match s[l]? with
    | some (.lst xs) => if xs.length + zs.length ≤ sizeLine then some (.non, s.set l (.lst (xs ++ zs))) else none
    | _ => none
  | _, _ => none
section
variable {K : PySem.W.Frag}
theorem mts_extend : MtS K (rExtA K) dExtend := by
  intro mg W σ m H s x d xs ds Q r p ps g
  unfold dExtend at g
  split at g
  · rename_i l k
    obtain ⟨w, rfl, h⟩ := reps1 ps
    cases p with
    | loc hl =>
      cases h with
      | loc hk =>
        split at g
        · rename_i ys zs q q2
          split at g
          · rename_i hz
            obtain ⟨vs, h1, h2⟩ := r.list hl q
            obtain ⟨ws, h3, h4⟩ := r.list hk q2
            obtain ⟨le, r2⟩ := le_setlist r hl (h2.append h4)
            exact .inl ⟨_, _, vs, ws, rfl, rfl, h1, h3, by rw [← h2.length, ← h4.length]; exact hz, g m _ _ le r2 .non⟩
          · exact g.elim
        · exact g.elim
  · rename_i l zs
    obtain ⟨w, rfl, h⟩ := reps1 ps
    cases p with
    | loc hl =>
      obtain ⟨a, ws, rfl, h3, h4⟩ := h.sqT
      split at g
      · rename_i ys q
        split at g
        · rename_i hz
          obtain ⟨vs, h1, h2⟩ := r.list hl q
          obtain ⟨le, r2⟩ := le_setlist r hl (h2.append h4)
          exact .inr ⟨_, _, vs, ws, rfl, rfl, h1, h3, by rw [← h2.length, ← h4.length]; exact hz, g m _ _ le r2 .non⟩
        · exact g.elim
      · exact g.elim
  · exact g.elim
/-! ### xs.pop(i), xs.insert(i, x) -/
noncomputable def dPopX (x : D) (ys : List D) (s : Store) : Option (D × Store) := match x, ys with
  | .loc l, [.int i] => match s[l]? with
    | some (.lst xs) => if -(2 ^ 63) ≤ i ∧ i < 2 ^ 63 then (seqIndex? i xs.length).bind fun k => (xs[k]?).map fun y => (y, s.set l (.lst (xs.eraseIdx k))) else none
    | _ => none
  | _, _ => none
theorem mts_popX : MtS K rPopAt dPopX := by
  intro mg W σ m H s x d xs ds Q r p ps g
  unfold dPopX at g
  split at g
  · rename_i l i
    obtain ⟨w, rfl, h⟩ := reps1 ps
    cases h
    cases p with
    | loc hl =>
      split at g
      · rename_i ys q
        split at g
        · rename_i hz
          cases q1 : seqIndex? i ys.length with
          | none => rw [q1] at g; exact g.elim
          | some k =>
            rw [q1, Option.bind_some] at g
            cases q2 : ys[k]? with
            | none => rw [q2] at g; exact g.elim
            | some y =>
              rw [q2] at g
              obtain ⟨vs, h1, h2⟩ := r.list hl q
              obtain ⟨v, hv, rv⟩ := h2.get q2
              obtain ⟨le, r2⟩ := le_setlist r hl (h2.erase k)
              exact ⟨_, vs, i, k, v, rfl, rfl, h1, hz.1, hz.2, by rw [← h2.length]; exact q1, hv, g m _ _ le r2 (rv.mono le)⟩
        · exact g.elim
      · exact g.elim
  · exact g.elim
def rIns : V → List V → Hp → VK → Prop := fun x vs H Q => ∃ (l : Addr) (xs : List V) (i : Int) (y : V), x = .ref l ∧ vs = [.int i, y] ∧ H l = some (.lst xs) ∧ xs.length < sizeLine ∧ 0 ≤ i ∧ i < 2 ^ 63 ∧
    Q .non (upd H l (.lst (xs.take i.toNat ++ [y] ++ xs.drop i.toNat)))
noncomputable def dInsert (x : D) (ys : List D) (s : Store) : Option (D × Store) := match x, ys with
  | .loc l, [.int i, y] => match s[l]? with
    | some (.lst xs) => if xs.length < sizeLine ∧ 0 ≤ i ∧ i < 2 ^ 63 then some (.non, s.set l (.lst (xs.take i.toNat ++ [y] ++ xs.drop i.toNat))) else none
    | _ => none
  | _, _ => none
theorem mts_insert : MtS K rIns dInsert := by
  intro mg W σ m H s x d xs ds Q r p ps g
  unfold dInsert at g
  split at g
  · rename_i l i y
    obtain ⟨w, w2, rfl, h, hy⟩ := reps2 ps
    cases h
    cases p with
    | loc hl =>
      split at g
      · rename_i ys q
        split at g
        · rename_i hz
          obtain ⟨vs, h1, h2⟩ := r.list hl q
          obtain ⟨le, r2⟩ := le_setlist r hl (((h2.take i.toNat).append (.cons hy .nil)).append (h2.drop i.toNat))
          exact ⟨_, vs, i, w2, rfl, rfl, h1, by rw [← h2.length]; exact hz.1, hz.2.1, hz.2.2, g m _ _ le r2 .non⟩
        · exact g.elim
      · exact g.elim
  · exact g.elim
/-! ### xs.index(x): items of a list -/
noncomputable def dIndex (x : D) (ys : List D) (s : Store) : Option (D × Store) := match ys with
  | [y] => (lstOf s x).bind fun xs => if flatD y = true ∧ xs.all flatD = true then (xs.findIdx? fun z => eqD z y).map fun j => (.int (j : Nat), s) else none
  | _ => none
theorem mts_index : MtS K (rIndex K) dIndex := by
  intro mg W σ m H s x d xs ds Q r p ps g
  unfold dIndex at g
  split at g
  · rename_i y
    obtain ⟨w, rfl, h⟩ := reps1 ps
    cases e : lstOf s d with
    | none => rw [e] at g; exact g.elim
    | some zs =>
      rw [e, Option.bind_some] at g
      split at g
      · rename_i hf
        cases q : zs.findIdx? fun z => eqD z y with
        | none => rw [q] at g; exact g.elim
        | some j =>
          rw [q] at g
          obtain ⟨a, vs, rfl, h1, h2⟩ := lstOf_sq r p e
          obtain ⟨hj, q1, q2⟩ := List.findIdx?_eq_some_iff_getElem.mp q
          have fl : ∀ i (hi : i < zs.length), flatD zs[i] = true := fun i hi => List.all_eq_true.mp hf.2 _ (List.getElem_mem hi)
          obtain ⟨v, hv, rv⟩ := h2.get (List.getElem?_eq_getElem hj)
          refine ⟨a, vs, w, j, v, rfl, rfl, h1, flat_rep h hf.1, flat_reps h2 hf.2, hv, by rw [eqD_rep rv h (fl j hj) hf.1]; exact q1, fun i z hi hz => ?_, g.now r (.int _)⟩
          have hi' : i < zs.length := by omega
          obtain ⟨v', hv', rv'⟩ := h2.get (List.getElem?_eq_getElem hi')
          rw [hz] at hv'
          cases hv'
          rw [eqD_rep rv' h (fl i hi') hf.1]
          simpa using q2 i hi
      · exact g.elim
  · exact g.elim
end
/-! ### equations for simp -/
theorem any_str (x : Str) (xs : List Str) : ((xs.map D.str).any fun z => eqD z (.str x)) = decide (x ∈ xs) := by
  rw [List.any_map, Bool.eq_iff_iff, List.any_eq_true, decide_eq_true_iff]
  exact ⟨fun ⟨z, h, e⟩ => by simp [eqD] at e; subst e; exact h, fun h => ⟨x, h, by simp [eqD]⟩⟩
theorem any_int (x : Int) (xs : List Int) : ((xs.map D.int).any fun z => eqD z (.int x)) = decide (x ∈ xs) := by
  rw [List.any_map, Bool.eq_iff_iff, List.any_eq_true, decide_eq_true_iff]
  exact ⟨fun ⟨z, h, e⟩ => by simp [eqD] at e; subst e; exact h, fun h => ⟨x, h, by simp [eqD]⟩⟩
theorem flat_str (xs : List Str) : (xs.map D.str).all flatD = true := by simp [flatD]
theorem flat_int (xs : List Int) : (xs.map D.int).all flatD = true := by simp [flatD]
theorem dInB_tupS (x : Str) (xs : List Str) (s : Store) : dInB (.str x) (.tup (xs.map D.str)) s = some (decide (x ∈ xs)) := by
  have e : inFlat (.str x) (xs.map D.str) = some (decide (x ∈ xs)) := by
    unfold inFlat
    rw [if_pos ⟨rfl, flat_str xs⟩, any_str]
  simp [dInB, dicOf, dctOf, seqOf, e]
theorem dInB_tupI (x : Int) (xs : List Int) (s : Store) : dInB (.int x) (.tup (xs.map D.int)) s = some (decide (x ∈ xs)) := by
  have e : inFlat (.int x) (xs.map D.int) = some (decide (x ∈ xs)) := by
    unfold inFlat
    rw [if_pos ⟨rfl, flat_int xs⟩, any_int]
  simp [dInB, dicOf, dctOf, seqOf, e]
theorem dInB_locS {l : Nat} {xs : List Str} {s : Store} (h : s[l]? = some (.lst (xs.map D.str))) (x : Str) : dInB (.str x) (.loc l) s = some (decide (x ∈ xs)) := by
  have e : inFlat (.str x) (xs.map D.str) = some (decide (x ∈ xs)) := by
    unfold inFlat
    rw [if_pos ⟨rfl, flat_str xs⟩, any_str]
  simp [dInB, dicOf, dctOf, seqOf, lstOf, h, e]
theorem dInB_locI {l : Nat} {xs : List Int} {s : Store} (h : s[l]? = some (.lst (xs.map D.int))) (x : Int) : dInB (.int x) (.loc l) s = some (decide (x ∈ xs)) := by
  have e : inFlat (.int x) (xs.map D.int) = some (decide (x ∈ xs)) := by
    unfold inFlat
    rw [if_pos ⟨rfl, flat_int xs⟩, any_int]
  simp [dInB, dicOf, dctOf, seqOf, lstOf, h, e]
theorem dInB_dct {s : Store} {l : Nat} {ks : List (List Key × D)} (h : s[l]? = some (.dct ks)) {x : D} {k : List Key} (hk : keyT x = some k) : dInB x (.loc l) s = some (getD ks k).isSome := by
  have e : dicOf s (.loc l) = none := by simp [dicOf, h]
  have e2 : dctOf s (.loc l) = some (l, ks) := by simp [dctOf, h]
  unfold dInB
  rw [e]
  simp only
  rw [e2]
  simp [hk]
theorem dInB_dic {s : Store} {l : Nat} {ks : List (Key × D)} (h : s[l]? = some (.dic ks)) {x : D} {k : Key} (hk : keyOf x = some k) : dInB x (.loc l) s = some (getD ks k).isSome := by
  have e : dicOf s (.loc l) = some (l, ks) := by simp [dicOf, h]
  unfold dInB
  rw [e]
  simp [hk]
theorem dIn_of {x y : D} {s : Store} {b : Bool} (h : dInB x y s = some b) : dIn x y s = some (.bl b, s) := by simp [dIn, h]
theorem dNotIn_of {x y : D} {s : Store} {b : Bool} (h : dInB x y s = some b) : dNotIn x y s = some (.bl !b, s) := by simp [dNotIn, h]
theorem dExtend_tup {s : Store} {l : Nat} {xs : List D} (h : s[l]? = some (.lst xs)) (zs : List D) (hz : xs.length + zs.length ≤ 1000000) : dExtend (.loc l) [.tup zs] s = some (.non, s.set l (.lst (xs ++ zs))) := by
  have q : xs.length + zs.length ≤ sizeLine := by rw [sizeLine_eq]; omega
  simp only [dExtend, h]
  rw [if_pos q]
/-! ### loops by place -/
theorem forL_at {gd : Store → Prop} {g : D → Sl → Option Sl} {b : MS} (xs : List D) (I : Nat → Sl → Store → Prop) (Q : RS → Prop) (hg : ∀ i env s, I i env s → gd s)
    (hs : ∀ i d env s, xs[i]? = some d → I i env s → Turns (I (i + 1)) Q (turn g b d env s)) (he : ∀ env s, I xs.length env s → Q (.nx env s)) {env : Sl} {s : Store} (h : I 0 env s) : Q (forL gd g b xs env s) := by
  refine forL_rule (fun ys env s => ∃ i, i ≤ xs.length ∧ ys = xs.drop i ∧ I i env s) Q (fun ys env s ⟨i, hi, _, q⟩ => hg i env s q) (fun x ys env s ⟨i, hi, e, q⟩ => ?_) (fun env s ⟨i, hi, e, q⟩ => ?_) ⟨0, Nat.zero_le _, rfl, h⟩
  · have hx : xs[i]? = some x := by
      have := congrArg (fun l : List D => l[0]?) e
      simpa using this.symm
    have hy : ys = xs.drop (i + 1) := by
      have := congrArg List.tail e
      simpa [List.tail_drop] using this
    have hlt := (List.getElem?_eq_some_iff.mp hx).1
    have t1 := hs i x env s hx q
    cases hb : turn g b x env s with
    | nx env2 s2 => rw [hb] at t1; exact ⟨i + 1, hlt, hy, t1⟩
    | ct env2 s2 => rw [hb] at t1; exact ⟨i + 1, hlt, hy, t1⟩
    | bk env2 s2 => rw [hb] at t1; exact t1
    | rt d s2 => rw [hb] at t1; exact t1
    | ex x env2 s2 => rw [hb] at t1; exact t1
    | no => rw [hb] at t1; exact t1
  · have : i = xs.length := by
      have := congrArg List.length e
      simp at this
      omega
    subst this
    exact he env s q
theorem forL_atT {gd : Store → Prop} {g : D → Sl → Option Sl} {b : MS} (xs : List D) (I : Nat → Sl → Store → Prop) (hg : ∀ i env s, I i env s → gd s)
    (hs : ∀ i d env s, xs[i]? = some d → I i env s → Turns (I (i + 1)) (fun _ => False) (turn g b d env s)) {env : Sl} {s : Store} (h : I 0 env s) : ∃ env' s', forL gd g b xs env s = .nx env' s' ∧ I xs.length env' s' :=
  forL_at xs I (fun r => ∃ env' s', r = .nx env' s' ∧ I xs.length env' s') hg (fun i d env s hi h => by
    have z := hs i d env s hi h
    cases q : turn g b d env s with
    | nx env2 s2 => rw [q] at z; exact z
    | ct env2 s2 => rw [q] at z; exact z
    | bk env2 s2 => rw [q] at z; exact z.elim
    | rt d s2 => rw [q] at z; exact z.elim
    | ex e env2 s2 => rw [q] at z; exact z.elim
    | no => rw [q] at z; exact z.elim) (fun env s h => ⟨env, s, rfl, h⟩) h
/-- a loop of yes-no turns: it goes on, or it returns -/
theorem forL_find {gd : Store → Prop} {g : D → Sl → Option Sl} {b : MS} (xs : List D) (I : Nat → Sl → Store → Prop) (ok : Nat → Bool) (out : Nat → D) (hg : ∀ i env s, I i env s → gd s)
    (hs : ∀ i d env s, xs[i]? = some d → I i env s → if ok i = true then Turns (I (i + 1)) (fun _ => False) (turn g b d env s) else ∃ s', turn g b d env s = .rt (out i) s' ∧ ∃ env', I i env' s') {env : Sl} {s : Store} (h : I 0 env s) :
    match (List.range xs.length).find? (fun i => !ok i) with
    | none => ∃ env' s', forL gd g b xs env s = .nx env' s' ∧ I xs.length env' s'
    | some i => ∃ s' env', forL gd g b xs env s = .rt (out i) s' ∧ I i env' s' := by
  have key : ∀ n, n ≤ xs.length → (∀ j, j < n → ok j = true) → ∀ env s, I n env s → match (List.range' n (xs.length - n)).find? (fun i => !ok i) with
      | none => ∃ env' s', forL gd g b (xs.drop n) env s = .nx env' s' ∧ I xs.length env' s'
      | some i => ∃ s' env', forL gd g b (xs.drop n) env s = .rt (out i) s' ∧ I i env' s' := by
    intro n
    induction hk : xs.length - n generalizing n with
    | zero =>
      intro hn _ env s hI
      have : n = xs.length := by omega
      subst this
      simp
      rw [forL_nil env s gd (hg _ _ _ hI)]
      exact ⟨_, _, rfl, hI⟩
    | succ k ih =>
      intro hn hall env s hI
      have hlt : n < xs.length := by omega
      rw [List.drop_eq_getElem_cons hlt, forL_cons env s gd (hg _ _ _ hI), List.range'_succ]
      have z := hs n xs[n] env s (by simp [hlt]) hI
      unfold turn at z
      by_cases c : ok n = true
      · rw [if_pos c] at z
        simp only [List.find?_cons, c, Bool.not_true]
        cases e1 : g xs[n] env with
        | none => rw [e1] at z; exact z.elim
        | some env1 =>
          rw [e1] at z
          dsimp only at z ⊢
          have hall' : ∀ j, j < n + 1 → ok j = true := fun j hj => by
            rcases Nat.lt_or_ge j n with w | w
            · exact hall j w
            · have : j = n := by omega
              rw [this]; exact c
          cases q : b env1 s with
          | nx env2 s2 => rw [q] at z; exact ih (n + 1) (by omega) hlt hall' env2 s2 z
          | ct env2 s2 => rw [q] at z; exact ih (n + 1) (by omega) hlt hall' env2 s2 z
          | bk env2 s2 => rw [q] at z; exact z.elim
          | rt d s2 => rw [q] at z; exact z.elim
          | ex e env2 s2 => rw [q] at z; exact z.elim
          | no => rw [q] at z; exact z.elim
      · rw [if_neg c] at z
        obtain ⟨s', h1, env', h2⟩ := z
        have c' : ok n = false := by simpa using c
        simp only [List.find?_cons, c', Bool.not_false]
        cases e1 : g xs[n] env with
        | none => rw [e1] at h1; cases h1
        | some env1 =>
          rw [e1] at h1
          dsimp only at h1 ⊢
          rw [h1]
          exact ⟨s', env', rfl, h2⟩
  have := key 0 (Nat.zero_le _) (fun j hj => absurd hj (Nat.not_lt_zero j)) env s h
  rw [Nat.sub_zero, ← List.range_eq_range', List.drop_zero] at this
  exact this
/-- range(i, j) -/
def rng2 (lo : Int) (n : Nat) : List D := (List.range n).map fun k => .int (lo + (k : Nat))
theorem rng2_get {lo : Int} {n i : Nat} {d : D} (h : (rng2 lo n)[i]? = some d) : i < n ∧ d = .int (lo + (i : Nat)) := by
  unfold rng2 at h
  rw [List.getElem?_map] at h
  cases e : (List.range n)[i]? with
  | none => rw [e] at h; cases h
  | some k =>
    rw [e] at h
    cases h
    obtain ⟨hl, he⟩ := List.getElem?_eq_some_iff.mp e
    simp at hl he
    exact ⟨hl, by rw [he]⟩
theorem rng2_len (lo : Int) (n : Nat) : (rng2 lo n).length = n := by simp [rng2]
theorem range2_int (i j : Int) (s : Store) (h0 : 0 ≤ i) (h1 : i ≤ 1000000000) (h2 : 0 ≤ j) (h3 : j ≤ 1000000000) : rangeOf2 [.int i, .int j] s = .ok (Itm.mk (rng2 i (j - i).toNat) always) s := rangeOf2_int s i j h0 h1 h2 h3
theorem rng_get {n i : Nat} {d : D} (h : (rng n)[i]? = some d) : i < n ∧ d = .int (i : Nat) := by
  obtain ⟨a, b⟩ := rng2_get (lo := 0) (n := n) h
  exact ⟨a, by rw [b, Int.zero_add]⟩
theorem rng_len (n : Nat) : (rng n).length = n := by simp [rng]
theorem map_get {α : Type} {f : α → D} {xs : List α} {i : Nat} {d : D} (h : (xs.map f)[i]? = some d) : ∃ x, xs[i]? = some x ∧ d = f x := by
  rw [List.getElem?_map] at h
  cases e : xs[i]? with
  | none => rw [e] at h; cases h
  | some x => rw [e] at h; cases h; exact ⟨x, rfl, rfl⟩
/-- a loop that looks for one that fails, and returns r there -/
theorem forL_all {α : Type} {gd : Store → Prop} {g : D → Sl → Option Sl} {b : MS} (f : α → D) (as : List α) (I : Sl → Prop) (s : Store) (ok : α → Bool) (r : D) (hg : gd s)
    (hs : ∀ a ∈ as, ∀ env, I env → if ok a = true then ∃ env', turn g b (f a) env s = .nx env' s ∧ I env' else turn g b (f a) env s = .rt r s) {env : Sl} (h : I env) :
    if as.all ok = true then ∃ env', forL gd g b (as.map f) env s = .nx env' s ∧ I env' else forL gd g b (as.map f) env s = .rt r s := by
  induction as generalizing env with
  | nil =>
    rw [List.map_nil, forL_nil env s gd hg]
    exact ⟨_, rfl, h⟩
  | cons a as ih =>
    rw [List.map_cons, forL_cons env s gd hg]
    have z := hs a (List.mem_cons_self ..) env h
    unfold turn at z
    by_cases c : ok a = true
    · rw [if_pos c] at z
      obtain ⟨env', z1, z2⟩ := z
      have q := ih (fun a' ha' => hs a' (List.mem_cons_of_mem _ ha')) z2
      cases e1 : g (f a) env with
      | none => rw [e1] at z1; cases z1
      | some env1 =>
        rw [e1] at z1
        dsimp only at z1 ⊢
        rw [z1]
        simpa [c] using q
    · rw [if_neg c] at z
      have c' : ok a = false := by simpa using c
      cases e1 : g (f a) env with
      | none => rw [e1] at z; cases z
      | some env1 =>
        rw [e1] at z
        dsimp only at z ⊢
        rw [z]
        simp [c']
theorem app_new (s : Store) (xs : List D) (y : D) (h : xs.length ≤ 1000000) : dAppend (.loc s.length) [y] (s ++ [.lst xs]) = some (.non, s ++ [.lst (xs ++ [y])]) := by
  have q := dAppend_loc (get_new s (.lst xs)) h y
  rw [q]
  simp
theorem ty_new (s : Store) (xs : List D) : tyOk "list" (s ++ [.lst xs]) (.loc s.length) = true := tyOk_list (get_new s (.lst xs))
theorem tyN_isi {s : Store} {d : D} {t : String} (h : tyN s d = some t) (T : String) : dIsi T d s = (kitB t T).map fun b => (.bl b, s) := by simp [h]
end Mi
namespace Mi
open PySem PySem.Spec PyProof.Rows L2
/-! ### more rules for mirrors -/
theorem tryAs_ex {i : Nat} {cs : List Str} {body : MS} {suite : Nat × Nat → MS} {env env2 : Sl} {s s2 : Store} {e : Ex} {r : RS} (h : body env s = .ex e env2 s2) (h1 : e.cls ∈ cs) (h2 : e.fs ≠ [])
    (h3 : ∀ g : Nat × Nat, clr i (suite g (env2.set i (some (.exv g.1 g.2 e.cls e.fs))) s2) = r) : sTryAs i cs body suite env s = r := by
  unfold sTryAs
  rw [h]
  simp only
  rw [if_pos ⟨h1, h2, fun g => by rw [h3 g]; exact (h3 (0, 0)).symm⟩]
  exact h3 (0, 0)
/-- what stood before stands, and something new behind it -/
def Ext (s s' : Store) : Prop := ∃ r, s' = s ++ r
theorem Ext.refl (s : Store) : Ext s s := ⟨[], by simp⟩
theorem Ext.mk (s r : Store) : Ext s (s ++ r) := ⟨r, rfl⟩
theorem Ext.trans {a b c : Store} (h : Ext a b) (k : Ext b c) : Ext a c := by
  obtain ⟨r, rfl⟩ := h
  obtain ⟨t, rfl⟩ := k
  exact ⟨r ++ t, by simp⟩
theorem Ext.get {a b : Store} (h : Ext a b) {l : Nat} {c : Cell} (e : a[l]? = some c) : b[l]? = some c := by
  obtain ⟨r, rfl⟩ := h
  rw [List.getElem?_append_left (lt_of_get e)]
  exact e
theorem Ext.le {a b : Store} (h : Ext a b) : a.length ≤ b.length := by
  obtain ⟨r, rfl⟩ := h
  simp
/-- an item of a tuple or a list, by place -/
theorem ix_map {α : Type} {f : α → D} {xs : List α} {i : Int} (h0 : 0 ≤ i) (h1 : i < xs.length) : ∃ a, a ∈ xs ∧ xs[i.toNat]? = some a ∧ ∀ s, dIx (.tup (xs.map f)) (.int i) s = some (f a, s) := by
  obtain ⟨n, rfl⟩ := Int.eq_ofNat_of_zero_le h0
  have hn : n < xs.length := by omega
  refine ⟨xs[n], List.getElem_mem _, by simp [hn], fun s => ?_⟩
  rw [dIx_tup, atI_ofNat _ _ (f xs[n]) (by simp [hn])]
  rfl
theorem ixL_map {α : Type} {f : α → D} {xs : List α} {s : Store} {l : Nat} (h : s[l]? = some (.lst (xs.map f))) {i : Int} (h0 : 0 ≤ i) (h1 : i < xs.length) : ∃ a, a ∈ xs ∧ xs[i.toNat]? = some a ∧ dIx (.loc l) (.int i) s = some (f a, s) := by
  obtain ⟨n, rfl⟩ := Int.eq_ofNat_of_zero_le h0
  have hn : n < xs.length := by omega
  refine ⟨xs[n], List.getElem_mem _, by simp [hn], ?_⟩
  rw [dIx_loc h, L2.atI_nat (v := f xs[n]) (by simp [hn])]
  rfl
theorem ix_mem {xs : List D} {i : Int} (h0 : 0 ≤ i) (h1 : i < xs.length) : ∃ a, a ∈ xs ∧ ∀ s, dIx (.tup xs) (.int i) s = some (a, s) := by
  obtain ⟨n, rfl⟩ := Int.eq_ofNat_of_zero_le h0
  have hn : n < xs.length := by omega
  refine ⟨xs[n], List.getElem_mem _, fun s => ?_⟩
  rw [dIx_tup, atI_ofNat _ _ xs[n] (by simp [hn])]
  rfl
theorem ixL_mem {xs : List D} {s : Store} {l : Nat} (h : s[l]? = some (.lst xs)) {i : Int} (h0 : 0 ≤ i) (h1 : i < xs.length) : ∃ a, a ∈ xs ∧ dIx (.loc l) (.int i) s = some (a, s) := by
  obtain ⟨n, rfl⟩ := Int.eq_ofNat_of_zero_le h0
  have hn : n < xs.length := by omega
  refine ⟨xs[n], List.getElem_mem _, ?_⟩
  rw [dIx_loc h, L2.atI_nat (v := xs[n]) (by simp [hn])]
  rfl
theorem dAdd_s {a b : Str} (h : a.length + b.length ≤ 1000000) (s : Store) : dAdd (.str a) (.str b) s = some (.str (a ++ b), s) := by
  have q := le_line h
  simp only [dAdd, q, if_true]
theorem cutS1 (ws : List Str) {k : Nat} (h : k ≤ ws.length) : cutD (ws.map D.str) none (some (k : Int)) = (ws.take k).map D.str := by
  unfold cutD
  rw [HT.sIx_none, HT.sIx_nat]
  simp [Nat.min_eq_left h]
theorem cutS2 (ws : List Str) {k : Nat} (h : k + 1 ≤ ws.length) : cutD (ws.map D.str) (some ((k : Int) + 1)) none = (ws.drop (k + 1)).map D.str := by
  unfold cutD
  rw [HT.sIx_none, show ((k : Int) + 1) = ((k + 1 : Nat) : Int) by omega, HT.sIx_nat, List.length_map, Nat.min_eq_left h, ← List.map_drop]
  rw [List.take_of_length_le (by simp)]
theorem sort_strs (A : List Str) : sortOk (A.map D.str) ∧ ∃ M : List Str, sortD (A.map D.str) = M.map D.str ∧ M.length = A.length ∧ M.Perm A := by
  refine ⟨⟨fun d hd => ?_, ?_, ?_⟩, A.mergeSort fun x y => PySem.W.dataLe false pyD (D.str x) (D.str y), ?_, List.length_mergeSort _, List.mergeSort_perm _ _⟩
  · obtain ⟨x, _, rfl⟩ := List.mem_map.mp hd
    exact ⟨rfl, by show PyData.depth (.str x) ≤ 60; simp [PyData.depth]⟩
  · rw [List.map_map]
    exact PySem.W.AllAlike.of (enc := fun x => pyD (D.str x)) fun x y => by show PySem.W.alike (.str x) (.str y) = true; simp [PySem.W.alike]
  · rw [List.map_map]
    exact PySem.W.Sortable.others (enc := fun x => pyD (D.str x)) fun x => ⟨by show PyData.str x ≠ .none; simp, fun xs => by show PyData.str x ≠ .tuple xs; simp⟩
  · unfold sortD
    rw [List.map_mergeSort (r := fun x y : Str => PySem.W.dataLe false pyD (D.str x) (D.str y)) (s := PySem.W.dataLe false pyD) fun _ _ _ _ => rfl]
/-- a comprehension by place -/
theorem lcL_at {gd : Store → Prop} {g : D → Sl → Option Sl} {t : ME Bool} {e : ME D} {env : Sl} (xs : List D) (I : Nat → List D → Store → Prop) (hg : ∀ i acc s, I i acc s → gd s)
    (hs : ∀ i d acc s, xs[i]? = some d → I i acc s → Kept (I (i + 1)) acc (pick g t e d env s)) {acc : List D} {s : Store} (h : I 0 acc s) : ∃ acc' s', lcL gd g t e env xs acc s = .ok acc' s' ∧ I xs.length acc' s' := by
  obtain ⟨acc', s', h1, i, hi, e, h2⟩ := lcL_thru (gd := gd) (g := g) (t := t) (e := e) (env := env) (fun ys acc s => ∃ i, i ≤ xs.length ∧ ys = xs.drop i ∧ I i acc s) (fun _ acc s ⟨i, hi, _, q⟩ => hg i acc s q) (fun x ys acc s ⟨i, hi, e, q⟩ => by
    have hx : xs[i]? = some x := by
      have := congrArg (fun l : List D => l[0]?) e
      simpa using this.symm
    have hy : ys = xs.drop (i + 1) := by
      have := congrArg List.tail e
      simpa [List.tail_drop] using this
    have hlt := (List.getElem?_eq_some_iff.mp hx).1
    have z := hs i x acc s hx q
    cases hp : pick g t _ x env s with
    | no => rw [hp] at z; exact z
    | ex x s => rw [hp] at z; exact z
    | ok o s2 =>
      rw [hp] at z
      cases o with
      | none => exact ⟨i + 1, hlt, hy, z⟩
      | some y => exact ⟨z.1, i + 1, hlt, hy, z.2⟩) (xs := xs) ⟨0, Nat.zero_le _, rfl, h⟩
  have : i = xs.length := by
    have := congrArg List.length e
    simp at this
    omega
  subst this
  exact ⟨acc', s', h1, h2⟩
/-! ### statement by statement -/
section
variable {P : RS → Prop} {i : Nat} {a : ME D} {t : ME Bool} {f g r : MS} {env env2 : Sl} {s s' s2 : Store} {d : D}
theorem st_set (h : a env s = .ok d s') (k : P (r (env.set i (some d)) s')) : P (sSeq (sSet i a) r env s) := by
  show P (RS.bind ((a env s).then env fun d s => .nx (env.set i (some d)) s) r)
  rw [h]
  exact k
theorem st_no (h : t env s = .ok false s') (k : P (r env s')) : P (sSeq (sIf t f sNil) r env s) := by
  show P (RS.bind ((t env s).then env fun b s => if b then f env s else sNil env s) r)
  rw [h]
  exact k
theorem st_else (h : t env s = .ok false s') (h2 : g env s' = .nx env2 s2) (k : P (r env2 s2)) : P (sSeq (sIf t f g) r env s) := by
  show P (RS.bind ((t env s).then env fun b s => if b then f env s else g env s) r)
  rw [h]
  show P (RS.bind (g env s') r)
  rw [h2]
  exact k
theorem st_yes (h : t env s = .ok true s') (h2 : f env s' = .nx env2 s2) (k : P (r env2 s2)) : P (sSeq (sIf t f g) r env s) := by
  show P (RS.bind ((t env s).then env fun b s => if b then f env s else g env s) r)
  rw [h]
  show P (RS.bind (f env s') r)
  rw [h2]
  exact k
theorem st_out (h : t env s = .ok true s') (h2 : f env s' = .rt d s2) (k : P (.rt d s2)) : P (sSeq (sIf t f g) r env s) := by
  show P (RS.bind ((t env s).then env fun b s => if b then f env s else g env s) r)
  rw [h]
  show P (RS.bind (f env s') r)
  rw [h2]
  exact k
theorem st_for {it : ME Itm} {x : Itm} {gt : D → Sl → Option Sl} {b : MS} (h : it env s = .ok x s') (h2 : forL x.guard gt b x.xs env s' = .nx env2 s2) (k : P (r env2 s2)) : P (sSeq (sFor it gt b) r env s) := by
  show P (RS.bind ((it env s).then env fun i s => forL i.guard gt b i.xs env s) r)
  rw [h]
  show P (RS.bind (forL x.guard gt b x.xs env s') r)
  rw [h2]
  exact k
theorem st_expr (h : a env s = .ok d s') (k : P (r env s')) : P (sSeq (sExpr a) r env s) := by
  show P (RS.bind ((a env s).then env fun _ s => .nx env s) r)
  rw [h]
  exact k
theorem st_ret (h : a env s = .ok d s') (k : P (.rt d s')) : P (sRet a env s) := by
  show P ((a env s).then env fun d s => .rt d s)
  rw [h]
  exact k
/-- it returns True -/
def Yes (r : RS) : Prop := ∃ s, r = .rt (.bl true) s
theorem Yes.fn {N n : Nat} {b : MS} {ds : List D} {s : Store} (h : Yes (b (ds.map some ++ List.replicate (N - n) none) s)) : ∃ s', fnM N n b ds s = .ok (.bl true) s' := by
  obtain ⟨s', e⟩ := h
  exact ⟨s', by rw [fnM_eq, e]⟩
end
end Mi
namespace Mi
open PySem PySem.Spec PyProof.Rows L2
/-! ### dict comprehensions -/
section
variable {K : PySem.W.Frag} {mg : Str → Option Value} {m m1 m2 : List Addr} {H H1 H2 : Hp} {s : Store} {p : Addr}
theorem lw_sideD {vs ws : List (Key × V)} (h : H p = some (.dK vs)) : Lw K m H m (upd H p (HO.dK ws)) :=
  ⟨⟨[], by simp⟩, fun b xs q => by
    rcases q with (q | ⟨ob, q⟩) | q
    · exact .inl (.inl (by rw [upd_ne (fun z => by subst z; rw [h] at q; cases q)]; exact q))
    · exact .inl (.inr ⟨ob, by rw [upd_ne (fun z => by subst z; rw [h] at q; cases q)]; exact q⟩)
    · exact .inr q, fun b xs q => by
    rcases q with ⟨ob, q⟩ | q
    · exact .inl ⟨ob, by rw [upd_ne (fun z => by subst z; rw [h] at q; cases q)]; exact q⟩
    · exact .inr q, fun b vfs q n => ⟨by rw [upd_ne (fun z => by subst z; rw [h] at q; cases q)]; exact q, n⟩, fun b xs q => by rw [upd_ne (fun z => by subst z; rw [h] at q; cases q)]; exact q⟩
theorem Rel.sideD (r : Rel K m H s) {vs ws : List (Key × V)} (h : H p = some (.dK vs)) (n : p ∉ m) : Rel K m (upd H p (HO.dK ws)) s :=
  ⟨r.len, r.nd, fun l a c h1 h2 => (r.at_ l a c h1 h2).monoW (lw_sideD h) (upd_ne fun z => by subst z; exact n (List.mem_of_getElem? h1))⟩
theorem Le.sideD (e : Le K m H m1 H1) {vs ws : List (Key × V)} (h0 : H p = none) (h : H1 p = some (.dK vs)) : Le K m H m1 (upd H1 p (HO.dK ws)) :=
  ⟨e.pre, fun a xs q => (lw_sideD (m := m1) h).tup a xs (e.tup a xs q), fun a xs q => (lw_sideD (m := m1) h).frl a xs (e.frl a xs q), fun b o q n => by
    rw [upd_ne (fun z => by subst z; rw [h0] at q; cases q)]; exact e.fr b o q n, e.nw, fun a xs q => (lw_sideD (K := K) (m := m1) h).trk a xs (e.trk a xs q)⟩
theorem lw_adoptD {vs : List (Key × V)} (h : H p = some (.dK vs)) : Lw K m H (m ++ [p]) H := ⟨⟨[p], rfl⟩, fun _ _ q => q, fun _ _ q => q, fun b vfs q n => ⟨q, fun z => by
    rcases List.mem_append.mp z with z | z
    · exact n z
    · rw [List.mem_singleton.mp z, h] at q; cases q⟩, fun _ _ q => q⟩
theorem Rel.adoptD (r : Rel K m H s) {xs : List (Key × D)} {vs : List (Key × V)} (n : p ∉ m) (h : H p = some (.dK vs)) (q : RepK K m H xs vs) : Rel K (m ++ [p]) H (s ++ [Cell.dic xs]) := by
  refine ⟨by simp [r.len], ?_, fun j b d h1 h2 => ?_⟩
  · rw [List.nodup_append]
    exact ⟨r.nd, by simp, fun x hx y hy => by rw [List.mem_singleton.mp hy]; exact fun z => n (z ▸ hx)⟩
  · rcases Nat.lt_or_ge j m.length with w | w
    · rw [List.getElem?_append_left w] at h1
      rw [List.getElem?_append_left (by rw [← r.len]; exact w)] at h2
      exact (r.at_ j b d h1 h2).monoW (lw_adoptD h) rfl
    · rw [List.getElem?_append_right w] at h1
      rw [List.getElem?_append_right (by rw [← r.len]; exact w), ← r.len] at h2
      cases hk : j - m.length with
      | zero =>
        rw [hk] at h1 h2
        simp at h1 h2
        subst h1; subst h2
        exact ⟨vs, h, q.monoW (lw_adoptD h)⟩
      | succ n => rw [hk] at h1; simp at h1
end
open Classical in
noncomputable def dcL (guard : Store → Prop) (g : D → Sl → Option Sl) (t : ME Bool) (ek ev : ME D) (env : Sl) : List D → List (Key × D) → Store → R (List (Key × D))
  | [], acc, s => if guard s then .ok acc s else .no
  | x :: xs, acc, s => if guard s then (match g x env with
    | none => .no
    | some env1 => match t env1 s with
      | .ok b s1 => if b then (match ek env1 s1 with
        | .ok y s2 => match ev env1 s2 with
          | .ok z s3 => match keyOf y with
            | some k => if acc.length < sizeLine then dcL guard g t ek ev env xs (putD acc k z) s3 else .no
            | none => .no
          | _ => .no
        | _ => .no) else dcL guard g t ek ev env xs acc s1
      | _ => .no) else .no
/-- {k: v for target in iter if ..} -/
noncomputable def eDc (it : ME Itm) (vs : List Nat) (g : D → Sl → Option Sl) (t : ME Bool) (ek ev : ME D) : ME D := fun env s => (it env s).bind fun i s => (dcL i.guard g t ek ev (wipeE env vs) i.xs [] s).bind fun acc s => .ok (.loc s.length) (s ++ [.dic acc])
section
variable {X : Cx} {W : WX}
theorem dc_run {fi : ME Itm} {vs : List Nat} {gt : D → Sl → Option Sl} {ft : ME Bool} {fk fv : ME D} : ∀ σ H Q, Te X.K X.mg W (eDc fi vs gt ft fk fv) σ H Q →
    tDc (Ti X.K X.mg W fi) (GTm X.K vs gt) (Tt X.K X.mg WF ft) (Te X.K X.mg WF fk) (Te X.K X.mg WF fv) vs σ H Q := fun σ H Q h =>
  Tm.bind (k := fun env (i : Itm) s => (dcL i.guard gt ft fk fv (wipeE env vs) i.xs [] s).bind fun acc s => R.ok (D.loc s.length) (s ++ [Cell.dic acc])) h fun m1 H1 env it J s1 r1 E1 p1 g1 => by
    intro P hP
    refine ⟨fun i k H => k = it.xs.length - i ∧ i ≤ it.xs.length ∧ ∃ m2 s2 acc accV, Le X.K m1 H1 m2 H ∧ Rel X.K m2 H s2 ∧ H P = some (.dK accV) ∧ P ∉ m2 ∧ RepK X.K m2 H acc accV ∧
        G X.K X.mg (Rep X.K) W σ m1 H1 Q ((dcL it.guard gt ft fk fv (wipeE env vs) (it.xs.drop i) acc s2).bind fun acc s => R.ok (D.loc s.length) (s ++ [Cell.dic acc])),
      ⟨it.xs.length, by simp, Nat.zero_le _, m1, s1, [], [], le_new hP, r1.tmp hP, upd_same, r1.new_notin hP, .nil, g1⟩, ?_⟩
    rintro i k H2 ⟨rfl, hi, m2, s2, acc, accV, l2, r2, hD, nD, pA, g2⟩
    by_cases hlt : i < it.xs.length
    · have hx : it.xs[i]? = some it.xs[i] := by simp [hlt]
      have hd : it.xs.drop i = it.xs[i] :: it.xs.drop (i + 1) := List.drop_eq_getElem_cons hlt
      rw [hd] at g2
      unfold dcL at g2
      by_cases hgd : it.guard s2
      · simp only [hgd, if_true] at g2
        obtain ⟨hall, _⟩ := p1 m2 H2 s2 l2 r2 hgd
        obtain ⟨hgo, hy⟩ := hall i _ hx
        refine .inr ⟨hgo, fun H' => ∃ m2 s2 acc accV, Le X.K m1 H1 m2 H' ∧ Rel X.K m2 H' s2 ∧ H' P = some (.dK accV) ∧ P ∉ m2 ∧ RepK X.K m2 H' acc accV ∧
          G X.K X.mg (Rep X.K) W σ m1 H1 Q ((dcL it.guard gt ft fk fv (wipeE env vs) (it.xs.drop (i + 1)) acc s2).bind fun acc s => R.ok (D.loc s.length) (s ++ [Cell.dic acc])),
          fun H' q => ⟨it.xs.length - (i + 1), by omega, rfl, hlt, q⟩, fun v H3 y => ?_⟩
        obtain ⟨l3, r3, p3⟩ := hy v H3 y
        cases q : gt it.xs[i] (wipeE env vs) with
        | none => simp only [q] at g2; exact g2.elim
        | some env3 =>
          simp only [q] at g2
          have l13 := l2.trans l3
          have hD3 := l3.fr P _ hD nD
          refine ⟨m2, wipeE env vs, s2, it.xs[i], env3, r3, relE_wipe (E1.mono l13) vs, p3, q, fun σ4 E4 k4 n4 => ⟨by rw [wipe_congr n4 k4, wipe_wipe], m2, env3, s2, r3, E4, ?_⟩⟩
          cases ht : ft env3 s2 with
          | no => rw [ht] at g2; exact g2.elim
          | ex x s4 => rw [ht] at g2; exact g2.elim
          | ok b s4 =>
            simp only [ht] at g2
            intro m5 H5 b' l5 r5 eb
            cases (show b = b' from eb)
            have hD5 := l5.fr P _ hD3 nD
            have nD5 : P ∉ m5 := fun z => by
              rcases l5.nw P z with w | w
              · exact nD w
              · rw [hD3] at w; cases w
            have l15 := l13.trans l5
            cases b with
            | false =>
              refine iteF ⟨m5, s4, acc, accV, l15, r5, hD5, nD5, (pA.mono l3).mono l5, ?_⟩
              simpa using g2
            | true =>
              simp only [if_true] at g2
              refine iteT ⟨m5, env3, s4, r5, E4.mono l5, ?_⟩
              cases he : fk env3 s4 with
              | no => rw [he] at g2; exact g2.elim
              | ex x s6 => rw [he] at g2; exact g2.elim
              | ok y s6 =>
                simp only [he] at g2
                intro m7 H7 yv l7 r7 p7
                have hD7 := l7.fr P _ hD5 nD5
                have nD7 : P ∉ m7 := fun z => by
                  rcases l7.nw P z with w | w
                  · exact nD5 w
                  · rw [hD5] at w; cases w
                refine ⟨m7, env3, s6, r7, (E4.mono l5).mono l7, ?_⟩
                cases hv : fv env3 s6 with
                | no => rw [hv] at g2; exact g2.elim
                | ex x s8 => rw [hv] at g2; exact g2.elim
                | ok z s8 =>
                  simp only [hv] at g2
                  intro m9 H9 zv l9 r9 p9
                  have hD9 := l9.fr P _ hD7 nD7
                  have nD9 : P ∉ m9 := fun z => by
                    rcases l9.nw P z with w | w
                    · exact nD7 w
                    · rw [hD7] at w; cases w
                  cases hk : keyOf y with
                  | none => simp only [hk] at g2; exact g2.elim
                  | some k =>
                    simp only [hk] at g2
                    by_cases hz : acc.length < sizeLine
                    · simp only [hz, if_true] at g2
                      have pA9 := (((pA.mono l3).mono l5).mono l7).mono l9
                      have pP := (repk_put (k := k) pA9 p9).monoW (lw_sideD (m := m9) (ws := putK accV k zv) hD9)
                      exact ⟨accV, k, keyOf_rep p7 hk, hD9, by rw [← repk_len pA]; exact hz, m9, s8, putD acc k z, putK accV k zv, ((l15.trans l7).trans l9).sideD hP hD9, r9.sideD hD9 nD9, upd_same, nD9, pP, g2⟩
                    · simp only [hz, if_false] at g2
                      exact g2.elim
      · simp only [hgd, if_false] at g2
        exact g2.elim
    · have e : i = it.xs.length := by omega
      subst e
      rw [List.drop_length] at g2
      unfold dcL at g2
      by_cases hgd : it.guard s2
      · simp only [hgd, if_true] at g2
        refine .inl ⟨(p1 m2 H2 s2 l2 r2 hgd).2, ?_⟩
        exact g2 (m2 ++ [P]) H2 (.ref P) (l2.adopt hP) (r2.adoptD nD hD pA) (.loc (len_get r2))
      · simp only [hgd, if_false] at g2
        exact g2.elim
variable {ek ev tg iter c : Expr} {ifs : List Expr} {scope : Scope} {own : List (Str × Nat)} {pos : Pos} {fi : ME Itm} {gt : D → Sl → Option Sl} {ft : ME Bool} {fk fv : ME D}
theorem ce_dc (hc : X.calm = true) (hN : X.N.Nodup) (hi : PI X tg iter (Ti X.K X.mg W fi)) (ok : BlkOk X.N X.env.scope scope own)
    (hg : ∀ (s : Shared) (H : Hp) (C : Addr) (cl : List (Str × Addr)) (fp : List Addr), PG (X.blk s H scope (compEnvC scope cl C X.env) fp) tg (GTm X.K (own.map (·.2)) gt)) (ht : ∀ (s : Shared) (H : Hp) (C : Addr) (cl : List (Str × Addr)) (fp : List Addr), PTs (X.blk s H scope (compEnvC scope cl C X.env) fp) ifs (Tt X.K X.mg WF ft))
    (hk : ∀ (s : Shared) (H : Hp) (C : Addr) (cl : List (Str × Addr)) (fp : List Addr), PE (X.blk s H scope (compEnvC scope cl C X.env) fp) ek (Te X.K X.mg WF fk))
    (he : ∀ (s : Shared) (H : Hp) (C : Addr) (cl : List (Str × Addr)) (fp : List Addr), PE (X.blk s H scope (compEnvC scope cl C X.env) fp) ev (Te X.K X.mg WF fv)) (hs : ∀ x, foldedSetIterable iter X.env x = pure x := by intro _; rfl) :
    PE X (.DictComp ek ev [⟨tg, iter, ifs, 0⟩] scope pos) (Te X.K X.mg W (eDc fi (own.map (·.2)) gt ft fk fv)) := PE.imp (pe_dc hc hN hi ok hg ht hk he hs) dc_run
end
/-! ### name = {k: v for ..} on one line -/
section
variable {X : Cx} {W : WX} {kx vx tg iter : Expr} {ifs : List Expr} {sc : Scope} {own : List (Str × Nat)} {cp sp np : Pos} {z : Str} {l : Nat}
theorem sw_dict {env : Env} {gs : List Comprehension} (kind : env.scope.kind = .function) (there : env.scope.names.lookup z = some .local) (line : (np.line == cp.line) = true)
    (none_own : (sc.names.any fun (n, k) => n == z && (k == .local || k == .cell)) = false) : swapsWith (.DictComp kx vx gs sc cp) (some (.Name z np)) l env = pure true := by
  have q1 : env.kindOf z = some .local := there
  have q2 : env.blockKind = .function := by
    unfold Env.blockKind
    rw [kind]
    rfl
  unfold swapsWith
  simp only [q2, q1, none_own, Expr.pos, line]
  rfl
theorem cs_setDc {i : Nat} {fi : ME Itm} {gt : D → Sl → Option Sl} {ft : ME Bool} {fk fv : ME D} (calm : X.calm = true) (nd : X.N.Nodup) (at_ : X.N[i]? = some z) (there : X.env.scope.names.lookup z = some .local)
    (swaps : swapsWith (.DictComp kx vx [⟨tg, iter, ifs, 0⟩] sc cp) (some (.Name z np)) sp.line X.env = pure true) (pi : PI X tg iter (Ti X.K X.mg W fi)) (ok : BlkOk X.N X.env.scope sc own)
    (pg : ∀ (s : Shared) (H : Hp) (C : Addr) (cl : List (Str × Addr)) (fp : List Addr), PG (X.blk s H sc (compEnvC sc cl C X.env) fp) tg (GTm X.K (own.map (·.2)) gt))
    (pt : ∀ (s : Shared) (H : Hp) (C : Addr) (cl : List (Str × Addr)) (fp : List Addr), PTs (X.blk s H sc (compEnvC sc cl C X.env) fp) ifs (Tt X.K X.mg WF ft))
    (pk : ∀ (s : Shared) (H : Hp) (C : Addr) (cl : List (Str × Addr)) (fp : List Addr), PE (X.blk s H sc (compEnvC sc cl C X.env) fp) kx (Te X.K X.mg WF fk))
    (pv : ∀ (s : Shared) (H : Hp) (C : Addr) (cl : List (Str × Addr)) (fp : List Addr), PE (X.blk s H sc (compEnvC sc cl C X.env) fp) vx (Te X.K X.mg WF fv)) (folds : ∀ x, foldedSetIterable iter X.env x = pure x := by intro _; rfl) :
    PS X (.Assign [.Name z np] (.DictComp kx vx [⟨tg, iter, ifs, 0⟩] sc cp) sp) (Ts X.K X.mg W (sSet i (eDc fi (own.map (·.2)) gt ft fk fv))) := by
  constructor
  intro pins s σ H Dn I told
  rw [exec_Assign_Name_used _ _ _ _ swaps]
  apply wpAny_bind
  apply wpAny_standAt
  apply wpAny_bind
  show wpAny _ X.A (do
    let _ ← comprehension (.DictComp kx vx [⟨tg, iter, ifs, 0⟩] sc cp) sc X.env (firstIterPos [⟨tg, iter, ifs, 0⟩] cp) newDict false (eval iter X.env) (some (assign (.Name z np) X.env))) _ _ s
  have asked : tDc (Ti X.K X.mg W fi) (GTm X.K (own.map (·.2)) gt) (Tt X.K X.mg WF ft) (Te X.K X.mg WF fk) (Te X.K X.mg WF fv) (own.map (·.2)) σ H (fun x H1 => gName i x σ H1 Dn.nx) :=
    dc_run σ H _ (Ts.ofE (k := fun env d s => RS.nx (env.set i (some d)) s) told fun m1 H1 env d v s1 r1 E1 p1 g1 => g1 m1 _ H1 .refl r1 (relE_set E1 p1 i))
  apply wpAny_bind
  refine thn (dc_core (Qf := fun _ t => L2.SP X pins Dn .next t) calm nd I pi ok pg pt pk pv folds asked ?_) (fun _ _ q => wpAny_pure (wpAny_pure q))
  intro L C t m H2 I2 q ns fpok
  show wpAny _ _ (assign (.Name z np) X.env (.ref L)) _ _ _
  apply wpAny_assign_Name
  refine store_ok2 (v := V.ref L) I2 nd at_ (.inl there) rfl ?_ (.inr there)
  rintro t2 I3 ⟨a, but, where_⟩
  obtain ⟨g0, g1, g2, g3, g4, g5⟩ := fpok
  have away : C ≠ a := where_.elim (fun e => e.symm ▸ g1) (fun e w => g4 z a e w.symm)
  refine ⟨m, ns.sameBut but away, fun h4 but2 => ?_⟩
  exact ⟨_, H2, I3.turned (t' := t2.toks) (fun b o nb e => (but2.2 b nb).trans e) g0 g1 g3 g4 g5, q⟩
end
/-! ### x[i], x a text besides -/
def dIxZ (x i : D) (s : Store) : Option (D × Store) := match x, i with
  | .str z, .int j => if z.length ≤ 1000000 then (L2.atI z.cps.toList j).map fun c => (.str ⟨#[c]⟩, s) else none
  | .str _, _ => none
  | x, i => dIxA x i s
def rIxZ (K : PySem.W.Frag) : R2 := fun x y H Q => (rIx K x y H Q ∨ rIxDic x y H Q) ∨ rIxS x y H Q
theorem ix_Z {X : Cx} (hu : X.A.units + 64 < cLine) : IxR X (rIxZ X.K) := (ix_any hu).or ix_str
section
variable {K : PySem.W.Frag}
theorem ops_ixZ : OpS K (rIxZ K) dIxZ := by
  intro mg W σ m H s x y dx dy Q r px py g
  by_cases hz : ∃ z, dx = .str z
  · obtain ⟨z, rfl⟩ := hz
    cases px
    cases dy with
    | int j =>
      cases py
      by_cases hl : z.length ≤ 1000000
      · cases e : L2.atI z.cps.toList j with
        | none => simp [dIxZ, hl, e] at g; exact g.elim
        | some c =>
          have g' : G K mg (Rep K) W σ m H Q (.ok (.str ⟨#[c]⟩) s) := by simpa [dIxZ, hl, e] using g
          exact .inr ⟨z, j, c, rfl, rfl, le_line hl, e, g'.now r (.str _)⟩
      · simp [dIxZ, hl] at g; exact g.elim
    | _ => exact g.elim
  · have e : dIxZ dx dy s = dIxA dx dy s := by
      cases dx <;> first | rfl | exact (hz ⟨_, rfl⟩).elim
    rw [e] at g
    exact .inl (ops_ixA r px py g)
theorem dIxZ_tup (xs : List D) (i : D) (s : Store) : dIxZ (.tup xs) i s = dIx (.tup xs) i s := by cases i <;> rfl
theorem dIxZ_locA (l : Nat) (i : D) (s : Store) : dIxZ (.loc l) i s = dIxA (.loc l) i s := by cases i <;> rfl
theorem dIxZ_loc {s : Store} {l : Nat} {xs : List D} (h : s[l]? = some (.lst xs)) (i : Int) : dIxZ (.loc l) (.int i) s = dIx (.loc l) (.int i) s := by
  rw [dIxZ_locA, dIxA_loc h, dIx_loc h]
theorem dIxZ_str {z : Str} (h : z.length ≤ 1000000) (j : Int) (s : Store) : dIxZ (.str z) (.int j) s = (L2.atI z.cps.toList j).map fun c => (.str ⟨#[c]⟩, s) := by
  show (if z.length ≤ 1000000 then _ else none) = _
  rw [if_pos h]
/-! ### [x] * n -/
noncomputable def dRep (x y : D) (s : Store) : Option (D × Store) := match x, y with
  | .loc l, .int k => match s[l]? with
    | some (.lst xs) => if -(2 ^ 63) ≤ k ∧ k < 2 ^ 63 ∧ xs.length * k.toNat ≤ sizeLine then some (.loc s.length, s ++ [.lst (List.replicate k.toNat xs).flatten]) else none
    | _ => none
  | _, _ => none
theorem reps_rep {m : List Addr} {H : Hp} {xs : List D} {vs : List V} (p : Reps K m H xs vs) : ∀ n, Reps K m H (List.replicate n xs).flatten (List.replicate n vs).flatten
  | 0 => .nil
  | n + 1 => by
    rw [List.replicate_succ, List.replicate_succ, List.flatten_cons, List.flatten_cons]
    exact p.append (reps_rep p n)
theorem ops_rep : OpS K rRep dRep := by
  intro mg W σ m H s x y dx dy Q r px py g
  unfold dRep at g
  split at g
  · rename_i l k
    cases py
    cases px with
    | loc hl =>
      split at g
      · rename_i xs q
        split at g
        · rename_i hz
          obtain ⟨vs, h1, h2⟩ := r.list hl q
          refine ⟨_, k, vs, rfl, rfl, h1, hz.1, hz.2.1, by rw [← h2.length]; exact hz.2.2, fun p hp => ?_⟩
          exact g (m ++ [p]) _ _ (le_more r hp) (rel_newlist r hp (reps_rep h2 k.toNat)) (.loc (len_get r))
        · exact g.elim
      · exact g.elim
  · exact g.elim
/-! ### t.index(z), a tuple of texts -/
def strsOf : List D → Option (List Str)
  | [] => some []
  | .str z :: r => (strsOf r).map fun q => z :: q
  | _ => none
theorem strsOf_map (zs : List Str) : strsOf (zs.map D.str) = some zs := by
  induction zs with
  | nil => rfl
  | cons z zs ih => simp [strsOf, ih]
theorem strs_reps {m : List Addr} {H : Hp} : ∀ {ds : List D} {vs : List V} {zs : List Str}, Reps K m H ds vs → strsOf ds = some zs → vs = zs.map V.str
  | [], _, _, .nil, e => by cases e; rfl
  | d :: ds, _, zs, .cons h r, e => by
    cases d with
    | str z =>
      cases h
      simp only [strsOf] at e
      cases q : strsOf ds with
      | none => rw [q] at e; cases e
      | some w =>
        rw [q] at e
        cases e
        rw [List.map_cons, strs_reps r q]
    | _ => cases e
def rTix (K : PySem.W.Frag) : V → List V → Hp → VK → Prop := fun x xs H Q => ∃ p, ∃ ys : List Str, ∃ z j, x = .ref p ∧ xs = [.str z] ∧ SqT K H p (ys.map V.str) ∧ ys[j]? = some z ∧ (∀ m, m < j → ys[m]? ≠ some z) ∧ Q (.int (j : Nat)) H
theorem mt_tix {X : Cx} : MtR X "tuple.index" (rTix X.K) := mt_tup_index
def dTix (x : D) (ys : List D) (s : Store) : Option (D × Store) := match x, ys with
  | .tup xs, [.str z] => (strsOf xs).bind fun zs => (zs.findIdx? fun w => decide (w = z)).map fun j => (.int (j : Nat), s)
  | _, _ => none
theorem mts_tix : MtS K (rTix K) dTix := by
  intro mg W σ m H s x d xs ds Q r p ps g
  unfold dTix at g
  split at g
  · rename_i ys z
    obtain ⟨w, rfl, h⟩ := reps1 ps
    cases h
    obtain ⟨a, vs, rfl, h1, h2⟩ := p.sqT
    cases e : strsOf ys with
    | none => rw [e] at g; exact g.elim
    | some zs =>
      rw [e, Option.bind_some] at g
      cases q : zs.findIdx? fun w => decide (w = z) with
      | none => rw [q] at g; exact g.elim
      | some j =>
        rw [q] at g
        obtain ⟨hj, q1, q2⟩ := List.findIdx?_eq_some_iff_getElem.mp q
        have ev := strs_reps h2 e
        subst ev
        have hz : zs[j] = z := of_decide_eq_true q1
        refine ⟨a, zs, z, j, rfl, rfl, h1, by rw [List.getElem?_eq_getElem hj, hz], fun i hi w => ?_, g.now r (.int _)⟩
        have hi' : i < zs.length := by omega
        rw [List.getElem?_eq_getElem hi'] at w
        have := q2 i hi
        simp only [decide_eq_true_eq] at this
        exact this (Option.some.inj w)
  · exact g.elim
end
/-! ### list(d), d a dict -/
def keyD : Key → D
  | .inl i => .int i
  | .inr z => .str z
def rListA (K : PySem.W.Frag) : List V → Hp → VK → Prop := fun xs H Q => (∃ p ys, xs = [.ref p] ∧ (SqL K H p ys ∨ SqT K H p ys) ∧ ∀ l, H l = none → Q (.ref l) (upd H l (.lst ys))) ∨
  (∃ d kvs, xs = [V.ref d] ∧ Rd H d (.dT kvs) ∧ ∀ p bs, H p = none → IsKeys H kvs bs → Q (.ref p) (upd H p (.lst (bs.map V.ref)))) ∨
  ∃ (a : Addr) (kvs : List (Key × V)), xs = [.ref a] ∧ Rd H a (.dK kvs) ∧ ∀ p, H p = none → Q (.ref p) (upd H p (.lst (kvs.map fun kv => kV kv.1)))
theorem call_listA {X : Cx} (hc : X.calm = true) : CallR X (.type "list") (rListA X.K) := call_list_of.or ((call_list_dT hc).or (call_listD hc))
def dListA (ds : List D) (s : Store) : Option (D × Store) := match ds with
  | [x] => match dicOf s x with
    | some (_, ks) => some (.loc s.length, s ++ [.lst (ks.map fun kv => keyD kv.1)])
    | none => match dctOf s x with
      | some (_, ks) => some (.loc s.length, s ++ [.lst (ks.map fun kv => .tup (kv.1.map keyD))])
      | none => dList [x] s
  | _ => none
section
variable {K : PySem.W.Frag} {m : List Addr} {H : Hp}
theorem keyD_rep (k : Key) : Rep K m H (keyD k) (kV k) := by
  cases k with
  | inl i => exact .int i
  | inr z => exact .str z
theorem keysD_rep : ∀ ks : List Key, Reps K m H (ks.map keyD) (ks.map kV)
  | [] => .nil
  | k :: ks => .cons (keyD_rep k) (keysD_rep ks)
theorem reps_keysK : ∀ {ks : List (Key × D)} {vs : List (Key × V)}, RepK K m H ks vs → Reps K m H (ks.map fun kv => keyD kv.1) (vs.map fun kv => kV kv.1)
  | _, _, .nil => .nil
  | _, _, .cons (k := k) _ r => .cons (keyD_rep k) (reps_keysK r)
theorem reps_keysT : ∀ {ks : List (List Key × D)} {vs : List (List Key × V)} {bs : List Addr}, RepK K m H ks vs → IsKeys H vs bs → Reps K m H (ks.map fun kv => .tup (kv.1.map keyD)) (bs.map V.ref)
  | _, _, _, .nil, q => by cases q; exact .nil
  | _, _, _, .cons (k := k) _ r, q => by
    cases q with
    | cons h t => exact .cons (.tup h (keysD_rep k)) (reps_keysT r t)
theorem fns_listA : FnS K (rListA K) dListA := by
  intro mg W σ m H s xs ds Q r p g
  unfold dListA at g
  split at g
  · rename_i x
    obtain ⟨v, rfl, h⟩ := reps1 p
    cases e : dicOf s x with
    | some o =>
      obtain ⟨l, ks⟩ := o
      rw [e] at g
      obtain ⟨a, vs, _, rfl, _, h1, h2⟩ := dicOf_at r h e
      refine .inr (.inr ⟨a, vs, rfl, .inl h1, fun q hq => ?_⟩)
      exact g (m ++ [q]) _ _ (le_more r hq) (rel_newlist r hq (reps_keysK h2)) (.loc (len_get r))
    | none =>
      rw [e] at g
      simp only at g
      cases e2 : dctOf s x with
      | some o =>
        obtain ⟨l, ks⟩ := o
        rw [e2] at g
        obtain ⟨a, vs, _, rfl, _, h1, h2⟩ := dctOf_at r h e2
        refine .inr (.inl ⟨a, vs, rfl, .inl h1, fun q bs hq hk => ?_⟩)
        exact g (m ++ [q]) _ _ (le_more r hq) (rel_newlist r hq (reps_keysT h2 hk)) (.loc (len_get r))
      | none =>
        rw [e2] at g
        exact .inl (fns_list r p g)
  · exact g.elim
end
/-! ### a, b = e, e a list -/
/-- a list taken apart -/
def sAsgL (n : Nat) (r : List D → Sl → Option Sl) (e : ME D) : MS := fun env s => (e env s).then env fun d s => match lstOf s d with
  | some xs => if xs.length = n then (match r xs env with | some env' => .nx env' s | none => .no) else .no
  | none => .no
section
variable {X : Cx} {W : WX} {pos : Pos} {tpos : Pos} {es : List Expr} {e : Expr} {fe : ME D}
theorem cs_asgL {k n : Nat} {r : List D → Sl → Option Sl} {vs : List Nat} (hc : X.calm = true) (he : PE X e (Te X.K X.mg W fe)) (h : PGs X es (GTs X.K vs r)) (hn : (assignEach es X.env).length = n := by rfl) (hst : (assignEach es X.env).findIdx? (·.1) = none := by rfl)
    (hs : swapsWithSole [.Tuple es k tpos] e pos.line X.env = pure false := by rfl) (hw : swappedStores [.Tuple es k tpos] e X.env = pure none := by rfl)
    (h1 : (assignEach [.Tuple es k tpos] X.env).map (·.2) = [assign (.Tuple es k tpos) X.env] := by rfl) : PS X (.Assign [.Tuple es k tpos] e pos) (Ts X.K X.mg W (sAsgL n r fe)) := PS.imp (ps_asg he (pg_lst (n := n) hc h hn hst) hs hw h1) fun Dn σ H h =>
  Ts.ofE (k := fun env d s => match lstOf s d with
  | some xs => if xs.length = n then (match r xs env with | some env' => RS.nx env' s | none => .no) else .no
  | none => .no) h fun m1 H1 env d v s1 r1 E1 p1 g1 => by
    cases q : lstOf s1 d with
    | none => simp only [q] at g1; exact g1.elim
    | some xs =>
      simp only [q] at g1
      by_cases hl : xs.length = n
      · simp only [hl, if_true] at g1
        cases q2 : r xs env with
        | none => simp only [q2] at g1; exact g1.elim
        | some env' =>
          simp only [q2] at g1
          obtain ⟨a, ws, rfl, hq, rr⟩ := lstOf_sq r1 p1 q
          exact ⟨a, ws, rfl, hq, by rw [← rr.length]; exact hl, m1, env, s1, xs, env', r1, E1, rr, q2, fun σ' E' _ _ => g1 m1 σ' H1 .refl r1 E'⟩
      · simp only [hl, if_false] at g1
        exact g1.elim
end
end Mi
namespace Mi
open PySem PySem.Spec PyProof.Rows L2
/-! ### picked places -/
def permL {α : Type} (is : List Nat) (xs : List α) : List α := is.filterMap (xs[·]?)
theorem vals_perm {xs : List V} {us : List Value} (r : Vals xs us) : ∀ is : List Nat, Vals (permL is xs) (permL is us)
  | [] => .nil
  | i :: is => by
    unfold permL
    rw [List.filterMap_cons, List.filterMap_cons]
    cases q : xs[i]? with
    | none => rw [r.none_of q]; exact vals_perm r is
    | some x =>
      obtain ⟨u, e, h⟩ := r.get q
      rw [e]
      exact .cons h (vals_perm r is)
section
variable {K : PySem.W.Frag} {m : List Addr} {H : Hp}
theorem reps_perm {xs : List D} {vs : List V} (r : Reps K m H xs vs) : ∀ is : List Nat, Reps K m H (permL is xs) (permL is vs)
  | [] => .nil
  | i :: is => by
    unfold permL
    rw [List.filterMap_cons, List.filterMap_cons]
    cases q : xs[i]? with
    | none =>
      have : vs[i]? = none := by
        have h := List.getElem?_eq_none_iff.mp q
        rw [r.length] at h
        exact List.getElem?_eq_none_iff.mpr h
      rw [this]; exact reps_perm r is
    | some x =>
      obtain ⟨u, e, h⟩ := r.get q
      rw [e]
      exact .cons h (reps_perm r is)
theorem mem_perm {α : Type} {is : List Nat} {xs : List α} {x : α} (h : x ∈ permL is xs) : x ∈ xs := by
  obtain ⟨i, _, e⟩ := List.mem_filterMap.mp h
  exact List.mem_of_getElem? e
theorem perm_length {α : Type} (is : List Nat) (xs : List α) : (permL is xs).length ≤ is.length := List.length_filterMap_le ..
end
/-! ### x[a:b:c], a list -/
def stepIs (lo hi st : Option Int) (n : Nat) : List Nat := sliceRange (sliceBounds lo hi st n).1 (sliceBounds lo hi st n).2.1 (sliceBounds lo hi st n).2.2
def tStep (K : PySem.W.Frag) (te : TE) (tl tu ts : TO) : TE := fun σ H Q => te σ H fun x H1 => tl σ H1 fun l H2 => tu σ H2 fun u H3 => ts σ H3 fun st H4 =>
  ∃ a xs, x = .ref a ∧ SqL K H4 a xs ∧ st ≠ some 0 ∧ (permL (stepIs l u st xs.length) xs).length ≤ sizeLine ∧ ∀ p, H4 p = none → Q (.ref p) (upd H4 p (.lst (permL (stepIs l u st xs.length) xs)))
theorem pe_step {X : Cx} {e : Expr} {te : TE} {tl tu ts : TO} {lo hi : Option Expr} {st : Expr} {p3 pos : Pos} (he : PE X e te) (hl : PO X lo tl) (hu : PO X hi tu) (hs : PO X (some st) ts) : PE X (.Subscript e (.Slice lo hi (some st) p3) pos) (tStep X.K te tl tu ts) := by
  refine ⟨fun pins s σ H Q I h => Subscript_ (thn (he.run pins s σ H _ I h) fun v s1 ⟨x, H1, I1, r1, q1⟩ => ?_)⟩
  refine wpAny_Slice (thn (hl.run pins s1 σ H1 _ I1 q1) fun vl s2 ⟨l, H2, I2, pl, q2⟩ => thn (hu.run pins s2 σ H2 _ I2 q2) fun vu s3 ⟨u, H3, I3, pu, q3⟩ => thn (hs.run pins s3 σ H3 _ I3 q3) fun vs s4 ⟨o, H4, I4, ps, q4⟩ => ?_)
  obtain ⟨a, xs, ex, hx, h0, hz, q⟩ := q4
  subst ex
  cases r1
  have I5 : Inv X pins σ H4 { s4 with heap := s4.heap.push { cls := .type "slice", data := .fields #[vl, vu, vs] } } := I4.kept (t' := s4.toks) fun b ob q => Heap.get?_push_of_some _ q
  show wpAny (model X.prog X.w) X.A (subscriptTail e (.Slice lo hi (some st) p3) (.ref a) (.ref s4.heap.objs.size)) (EP X pins σ Q) X.xe { s4 with heap := s4.heap.push { cls := .type "slice", data := .fields #[vl, vu, vs] } }
  obtain ⟨its, r, ht, hz2⟩ := I5.list hx
  have hlen := r.length
  refine tail_any (ops := [.ref a, .ref s4.heap.objs.size]) ht.isList.typeIs (PySem.slot_list_getitem.lookup) ?_ (by with_unfolding_all rfl)
  refine wpAny_getItem_list_slice ht.isList (Heap.IsSliceOf.new _ vl vu vs) pl pu ps h0 ?_ (by rw [List.size_toArray]; omega)
  have ep : slicePick its.toArray l u o = (permL (stepIs l u o xs.length) its).toArray := by
    unfold slicePick permL stepIs
    rw [List.size_toArray, ← hlen]
    simp
  rw [ep]
  refine ⟨.ref _, _, I5.laid (t' := s4.toks) (o := .lst (permL (stepIs l u o xs.length) xs)) (fun b ob q => Heap.get?_push_of_some _ q) (Nat.le_refl _) ?_, rfl, q _ (I5.hok.fresh (Nat.le_refl _))⟩
  exact ⟨hz, _, 0, vals_perm r _, Heap.get?_push_size _ rfl⟩
noncomputable def dStep (x : D) (lo hi st : Option Int) (s : Store) : Option (D × Store) := (lstOf s x).bind fun xs =>
  if st ≠ some 0 ∧ (permL (stepIs lo hi st xs.length) xs).length ≤ sizeLine then some (.loc s.length, s ++ [.lst (permL (stepIs lo hi st xs.length) xs)]) else none
noncomputable def eStep (a : ME D) (lo hi st : ME (Option Int)) : ME D := fun env s => (a env s).bind fun x s => (lo env s).bind fun l s => (hi env s).bind fun u s => (st env s).bind fun t s => R.of (dStep x l u t s)
section
variable {X : Cx} {W : WX} {pos p2 : Pos} {a c : Expr} {fa : ME D} {ol oh os : ME (Option Int)} {lo hi : Option Expr}
theorem ce_step (ha : PE X a (Te X.K X.mg W fa)) (hl : PO X lo (To X.K X.mg W ol)) (hu : PO X hi (To X.K X.mg W oh)) (hs : PO X (some c) (To X.K X.mg W os)) :
    PE X (.Subscript a (.Slice lo hi (some c) p2) pos) (Te X.K X.mg W (eStep fa ol oh os)) :=
  PE.imp (pe_step ha hl hu hs) fun σ H Q h => Tm.bind (k := fun env x s => (ol env s).bind fun l s => (oh env s).bind fun u s => (os env s).bind fun t s => R.of (dStep x l u t s)) h fun m1 H1 env x v s1 r1 E1 p1 g1 =>
    ⟨m1, env, s1, r1, E1, G.bind g1 fun m2 H2 l l' s2 l2 r2 p2 g2 => ⟨m2, env, s2, r2, E1.mono l2, G.bind g2 fun m3 H3 u u' s3 l3 r3 p3 g3 => ⟨m3, env, s3, r3, (E1.mono l2).mono l3, G.bind g3 fun m4 H4 t t' s4 l4 r4 p4 g4 => by
      cases (show l = l' from p2); cases (show u = u' from p3); cases (show t = t' from p4)
      have p := ((p1.mono l2).mono l3).mono l4
      unfold dStep at g4
      cases e : lstOf s4 x with
      | none => rw [e] at g4; exact g4.elim
      | some xs =>
        rw [e, Option.bind_some] at g4
        obtain ⟨b, vs, rfl, hq, rr⟩ := lstOf_sq r4 p e
        by_cases hz : t ≠ some 0 ∧ (permL (stepIs l u t xs.length) xs).length ≤ sizeLine
        · rw [if_pos hz] at g4
          have el : vs.length = xs.length := rr.length.symm
          have rp := reps_perm rr (stepIs l u t xs.length)
          refine ⟨b, vs, rfl, hq, hz.1, by rw [el, ← rp.length]; exact hz.2, fun q hq' => ?_⟩
          rw [el]
          exact g4 (m4 ++ [q]) _ _ (le_more r4 hq') (rel_newlist r4 hq' rp) (.loc (len_get r4))
        · rw [if_neg hz] at g4
          exact g4.elim⟩⟩⟩
end
/-! ### dict(zip(a, b)), two lists -/
def tDictZip (K : PySem.W.Frag) (ta : TA) : TE := fun σ H Q => ta σ H fun vs H1 => ∃ (a b : Addr) (ks : List Key) (xs : List V), vs = [.ref a, .ref b] ∧ SqL K H1 a (ks.map kV) ∧ SqL K H1 b xs ∧ ks.length = xs.length ∧ ∀ p, H1 p = none → Q (.ref p) (upd H1 p (.dK (mergeK [] (ks.zip xs))))
theorem kv_zip {P : Program} {w : World} : ∀ {ks : List Key} {xs : List V} {us ws : List Value}, Vals (ks.map kV) us → Vals xs ws → ks.length = xs.length →
    ∃ prs : List (Key × Value), KV (ks.zip xs) prs ∧ prs.length = ks.length ∧ ∀ (i : Nat) (k v : Value), us[i]? = some k → ws[i]? = some v → ∃ q, prs[i]? = some (q, v) ∧ (mixKind P w).is q k = true
  | [], _, us, ws, r, r2, e => by
    cases r
    exact ⟨[], .nil, rfl, fun i k v h => by simp at h⟩
  | k :: ks, [], _, _, _, _, e => by cases e
  | k :: ks, x :: xs, us, ws, r, r2, e => by
    rw [List.map_cons] at r
    cases r with
    | cons h t =>
      cases r2 with
      | cons h2 t2 =>
        rename_i u us' w' ws'
        obtain ⟨prs, q1, q2, q3⟩ := kv_zip (P := P) (w := w) t t2 (by simpa using e)
        refine ⟨(k, w') :: prs, .cons ⟨rfl, h2⟩ q1, by simp [q2], fun i k' v h1 h3 => ?_⟩
        cases i with
        | zero =>
          simp at h1 h3
          subst h1; subst h3
          exact ⟨k, rfl, kV_is (P := P) (w := w) h⟩
        | succ i => exact q3 i k' v (by simpa using h1) (by simpa using h3)
theorem pe_dictZip {X : Cx} {e e2 : Expr} {ta : TA} {p p2 pos q : Pos} (hg : Gl X "dict") (hm : X.mg "dict" = none) (hg2 : Gl X "zip") (hm2 : X.mg "zip" = none) (ha : PA X [e, e2] ta) (hc : X.calm = true := by rfl)
    (na : starEach [Expr.Call (.Name "zip" p2) [e, e2] [] q] X.env = (false, eval (Expr.Call (.Name "zip" p2) [e, e2] [] q) X.env) :: starEach [] X.env := by rfl)
    (hs : starEach [e, e2] X.env = (false, eval e X.env) :: starEach [e2] X.env := by rfl) (hpl : (backTo q (starEach [e2] X.env)).any (·.1) = false := by rfl) :
    PE X (.Call (.Name "dict" p) [.Call (.Name "zip" p2) [e, e2] [] q] [] pos) (tDictZip X.K ta) := by
  refine ⟨fun pins s σ H Q I h => ?_⟩
  refine Call_ (ld_blt I hg hm PyProof.Rows.boot_dict ?_)
  refine PyProof.Rows.callWith_type1 (PyProof.Rows.args_cons ?_ na) na rfl
  refine Call_ (ld_blt I hg2 hm2 PyProof.Rows.boot_zip (PyProof.Rows.callWith_type1 (thn (ha.run q pins s σ H _ I h) fun us s1 ⟨vs, H1, I1, r1, q1⟩ => ?_) hs hpl))
  obtain ⟨a, b, ks, xs, ex, hqx, hqy, hlen, q1⟩ := q1
  subst ex
  cases r1 with
  | cons r rr =>
    cases rr with
    | cons r' rr =>
      cases rr
      cases r
      cases r'
      obtain ⟨its, rv, p1, hz1⟩ := I1.list hqx
      obtain ⟨its2, rv2, p2', _⟩ := I1.list hqy
      refine call_zip_2 p1.isList p2'.isList fun h' hz hTI hTO h1 h2 hsz hk => ?_
      refine PyProof.Rows.args_nil ?_
      have I2 : Inv X pins σ H1 { s1 with heap := h' } := I1.kept (t' := s1.toks) hk
      obtain ⟨prs, d1, d2, d3⟩ := kv_zip (P := X.prog) (w := X.w) rv rv2 hlen
      have l1 : its.length = ks.length := by rw [← rv.length, List.length_map]
      have l2 : its2.length = ks.length := by rw [← rv2.length, hlen]
      have D := PySem.W.ktu_apart s1.heap.objs.size a b p1.lt p2'.lt
      refine PySem.call_dict_pairs (s := { s1 with heap := h' }) (knd := mixKind X.prog X.w) (kvs := prs) (PySem.PairArg.zip (s1.heap.objs.size + 4) (s1.heap.objs.size + 2) (s1.heap.objs.size + 3) s1.heap.objs.size (s1.heap.objs.size + 1) a b D its.toArray its2.toArray) (I2.ok.hd hc)
        ⟨hz, hTI, ⟨_, _, hTO⟩, h1, h2, p1.isList.at fun o e => hk _ _ e, p2'.isList.at fun o e => hk _ _ e⟩ ⟨?_, ?_⟩ ?_ ?_
      · simp [l1, l2, d2]
      · intro i key v ⟨e1, e2⟩
        exact d3 i key v (by simpa using e1) (by simpa using e2)
      · simp only [List.size_toArray, l1, l2, Nat.min_self]
        rw [← List.length_map (as := ks) (f := kV)]; exact hz1
      · intro h'' tk hd' hk2
        have k2 : ∀ b o, s1.heap.get? b = some o → h''.get? b = some o := fun b o e => by
          refine hk2 b o (fun z => ?_) (hk b o e)
          have lt := Heap.lt_size e
          simp only [List.mem_cons, List.not_mem_nil, or_false] at z
          rcases z with z | z | z | z
          · exact Nat.not_lt.mpr (Nat.le_add_right _ _) (z ▸ lt)
          · exact Nat.not_lt.mpr (Nat.le_add_right _ _) (z ▸ lt)
          · exact Nat.lt_irrefl _ (z ▸ lt)
          · exact Nat.not_lt.mpr (Nat.le_add_right _ _) (z ▸ lt)
        have hb : (h'.objs.size == sysModules) = false := beq_eq_false_iff_ne.mpr (Nat.ne_of_gt I2.big)
        have hle : (mergeK [] (ks.zip xs)).length ≤ sizeLine := by
          refine Nat.le_trans (length_mergeK _ []) ?_
          rw [List.length_nil, Nat.zero_add, List.length_zip, ← hlen, Nat.min_self, ← List.length_map (as := ks) (f := kV)]
          exact hz1
        have sz : s1.heap.objs.size ≤ h'.objs.size := by omega
        exact ⟨.ref h'.objs.size, upd H1 h'.objs.size (.dK (mergeK [] (ks.zip xs))), I1.laid (t' := tk) k2 sz (show ObjOk X.prog X.w _ _ _ (.dK (mergeK [] (ks.zip xs))) from ⟨hle, hb, merged [] prs, KV.merge d1 .nil, hd'⟩), rfl, q1 _ (I1.hok.fresh sz)⟩
def keysZ : List D → Option (List Key)
  | [] => some []
  | d :: ds => (keyOf d).bind fun k => (keysZ ds).map fun ks => k :: ks
def mergeD (acc : List (Key × D)) (more : List (Key × D)) : List (Key × D) := more.foldl (fun acc kv => putD acc kv.1 kv.2) acc
def dDictZip (ds : List D) (s : Store) : Option (D × Store) := match ds with
  | [x, y] => (lstOf s x).bind fun xs => (lstOf s y).bind fun ys => (keysZ xs).bind fun ks => if ks.length = ys.length then some (.loc s.length, s ++ [.dic (mergeD [] (ks.zip ys))]) else none
  | _ => none
section
variable {K : PySem.W.Frag} {m : List Addr} {H : Hp}
theorem keysZ_rep : ∀ {ds : List D} {vs : List V} {ks : List Key}, Reps K m H ds vs → keysZ ds = some ks → vs = ks.map kV
  | [], _, _, .nil, e => by cases e; rfl
  | d :: ds, _, ks, .cons h t, e => by
    unfold keysZ at e
    cases q : keyOf d with
    | none => rw [q] at e; cases e
    | some k =>
      rw [q, Option.bind_some] at e
      cases q2 : keysZ ds with
      | none => rw [q2] at e; cases e
      | some ks2 =>
        rw [q2] at e
        cases e
        rw [keyOf_rep h q, keysZ_rep t q2, List.map_cons]
theorem repk_zip : ∀ {ks : List Key} {ys : List D} {vs : List V}, Reps K m H ys vs → RepK K m H (ks.zip ys) (ks.zip vs)
  | [], _, _, _ => .nil
  | k :: ks, _, _, .nil => by rw [List.zip_nil_right, List.zip_nil_right]; exact .nil
  | k :: ks, _, _, .cons h t => by rw [List.zip_cons_cons, List.zip_cons_cons]; exact .cons h (repk_zip t)
theorem repk_merge {more : List (Key × D)} {moreV : List (Key × V)} (h : RepK K m H more moreV) : ∀ {acc : List (Key × D)} {accV : List (Key × V)}, RepK K m H acc accV → RepK K m H (mergeD acc more) (mergeK accV moreV) := by
  induction h with
  | nil => exact fun r => r
  | @cons k x v xs vs h t ih =>
    intro acc accV r
    exact ih (repk_put (k := k) r h)
end
section
variable {X : Cx} {W : WX} {pos p p2 q : Pos} {e e2 : Expr} {fs : ME (List D)}
theorem ce_dictZip (hc : X.calm = true) (hg : Gl X "dict") (hm : X.mg "dict" = none) (hg2 : Gl X "zip") (hm2 : X.mg "zip" = none) (ha : PA X [e, e2] (Ta X.K X.mg W fs))
    (na : starEach [Expr.Call (.Name "zip" p2) [e, e2] [] q] X.env = (false, eval (Expr.Call (.Name "zip" p2) [e, e2] [] q) X.env) :: starEach [] X.env := by rfl)
    (hs : starEach [e, e2] X.env = (false, eval e X.env) :: starEach [e2] X.env := by rfl) (hpl : (backTo q (starEach [e2] X.env)).any (·.1) = false := by rfl) :
    PE X (.Call (.Name "dict" p) [.Call (.Name "zip" p2) [e, e2] [] q] [] pos) (Te X.K X.mg W (eFn dDictZip fs)) :=
  PE.imp (pe_dictZip hg hm hg2 hm2 ha hc na hs hpl) fun σ H Q h => Tm.bind (k := fun env xs s => R.of (dDictZip xs s)) h fun m1 H1 env ds vs s1 r1 E1 p1 g1 => by
    unfold dDictZip at g1
    split at g1
    · rename_i x y
      obtain ⟨v, w, rfl, px, py⟩ := reps2 p1
      cases q1 : lstOf s1 x with
      | none => rw [q1] at g1; exact g1.elim
      | some xs =>
        cases q2 : lstOf s1 y with
        | none => rw [q1, Option.bind_some, q2] at g1; exact g1.elim
        | some ys =>
          cases q3 : keysZ xs with
          | none => rw [q1, Option.bind_some, q2, Option.bind_some, q3] at g1; exact g1.elim
          | some ks =>
            rw [q1, Option.bind_some, q2, Option.bind_some, q3, Option.bind_some] at g1
            by_cases hl : ks.length = ys.length
            · rw [if_pos hl] at g1
              obtain ⟨a, vx, rfl, h1, rx⟩ := lstOf_sq r1 px q1
              obtain ⟨b, vy, rfl, h2, ry⟩ := lstOf_sq r1 py q2
              have ev := keysZ_rep rx q3
              subst ev
              refine ⟨a, b, ks, vy, rfl, h1, h2, by rw [hl, ry.length], fun q hq => ?_⟩
              have rk : RepK X.K m1 H1 (mergeD [] (ks.zip ys)) (mergeK [] (ks.zip vy)) := repk_merge (repk_zip ry) .nil
              exact g1 (m1 ++ [q]) _ _ (le_more r1 hq) (r1.new hq ⟨_, upd_same, rk.mono (le_more r1 hq)⟩) (.loc (len_get r1))
            · rw [if_neg hl] at g1
              exact g1.elim
    · exact g1.elim
end
/-! ### f(k = e, ..) of keywords alone -/
def KBi (K : PySem.W.Frag) (fd : FuncData) (ps ks : List Str) (is : List Nat) : Prop := ∀ (s : Shared) (ws : List Value), K.In s.heap → ws.length = ks.length → BindsTo s fd ⟨[], ks.zip ws⟩ (ps.zip (permL is ws))
theorem kbi {K : PySem.W.Frag} {x qual : Str} {st : Stmt} {f : Addr} {fd : FuncData} {ps ks : List Str} {is : List Nat} (F : Fun K x qual st f fd)
    (h : ∀ (kV doc pm : Value) (an : Option Addr) (cdv ct : Value) (ws : List Value), ws.length = ks.length → bindArgs (PySem.W.fnOf x qual (defArgs st) (defBody st) (defScope st) .none kV doc pm an cdv ct) ⟨[], ks.zip ws⟩ = pure (ps.zip (permL is ws))) : KBi K fd ps ks is := by
  obtain ⟨oc, od, kV, doc, pm, an, cdv, ct, osl, rfl, lk, hcd⟩ := F.ex
  exact fun s ws _ hl => .of_eq (h kV doc pm an cdv ct ws hl)
def tCallKw (n : Nat) (is : List Nat) (sp : Sp) (E : L2.St → XK) (t : TA) : TE := fun σ H Q => t σ H fun zs H1 => zs.length = n ∧ sp (permL is zs) H1 Q (E σ)
section
variable {X : Cx} {CX : CXT} {k : Nat} {f : Addr} {fd : FuncData} {ps ks : List Str} {sp : Sp} {E : L2.St → XK} {x : Str} {p pos : Pos} {kws : List Keyword} {t : TA} {is : List Nat}
theorem run_fnKw {pins : List (Addr × Obj)} {σ : L2.St} {H : Hp} {s : Shared} {Q : VK} {ws : List Value} {zs : List V} (F : FnOk X.prog X.w X.K X.mg X.base CX k f fd ps sp) (hr : Room k X.A) (hb : KBi X.K fd ps ks is) (hx : PassesAt CX X σ (E σ))
    (I : Inv X pins σ H s) (r : Vals zs ws) (hl : zs.length = ks.length) (h : sp (permL is zs) H Q (E σ)) : wpAny (model X.prog X.w) X.A (call (.ref f) [] (ks.zip ws)) (EP X pins σ Q) X.xe s := by
  refine wpAny_call (codeAny_mono (F.run X.A X.stack s H ⟨[], ks.zip ws⟩ (permL is ws) (permL is zs) Q (E σ) hr I.env0 (hb s ws I.kIn (by rw [← r.length]; exact hl)) (vals_perm r is) h) fun r s' hq => ?_)
  cases r with
  | error e => exact hx pins H s e s' I hq
  | ok fl =>
    cases fl with
    | ret u => exact I.after hq
    | next => exact False.elim hq
    | brk => exact False.elim hq
    | cont => exact False.elim hq
theorem pe_callKw (F : FnOk X.prog X.w X.K X.mg X.base CX k f fd ps sp) (hr : Room k X.A) (hg : Gl X x) (hm : X.mg x = some (.ref f)) (hk : PySem.W.keepIn X.K (.ref f) = true) (hb : KBi X.K fd ps ks is) (hx : ∀ σ, PassesAt CX X σ (E σ))
    (hkw : PK X kws t) (hall : (backToKw pos (keywordEach kws X.env)).all (·.1.isSome) = true := by rfl) (hks : (backToKw pos (keywordEach kws X.env)).filterMap (·.1) = ks := by rfl)
    (hdb : (x == ("__debug__" : Str)) = false := by decide)
    (hpl : ((backTo pos (starEach [] X.env)).any (·.1) || (backToKw pos (keywordEach kws X.env)).any (·.1.isNone)) = false := by rfl) :
    PE X (.Call (.Name x p) [] kws pos) (tCallKw ks.length is sp E t) := by
  refine ⟨fun pins s σ H Q I h => ?_⟩
  refine wpAny_Call_Name_kw (ld_glob I hg hm ?_ hdb)
  refine PySem.W.callWith_KW0 (h₀ := X.base) I.ok.mod.kin hk hall (thn (hkw.run pos pins s σ H _ I h) fun ws s2 ⟨zs, H2, I2, rz, hl, q2⟩ => ⟨I2.kIn, ?_⟩) hpl
  rw [hks]
  exact run_fnKw F hr hb (hx σ) I2 rz hl q2
end
theorem PK.imp {X : Cx} {kws : List Keyword} {t t' : TA} (h : PK X kws t) (q : ∀ σ H Q, t' σ H Q → t σ H Q) : PK X kws t' := ⟨fun pos pins s σ H Q I h' => h.run pos pins s σ H Q I (q σ H Q h')⟩
section
variable {X : Cx} {W : WX} {pos kpos : Pos} {e : Expr} {fa : ME D} {fs : ME (List D)} {nm : Option Str} {kws : List Keyword}
theorem ck_nil : PK X [] (Ta X.K X.mg W aNil) := PK.imp pk_nil fun σ H Q ⟨m, env, s, r, E, g⟩ => g m H [] .refl r .nil
theorem ck_cons (ha : PE X e (Te X.K X.mg W fa)) (hr : PK X kws (Ta X.K X.mg W fs)) : PK X (⟨nm, e, kpos⟩ :: kws) (Ta X.K X.mg W (aCons fa fs)) :=
  PK.imp (pk_cons ha hr) fun σ H Q h => Tm.bind (k := fun env x s => (fs env s).bind fun xs s => R.ok (x :: xs) s) h fun m1 H1 env x v s1 r1 E1 p1 g1 =>
    ⟨m1, env, s1, r1, E1, G.bind g1 fun m2 H2 xs vs s2 l2 r2 p2 g2 => g2 m2 H2 _ .refl r2 (.cons (p1.mono l2) p2)⟩
noncomputable def eCallKw (is : List Nat) (g : List D → Store → R D) (a : ME (List D)) : ME D := fun env s => (a env s).bind fun xs s => g (permL is xs) s
theorem ce_callKw {k n : Nat} {f : Addr} {fd : FuncData} {ps ks : List Str} {x : Str} {p : Pos} {is : List Nat} {g : List D → Store → R D} (F : FnOk X.prog X.w X.K X.mg X.base (L2.CX X.prog X.w) k f fd ps (spM X.K X.mg n g)) (hr : Room k X.A) (tk : Takes X W) (hg : Gl X x) (hm : X.mg x = some (.ref f)) (hk : PySem.W.keepIn X.K (.ref f) = true) (hb : KBi X.K fd ps ks is)
    (hn : ∀ xs s env, ∀ s', fs env s = .ok xs s' → xs.length = ks.length) (hp : ∀ vs : List V, vs.length = ks.length → (permL is vs).length = n) (hkw : PK X kws (Ta X.K X.mg W fs)) (hdb : (x == ("__debug__" : Str)) = false := by decide)
    (hall : (backToKw pos (keywordEach kws X.env)).all (·.1.isSome) = true := by rfl) (hks : (backToKw pos (keywordEach kws X.env)).filterMap (·.1) = ks := by rfl)
    (hpl : ((backTo pos (starEach [] X.env)).any (·.1) || (backToKw pos (keywordEach kws X.env)).any (·.1.isNone)) = false := by rfl) :
    PE X (.Call (.Name x p) [] kws pos) (Te X.K X.mg W (eCallKw is g fs)) :=
  PE.imp (pe_callKw (E := WE W) F hr hg hm hk hb (fun σ => passAt tk σ) hkw hall hks hdb hpl) fun σ H Q h => by
    obtain ⟨m, env, s, r, E, g0⟩ := h
    refine ⟨m, env, s, r, E, ?_⟩
    unfold eCallKw at g0
    cases hf : fs env s with
    | ok xs s1 =>
      rw [hf] at g0
      intro m1 H1 vs l1 r1 p1
      have hl : vs.length = ks.length := by rw [← p1.length]; exact hn xs s env s1 hf
      refine ⟨hl, hp vs hl, m1, s1, permL is xs, r1, reps_perm p1 is, ?_⟩
      have g1 : G X.K X.mg (Rep X.K) W σ m H Q (g (permL is xs) s1) := g0
      have g2 := g1.mono l1
      cases hgx : g (permL is xs) s1 with
      | ok a s2 => rw [hgx] at g2; exact g2
      | ex x2 s2 => rw [hgx] at g2; exact g2
      | no => rw [hgx] at g2; exact g2
    | ex x s1 => rw [hf] at g0; exact g0
    | no => rw [hf] at g0; exact g0.elim
end
/-! ### z * k, a text -/
def repS (z : Str) (k : Int) : Str := ⟨(List.replicate k.toNat z.cps.toList).flatten.toArray⟩
theorem foldl_repS (its : List Nat) : ∀ (k : Nat) (acc : List Nat), List.foldl (fun x1 x2 => x1 ++ x2) acc.toArray (List.replicate k its.toArray) = (acc ++ (List.replicate k its).flatten).toArray
  | 0, acc => by simp
  | k + 1, acc => by
    rw [List.replicate_succ, List.foldl_cons, List.append_toArray, foldl_repS its k (acc ++ its), List.replicate_succ, List.flatten_cons, List.append_assoc]
theorem repS_length (z : Str) (k : Int) : (repS z k).length = k.toNat * z.length := by
  show (List.replicate k.toNat z.cps.toList).flatten.toArray.size = k.toNat * z.cps.size
  simp
def rMulS : R2 := fun x y H Q => ∃ (z : Str) (k : Int), x = .str z ∧ y = .int k ∧ 0 ≤ k ∧ k ≤ 1000000 ∧ z.length * k.toNat ≤ 1000000 ∧ Q (.str (repS z k)) H
theorem op_mulS {X : Cx} : OpR X (binaryOp .Mult) rMulS := by
  intro pins s σ H x y v u Q I rx ry h
  obtain ⟨z, k, rfl, rfl, h0, h1, hz, q⟩ := h
  obtain ⟨t, rfl⟩ := rx
  obtain ⟨t2, rfl⟩ := ry
  have hl : z.length * k.toNat ≤ sizeLine := le_line hz
  have tl : Builtin.Str.tooLong (z.length * k.toNat) = false := by
    unfold Builtin.Str.tooLong
    exact decide_eq_false (Nat.not_lt.mpr hl)
  refine PySem.P.mul_str ?_ (fun hn hk => ?_) (fun _ _ => tl) ?_
  · rw [decide_eq_false (by omega), decide_eq_false (by omega)]; rfl
  · have hk2 : (0 : Int) < k := by omega
    have e : ((2 : Int) ^ 63 - 1) / k ≥ z.length := by
      refine (Int.le_ediv_iff_mul_le hk2).mpr ?_
      have : (z.length : Int) * k ≤ 1000000 := by
        have e2 : ((z.length * k.toNat : Nat) : Int) = (z.length : Int) * k := by
          rw [Int.natCast_mul, Int.toNat_of_nonneg h0]
        rw [← e2]; omega
      omega
    omega
  · split
    · rename_i hn
      have : k = 0 := by omega
      subst this
      exact ⟨by decide, .str (repS z 0), H, I.tok _, ⟨_, rfl⟩, q⟩
    · rename_i hn
      split
      · rename_i hk
        refine ⟨.str (repS z k), H, I, ⟨t, ?_⟩, q⟩
        have : k = 1 ∨ z.length = 0 := by simpa using hk
        have e : repS z k = z := by
          rcases this with rfl | h
          · simp [repS]
          · obtain ⟨c⟩ := z
            have : c = #[] := by simpa [Str.length] using h
            subst this
            simp [repS]
        rw [e]
      · have e : (⟨(List.replicate k.toNat z.cps).foldl (· ++ ·) #[]⟩ : Str) = repS z k := by
          have := foldl_repS z.cps.toList k.toNat []
          unfold repS
          congr 1
        rw [e]
        refine ⟨?_, .str (repS z k), H, I.tok _, ⟨_, rfl⟩, q⟩
        rw [repS_length, Nat.mul_comm]
        exact hl
noncomputable def dMulS (x y : D) (s : Store) : Option (D × Store) := match x, y with
  | .str z, .int k => if 0 ≤ k ∧ k ≤ 1000000 ∧ z.length * k.toNat ≤ 1000000 then some (.str (repS z k), s) else none
  | _, _ => none
theorem ops_mulS {K : PySem.W.Frag} : OpS K rMulS dMulS := by
  intro mg W σ m H s x y dx dy Q r px py g
  unfold dMulS at g
  split at g
  · rename_i z k
    cases px; cases py
    split at g
    · rename_i hz
      exact ⟨z, k, rfl, rfl, hz.1, hz.2.1, hz.2.2, g.now r (.str _)⟩
    · exact g.elim
  · exact g.elim
theorem dMulS_str {z : Str} {k : Int} (h0 : 0 ≤ k) (h1 : k ≤ 1000000) (hz : z.length * k.toNat ≤ 1000000) (s : Store) : dMulS (.str z) (.int k) s = some (.str (repS z k), s) := if_pos ⟨h0, h1, hz⟩
end Mi
namespace Mi
open PySem PySem.Spec PyProof.Rows L2
/-! ### try: body except x as n: suite except ..: all that the body raises is x's -/
def wAsR (K : PySem.W.Frag) (c : Value) (i : Nat) (ts : Addr → Value → Option Addr → TS) (D : Ends) : WX := fun cls d σ H => PySem.W.exmOne K cls c = some true ∧
  ∀ a, H a = none → ts a cls d { nx := fun σ' H' => D.nx (σ'.set i none) H', rt := D.rt, bk := fun σ' H' => D.bk (σ'.set i none) H', ct := fun σ' H' => D.ct (σ'.set i none) H' } (σ.set i (some (.ref a))) H
section
variable {X : Cx} {x n : Str} {c : Value} {i : Nat} {body suite : List Stmt} {b₀ : Stmt} {rest : List ExceptHandler} {np pos pos' : Pos} {tb : WX → TS} {ts : Addr → Value → Option Addr → TS}
theorem ps_asR (stk : X.stack = X.env :: X.outer) (frm : X.env.frame = some X.env.locals) (nod : X.N.Nodup) (slot : X.N[i]? = some n) (loc : X.env.kindOf n = some .local) (nam : Names X x c)
    (run : ∀ (W : WX) (q : List (Addr × Obj)) (z : Value → Shared → Prop), Takes (X.tr q z) W → PassesOwn (model X.prog X.w) X.A X.env z → PSs (X.tr q z) body (tb W))
    (sui : ∀ (a : Addr) (oe : Obj) (cls : Value) (d : Option Addr) (q : List (Addr × Obj)), Zc cls d oe → (∃ vs, oe.data = .fields vs) → PSs (X.suite a ((a, oe) :: q)) (b₀ :: suite) (ts a cls d)) :
    PS X (.Try body (.ExceptHandler (some (.Name x np)) (some n) (b₀ :: suite) pos' :: rest) [] [] pos) (fun D σ H => tb (wAsR X.K c i ts D) D σ H) := by
  constructor
  intro pins st τ G Dn J0 told
  have okk := J0.ok
  have fr2 : X.A.frames = some (X.env :: X.outer) := by rw [okk.frames, stk]
  have isl : Loc X.env.scope n := .inl loc
  refine wpAny_Try_except (wpAny_mono ((run (wAsR X.K c i ts Dn) (X.pn ++ pins) (fun e s₁ => wpAny (model X.prog X.w) X.A (noteFrame e X.env) (fun _ s₂ => wpAny (model X.prog X.w) X.A (setFlight e none) (fun _ s₃ =>
    wpAny (model X.prog X.w) X.A (handleBy e X.env (.ExceptHandler (some (.Name x np)) (some n) (b₀ :: suite) pos' :: rest)) (SP X pins Dn) X.xe s₃) X.xe s₂) X.xe s₁) (fun u s' caught => ?_) PassesOwn.looking).run [] st τ G Dn (J0.toTry _) told) (fun f s1 ended => ?_) (fun e s1 z => z))
  · obtain ⟨a, B, sI, pins', τ', G', cls, d, rfl, K', nb, up, sky, na, os, ag, hb1, yes⟩ := caught
    have K1 : Inv X pins τ' G' sI := K'.ofTry okk
    have sky2 : Sky B (X.env :: X.outer) a (Zc cls d) X.env.locals s'.heap := by rw [← stk]; exact sky
    show wpAny (model X.prog X.w) X.A (noteFrame (.ref a) X.env) _ _ _
    refine Sky.land Zc.steady fr2 frm sky2 fun h3 fl3 up3 => ?_
    have K3 : Inv X pins τ' G' { s' with heap := h3 } := K1.landed nb fl3.1 (up.trans up3) os ag
    obtain ⟨oe3, vs3, he3, hz3, hd3⟩ := fl3.there
    have away : a ∉ frs (X.env :: X.outer) := by
      intro hm
      obtain ⟨_, o', e', hnf⟩ := fl3.2.2.1.mem hm
      rw [he3] at e'
      cases e'
      exact hnf _ hd3
    have nL : a ≠ X.env.locals := fun z => away (List.mem_filterMap.mpr ⟨X.env, List.mem_cons_self, by rw [frm, z]⟩)
    have nF : a ∉ X.fs := by
      intro hm
      obtain ⟨e, he, q⟩ := List.mem_filterMap.mp hm
      exact away (List.mem_filterMap.mpr ⟨e, List.mem_cons_of_mem _ he, q⟩)
    have S3 := K3.suite he3 hd3 na nL nF
    refine wpAny_handleBy_cons (codeAny_handlers_test ?_) (by intro q; cases q)
    have lookT : PySem.W.Looks (model X.prog X.w) h3 (typeOf (.ref a)) cls := fun A Q E s k q => wpAny_typeOf_ref (k _ _ he3) (by rw [hz3.1]; exact q)
    have lookM := PySem.W.exm_one (M := model X.prog X.w) K3.kIn lookT hb1
    have asks : ∀ {Q E : Value → Shared → Prop}, Q c { s' with heap := h3 } → wpAny (model X.prog X.w) (X.A.mark (some (.ref a))) (eval (.Name x np) X.env) Q E { s' with heap := h3 } := by
      intro Q E q
      obtain ⟨hg, hdbg, hm | ⟨hm, hv, hnn⟩⟩ := nam
      · exact ld_glob (X := X.suite a ((a, oe3) :: (X.pn ++ pins))) S3 hg hm q hdbg
      · exact ld_blt (X := X.suite a ((a, oe3) :: (X.pn ++ pins))) S3 hg hm hv q hnn hdbg
    refine asks (lookM.here ?_)
    refine codeAny_handlers_suite_as (HandSPX.lands_againZ fl3 fun h4 fl4 up4 => ?_)
    have K4 : Inv X pins τ' G' { s' with heap := h4 } := K1.landed nb fl4.1 ((up.trans up3).trans up4) os ag
    obtain ⟨oe4, vs4, he4, hz4, hd4⟩ := fl4.there
    have S4 := K4.suite he4 hd4 na nL nF
    refine store_ok (X := X.suite a ((a, oe4) :: (X.pn ++ pins))) (v := .ref a) S4 nod slot isl rfl (fun s5 S5 => ?_) (.inr loc)
    refine wpAny_mono ((sui a oe4 cls d (X.pn ++ pins) hz4 ⟨_, hd4⟩).run [] s5 _ G' _ S5 (yes a na)) (fun f s6 ended => ?_) (fun _ _ z => False.elim z)
    have quit : ∀ {τ6 : L2.St} {G6 : Hp} {Q : Shared → Prop}, Inv (X.suite a ((a, oe4) :: (X.pn ++ pins))) [] τ6 G6 s6 → (∀ s7, Inv X pins (τ6.set i none) G6 s7 → Q s7) →
        wpAny (model X.prog X.w) X.A (do bindName X.env n .none; unbindBehindTheSuite X.env n pos') (fun _ s7 => Q s7) X.xe s6 := fun {τ6 G6 Q} S6 hq => gone_ok (S6.unsuite okk) nod slot loc hq
    cases f with
    | next => obtain ⟨τ6, G6, S6, q6⟩ := ended; exact quit S6 fun s7 J7 => ⟨_, _, J7, q6⟩
    | brk => obtain ⟨τ6, G6, S6, q6⟩ := ended; exact quit S6 fun s7 J7 => ⟨_, _, J7, q6⟩
    | cont => obtain ⟨τ6, G6, S6, q6⟩ := ended; exact quit S6 fun s7 J7 => ⟨_, _, J7, q6⟩
    | ret u => obtain ⟨v6, τ6, G6, S6, r6, q6⟩ := ended; exact quit S6 fun s7 J7 => ⟨_, _, _, J7, r6, q6⟩
  · cases f with
    | next => obtain ⟨τ', G', J', q⟩ := ended; exact wpAny_execs_nil ⟨τ', G', J'.ofTry okk, q⟩
    | brk => obtain ⟨τ', G', J', q⟩ := ended; exact ⟨τ', G', J'.ofTry okk, q⟩
    | cont => obtain ⟨τ', G', J', q⟩ := ended; exact ⟨τ', G', J'.ofTry okk, q⟩
    | ret u => obtain ⟨v, τ', G', J', r, q⟩ := ended; exact ⟨v, τ', G', J'.ofTry okk, r, q⟩
end
section
variable {X : Cx} {W : WX} {x n : Str} {c : Value} {i : Nat} {body suite : List Stmt} {b₀ : Stmt} {rest : List ExceptHandler} {np pos pos' : Pos} {fb : MS} {fs : Nat × Nat → MS} {cs : List Str}
theorem cs_tryAsR (hs : X.stack = X.env :: X.outer) (hf : X.env.frame = some X.env.locals) (hN : X.N.Nodup) (hi : X.N[i]? = some n) (hln : X.env.kindOf n = some .local) (hc : Names X x c)
    (hcs : ∀ k ∈ cs, ∀ cls, X.mg k = some cls → PySem.W.exmOne X.K cls c = some true)
    (hb : ∀ (W : WX) (pn : List (Addr × Obj)) (xe : Value → Shared → Prop), Takes (X.tr pn xe) W → PSs (X.tr pn xe) body (Ts X.K X.mg W fb))
    (hsu : ∀ (a : Addr) (oe : Obj) (cls : Value) (d : Option Addr) (pn : List (Addr × Obj)) (g : Nat × Nat) (k : Str), Zc cls d oe → (∃ vs, oe.data = .fields vs) → g.1 = a → d = some g.2 → k ∈ cs → X.mg k = some cls →
      PSs (X.suite a ((a, oe) :: pn)) (b₀ :: suite) (Ts X.K X.mg (fun _ _ _ _ => False) (fs g))) :
    PS X (.Try body (.ExceptHandler (some (.Name x np)) (some n) (b₀ :: suite) pos' :: rest) [] [] pos) (Ts X.K X.mg W (sTryAs i cs fb fs)) :=
  PS.imp (ps_asR (i := i) (tb := fun W => Ts X.K X.mg W fb) (ts := fun a cls d => fun Dn σ H => ∃ (g : Nat × Nat) (k : Str), g.1 = a ∧ d = some g.2 ∧ k ∈ cs ∧ X.mg k = some cls ∧ Ts X.K X.mg (fun _ _ _ _ => False) (fs g) Dn σ H) hs hf hN hi hln hc
    (fun W pn xe tk _ => hb W pn xe tk) (fun a oe cls d pn hz hf => ⟨fun pins s σ H Dn I ⟨g, k, h1, h2, h3, h4, h⟩ => (hsu a oe cls d pn g k hz hf h1 h2 h3 h4).run pins s σ H Dn I h⟩)) fun Dn σ H ⟨m, env, s, r, E, q⟩ => by
    refine ⟨m, env, s, r, E, ?_⟩
    unfold sTryAs at q
    cases e : fb env s with
    | ex ex env2 s2 =>
      rw [e] at q
      simp only at q
      split at q
      · rename_i hh
        obtain ⟨h1, h2, h3⟩ := hh
        intro m' σ' H' cv dd l r' E' xr
        obtain ⟨gk, hx⟩ := xr
        rcases hx with ⟨z, _⟩ | ⟨da, vfs, ed, hd, nd, rf⟩
        · exact (h2 z).elim
        · refine ⟨hcs _ h1 _ gk, fun a ha => ⟨(a, da), ex.cls, rfl, ed, h1, gk, m', _, s2, r', relE_set E' (.exv hd nd rf : Rep X.K m' H' (.exv a da ex.cls ex.fs) (.ref a)) i, ?_⟩⟩
          rw [← h3 (a, da)] at q
          exact gs_clr (GS.mono l q)
      · exact q.elim
    | nx env2 s2 => rw [e] at q; exact q
    | rt d s2 => rw [e] at q; exact q
    | bk env2 s2 => rw [e] at q; exact q
    | ct env2 s2 => rw [e] at q; exact q
    | no => rw [e] at q; exact q.elim
end
/-! ### a module's constant -/
section
variable {X : Cx} {W : WX} {pos : Pos} {x : Str}
theorem ce_globI {n : Int} (hg : Gl X x) (h : ∃ t, X.mg x = some (.int n t)) (hdb : (x == ("__debug__" : Str)) = false := by decide) : PE X (.Name x pos) (Te X.K X.mg W (eC (.int n))) := by
  obtain ⟨t, h⟩ := h
  exact PE.imp (pe_glob (v := .int n) hg h ⟨t, rfl⟩ hdb) fun σ H Q ⟨m, env, s, r, E, g⟩ => g.now r (.int n)
theorem ce_globS {z : Str} (hg : Gl X x) (h : ∃ t, X.mg x = some (.str z t)) (hdb : (x == ("__debug__" : Str)) = false := by decide) : PE X (.Name x pos) (Te X.K X.mg W (eC (.str z))) := by
  obtain ⟨t, h⟩ := h
  exact PE.imp (pe_glob (v := .str z) hg h ⟨t, rfl⟩ hdb) fun σ H Q ⟨m, env, s, r, E, g⟩ => g.now r (.str z)
end
/-! ### f() -/
section
variable {X : Cx} {CX : CXT} {k : Nat} {f : Addr} {fd : FuncData} {sp : Sp} {E : L2.St → XK} {x : Str} {p pos : Pos}
theorem pe_callS0 (F : FnOk X.prog X.w X.K X.mg X.base CX k f fd [] sp) (hr : Room k X.A) (hg : Gl X x) (hm : X.mg x = some (.ref f)) (hk : PySem.W.keepIn X.K (.ref f) = true) (hb : Binds X.K fd [] []) (hx : ∀ σ, PassesAt CX X σ (E σ))
    (hdb : (x == ("__debug__" : Str)) = false := by decide) : PE X (.Call (.Name x p) [] [] pos) (fun σ H Q => sp [] H Q (E σ)) := by
  refine ⟨fun pins s σ H Q I q => wpAny_Call_Name_kw (ld_glob I hg hm ?_ hdb)⟩
  exact PySem.W.callWith_K0 I.kIn hk (run_fnS (us := []) F hr hb (hx σ) I .nil q)
theorem ce_call0 {W : WX} {g : List D → Store → R D} (F : FnOk X.prog X.w X.K X.mg X.base (L2.CX X.prog X.w) k f fd [] (spM X.K X.mg 0 g)) (hr : Room k X.A) (tk : Takes X W) (hg : Gl X x) (hm : X.mg x = some (.ref f)) (hk : PySem.W.keepIn X.K (.ref f) = true) (hb : Binds X.K fd [] [])
    (hdb : (x == ("__debug__" : Str)) = false := by decide) : PE X (.Call (.Name x p) [] [] pos) (Te X.K X.mg W (eCall g aNil)) :=
  PE.imp (pe_callS0 (E := WE W) F hr hg hm hk hb (fun σ => passAt tk σ) hdb) fun σ H Q ⟨m, env, s, r, E, g0⟩ => by
    have g1 : G X.K X.mg (Rep X.K) W σ m H Q (g [] s) := g0
    refine ⟨rfl, m, s, [], r, .nil, ?_⟩
    cases e : g [] s with
    | ok a s2 => rw [e] at g1; exact g1
    | ex x2 s2 => rw [e] at g1; exact g1
    | no => rw [e] at g1; exact g1
end
end Mi
namespace PySem.W
open PySem PySem.Spec PyProof.Rows
section
variable {prog : Program} {w : World} {A : Around} {E : Value → Shared → Prop} {s : Shared} {K : Frag} {x D : Addr} {ox : Obj} {od : Option Obj}
theorem mi_data {C : Addr} {nm : Str} {a g : Value} (q1 : (clsIn K C).isSome = true) (q2 : findIn K (.ref C) nm = some (some a)) (q3 : specialIn K a "__get__" = some (some g)) (q4 : takesIn K a = some true) : findObj K C od nm = some (.bind g a) := by
  cases e : clsIn K C with
  | none => rw [e] at q1; cases q1
  | some cd =>
    unfold findObj
    rw [e, Option.bind_some, q2, Option.bind_some]
    simp [q3, q4]
theorem mi_hasCls (q : hasDictIn K D = true) : (clsIn K D).isSome = true := by
  obtain ⟨cd, e, _⟩ := any_some q
  rw [e]
  rfl
theorem mi_excClass {Q : Option Value → Shared → Prop} (ga : findIn K (.ref D) "__getattribute__" = some (some (.builtin "BaseException.__getattribute__"))) (gg : findIn K (.ref D) "__getattr__" = some none) (sb : subIn K (.ref D) (.type "BaseException") = some true)
    (hd : hasDictIn K D = true) (fc : findIn K (.ref D) "__class__" = some (some (.builtin "object.__class__"))) (sg : specialIn K (.builtin "object.__class__") "__get__" = some (some (.builtin "getset_descriptor.__get__")))
    (tk : takesIn K (.builtin "object.__class__") = some true) (mo : mroIn K D (.type "object") = some true) (inn : K.In s.heap) (inst : InstAt s.heap x ox D od) (done : Q (some (.ref D)) { s with toks := s.toks + 1 }) :
    wpAny (model prog w) A (getAttr? (.ref x) "__class__") Q E s := by
  have found : findObj K D od "__class__" = some (.bind (.builtin "getset_descriptor.__get__") (.builtin "object.__class__")) := mi_data (mi_hasCls hd) fc sg tk
  obtain ⟨hp, gn, dr, t, os⟩ := s
  have lT := inst.type (M := model prog w)
  have lA := looks_findIn (M := model prog w) inn ga
  have lG := looks_findIn (M := model prog w) inn gg
  have lF := looks_find (M := model prog w) inn inst found
  have isE : Looks (model prog w) hp (isInstance (.ref x) (.type "BaseException")) true := lT.andThen (looks_subIn inn sb)
  have neq : (Value.builtin "BaseException.__getattribute__" == Value.builtin "object.__getattribute__") = false := by decide +kernel
  unfold getAttr? getAttrBy? getAttrBy
  refine wpAny_bind (wpAny_mkText (wpAny_bind (wpAny_attempt (wpAny_holding (wpAny_bind (lT.at (wpAny_bind (lA.at ?_))))))))
  show wpAny _ _ (if (onTheHeap (Value.ref D) && Value.builtin "BaseException.__getattribute__" == Value.builtin "object.__getattribute__") = true then _ else _) _ _ _
  rw [if_neg (by rw [neq, Bool.and_false]; exact Bool.false_ne_true)]
  unfold getAttrByItsOwn hookBefore
  refine wpAny_bind ?_
  rw [if_pos (show onTheHeap (Value.ref D) = true by rfl)]
  refine lG.at (wpAny_bind (wpAny_attempt (wpAny_holding ?_)))
  unfold callGetattribute
  rw [if_neg (show ¬ (false && onTheHeap (Value.builtin "BaseException.__getattribute__")) = true from Bool.false_ne_true)]
  unfold boundAndCalled
  rw [PySem.F.excAttr_ValueError.ga.bind (.ref x)]
  refine wpAny_bind (wpAny_pure (?_ : wpAny _ _ (call (.builtin "BaseException.__getattribute__") [.ref x, .str "__class__" t]) _ _ _))
  refine wpAny_call (codeAny_call_builtin PySem.F.excAttr_ValueError.ga.plain PySem.F.entry_bexc_ga (@check_slot (model prog w) _ _ ⟨hp, gn, dr, t + 1, os⟩ "BaseException.__getattribute__" "BaseException" "__getattribute__" (.ref x) [.str "__class__" t] [] _
    (by decide +kernel) (by decide +kernel) isE (PySem.F.args_bexc_ga (.ref x) (.str "__class__" t)) ?_))
  unfold Builtin.«object.__getattribute__»
  refine wpAny_bind (wpAny_of_eq (a := ((Value.ref x : Value), [Value.str "__class__" t])) (by first | rfl | (simp only [slotArgs]; rfl)) (wpAny_bind (wpAny_pure (wpAny_bind (lT.at (wpAny_bind (lF.at ?_)))))))
  show wpAny _ _ (holding [Value.builtin "object.__class__"] (call (.builtin "getset_descriptor.__get__") [.builtin "object.__class__", .ref x, .ref D]) >>= ret) _ _ _
  refine wpAny_bind (wpAny_holding (wpAny_call (class_get (s := ⟨hp, gn, dr, t + 1, os⟩) (ox := ox) (od := od) inn inst mo (wpAny_pure ?_))))
  show wpAny _ _ (handedOut (.ref D)) _ _ _
  rw [handedOut_of (v := .ref D) rfl]
  first
    | exact wpAny_pure (wpAny_pure done)
    | exact wpAny_pure done
    | exact wpAny_pure (wpAny_bind (wpAny_pure (wpAny_pure done)))
theorem mi_kitExc (ga : findIn K (.ref D) "__getattribute__" = some (some (.builtin "BaseException.__getattribute__"))) (gg : findIn K (.ref D) "__getattr__" = some none) (sb : subIn K (.ref D) (.type "BaseException") = some true)
    (hd : hasDictIn K D = true) (fc : findIn K (.ref D) "__class__" = some (some (.builtin "object.__class__"))) (sg : specialIn K (.builtin "object.__class__") "__get__" = some (some (.builtin "getset_descriptor.__get__")))
    (tk : takesIn K (.builtin "object.__class__") = some true) (mo : mroIn K D (.type "object") = some true) : KitX K (.ref x) (.ref D) (fun h => InstAt h x ox D od) where
  ty := fun _ _ _ q => q.type
  it := fun _ _ inn _ => by
    have q := mi_hasCls hd
    unfold clsIn at q
    split at q
    · rename_i c1 d1 e1 f1 there
      intro A1 Q1 E1 s1 k1 q1
      unfold isType loadHead
      exact wpAny_bind (wpAny_loadPart (k1 _ _ (inn _ _ there)) (wpAny_pure q1))
    · cases q
  ne := fun h tp dd its n sl inn htp => by
    have q := mi_hasCls hd
    refine Bool.eq_false_iff.mpr fun z => ?_
    obtain rfl : D = tp := Value.ref.inj (beq_iff_eq.mp z)
    unfold clsIn at q
    split at q
    · rename_i c1 d1 e1 f1 there
      have := (inn _ _ there).symm.trans htp
      cases this
    · cases q
  ca := fun inn q done => mi_excClass ga gg sb hd fc sg tk mo inn q done
end
end PySem.W
namespace Mi
open PySem PySem.Spec PyProof.Rows L2
/-! ### isinstance(n, C), isinstance(n, (C, ..)) of the exception that a suite holds -/
def eIsE (g : Nat × Nat) (i : Nat) (c : Str) (b : Bool) : ME D := fun env s => match env[i]? with
  | some (some (.exv a dd cl fs)) => if a = g.1 ∧ dd = g.2 ∧ cl = c then .ok (.bl b) s else .no
  | _ => .no
section
variable {X : Cx} {W : WX} {a : Addr} {oe : Obj} {cls : Value} {d : Option Addr} {pn : List (Addr × Obj)} {pos p p2 p3 : Pos} {n c1 : Str} {i : Nat} {g : Nat × Nat}
theorem inst_of {C : Addr} {pins : List (Addr × Obj)} {σ : L2.St} {H : Hp} {s : Shared} {dd : Addr} {fs : List (Str × V)} (hz : Zc (.ref C) d oe) (hf : ∃ vs, oe.data = .fields vs) (ed : d = some dd) (I : Inv (X.suite a ((a, oe) :: pn)) pins σ H s) (hd : H dd = some (.xd fs)) : ∃ od, PySem.W.InstAt s.heap a oe C (some od) := by
  subst ed
  obtain ⟨ha, _⟩ := I.pin (a, oe) (List.mem_append_left _ List.mem_cons_self)
  obtain ⟨vs, hv⟩ := hf
  obtain ⟨mA, hns, hr⟩ := (I.hok dd _ hd : ObjOk X.prog X.w H s.heap dd (.xd fs))
  obtain ⟨od, ho, _⟩ := lookIn_ns hns
  exact ⟨od, ha, hz.1, by unfold PySem.W.notCls; rw [hv] <;> rfl, by rw [hz.2]; exact ho⟩
theorem held_at {m : List Addr} {H : Hp} {env : Sl} {σ : L2.St} {s : Store} {c : Str} {b : Bool} {Q : VK} (E : RelE X.K m H env σ) (q : G X.K X.mg (Rep X.K) W σ m H Q (eIsE g i c b env s)) (r : Rel X.K m H s) :
    ∃ fs, σ[i]? = some (some (.ref g.1)) ∧ H g.2 = some (.xd fs) ∧ Q (.bl b) H := by
  unfold eIsE at q
  cases e1 : env[i]? with
  | none => rw [e1] at q; exact q.elim
  | some o =>
    cases o with
    | none => rw [e1] at q; exact q.elim
    | some x =>
      rw [e1] at q
      cases x with
      | exv a' dd cl fs =>
        simp only at q
        split at q
        · rename_i hh
          obtain ⟨h1, h2, h3⟩ := hh
          obtain ⟨v, hv, pr⟩ := E.2 i _ e1
          cases pr with
          | exv h n' rf => exact ⟨_, by rw [← h1]; exact hv, by rw [← h2]; exact h, G.now q r (.bl b)⟩
        · exact q.elim
      | _ => exact q.elim
theorem ce_isE1 {c : Str} {C D : Addr} {b : Bool} (ec : cls = .ref D) (T : ExcC X.K D) (hz : Zc cls d oe) (hf : ∃ vs, oe.data = .fields vs) (g1 : g.1 = a) (g2 : d = some g.2)
    (hg : Gl X "isinstance") (hm : X.mg "isinstance" = none) (hgC : Gl X c1) (mC : X.mg c1 = some (.ref C)) (kit : PySem.W.kitOne X.K (.ref D) (.ref C) = some b) (he : PE (X.suite a ((a, oe) :: pn)) (.Name n p) (tVar i)) (hdb : (c1 == ("__debug__" : Str)) = false := by decide)
    (hs1 : starEach [.Name n p, .Name c1 p2] X.env = (false, eval (.Name n p) X.env) :: starEach [.Name c1 p2] X.env := by rfl) (hs2 : starEach [.Name c1 p2] X.env = (false, eval (.Name c1 p2) X.env) :: starEach [] X.env := by rfl)
    (hpl : (backTo pos (starEach [.Name c1 p2] X.env)).any (·.1) = false := by rfl) :
    PE (X.suite a ((a, oe) :: pn)) (.Call (.Name "isinstance" p3) [.Name n p, .Name c1 p2] [] pos) (Te X.K X.mg W (eIsE g i c b)) := by
  subst ec
  refine ⟨fun pins s σ H Q I ⟨m, env, st, r, E, q⟩ => ?_⟩
  obtain ⟨fs, hσ, hd, hq⟩ := held_at E q r
  refine wpAny_Call_Name_kw (ld_blt (X := X.suite a ((a, oe) :: pn)) I hg hm PyProof.Rows.boot_isinstance ?_ (by decide) (by decide))
  refine PyProof.Rows.callWith_builtin1 (M := model X.prog X.w) (env := X.env) ?_ hs1 hpl
  rw [hs1]
  show wpAny _ _ (spliced ((false, eval (.Name n p) X.env) :: backTo pos (starEach [.Name c1 p2] X.env))) _ _ s
  refine Calls.spliced_cons (thn (he.run pins s σ H (fun x H1 => x = .ref g.1 ∧ H1 = H) I ⟨.ref g.1, hσ, rfl, rfl⟩) fun u s1 ⟨x, H1, I1, r1, ex, eH⟩ => ?_)
  subst ex eH
  obtain rfl : u = Value.ref g.1 := r1
  rw [hs2]
  show wpAny _ _ (spliced ((false, eval (.Name c1 p2) X.env) :: backTo pos (starEach [] X.env))) _ _ s1
  refine Calls.spliced_cons (ld_glob (X := X.suite a ((a, oe) :: pn)) I1 hgC mC (Calls.spliced_nil ?_) hdb)
  obtain ⟨od, inst⟩ := inst_of hz hf g2 I1 hd
  rw [← g1] at inst
  exact PySem.W.kia_one (PySem.W.mi_kitExc T.hg T.hk T.hs T.hd T.ha T.hn T.ht T.hm) I1.kIn inst kit (fun z => nomatch z) fun tk => ⟨.bl b, H1, I1.tok tk, rfl, hq⟩
theorem ce_isEm {k : Nat} {tpos : Pos} {e0 : Expr} {es : List Expr} {Cs : List Addr} {c : Str} {D : Addr} {b : Bool} (ec : cls = .ref D) (T : ExcC X.K D) (hz : Zc cls d oe) (hf : ∃ vs, oe.data = .fields vs) (g1 : g.1 = a) (g2 : d = some g.2)
    (hg : Gl X "isinstance") (hm : X.mg "isinstance" = none) (hes : PA (X.suite a ((a, oe) :: pn)) (e0 :: es) (fun σ H Q => Q (Cs.map V.ref) H)) (hl : Cs.length ≤ 1000) (kit : PySem.W.kitAny X.K (.ref D) (Cs.map Value.ref) = some b) (he : PE (X.suite a ((a, oe) :: pn)) (.Name n p) (tVar i))
    (hs1 : starEach [.Name n p, .Tuple (e0 :: es) k tpos] X.env = (false, eval (.Name n p) X.env) :: starEach [.Tuple (e0 :: es) k tpos] X.env := by rfl) (hs2 : starEach [.Tuple (e0 :: es) k tpos] X.env = (false, eval (.Tuple (e0 :: es) k tpos) X.env) :: starEach [] X.env := by rfl)
    (hpl : (backTo pos (starEach [.Tuple (e0 :: es) k tpos] X.env)).any (·.1) = false := by rfl) :
    PE (X.suite a ((a, oe) :: pn)) (.Call (.Name "isinstance" p3) [.Name n p, .Tuple (e0 :: es) k tpos] [] pos) (Te X.K X.mg W (eIsE g i c b)) := by
  subst ec
  refine ⟨fun pins s σ H Q I ⟨m, env, st, r, E, q⟩ => ?_⟩
  obtain ⟨fs, hσ, hd, hq⟩ := held_at E q r
  refine wpAny_Call_Name_kw (ld_blt (X := X.suite a ((a, oe) :: pn)) I hg hm PyProof.Rows.boot_isinstance ?_ (by decide) (by decide))
  refine PyProof.Rows.callWith_builtin1 (M := model X.prog X.w) (env := X.env) ?_ hs1 hpl
  rw [hs1]
  show wpAny _ _ (spliced ((false, eval (.Name n p) X.env) :: backTo pos (starEach [.Tuple (e0 :: es) k tpos] X.env))) _ _ s
  refine Calls.spliced_cons (thn (he.run pins s σ H (fun x H1 => x = .ref g.1 ∧ H1 = H) I ⟨.ref g.1, hσ, rfl, rfl⟩) fun u s1 ⟨x, H1, I1, r1, ex, eH⟩ => ?_)
  subst ex eH
  obtain rfl : u = Value.ref g.1 := r1
  rw [hs2]
  show wpAny _ _ (spliced ((false, eval (.Tuple (e0 :: es) k tpos) X.env) :: backTo pos (starEach [] X.env))) _ _ s1
  refine Calls.spliced_cons (wpAny_Tuple_spliced (thn (hes.run tpos pins s1 σ H1 (fun ys H' => ys = Cs.map V.ref ∧ H' = H1) I1 ⟨rfl, rfl⟩) fun us s2 ⟨ys, H2, I2, r2, ey, eH⟩ => ?_))
  subst ey eH
  have eu := refs_at r2
  subst eu
  refine ⟨by rw [List.length_map]; exact le_line (Nat.le_trans hl (by decide)), Calls.spliced_nil ?_⟩
  have I3 := I2.kept (h' := s2.heap.push { cls := .type "tuple", data := .seq (Cs.map Value.ref).toArray }) (t' := s2.toks) fun b ob q => Heap.get?_push_of_some _ q
  obtain ⟨od, inst⟩ := inst_of hz hf g2 I3 hd
  rw [← g1] at inst
  exact PySem.W.kia_tup (its := Cs.map Value.ref) (PySem.W.mi_kitExc T.hg T.hk T.hs T.hd T.ha T.hn T.ht T.hm) I3.kIn inst (Heap.get?_push_size _ rfl) kit (fun z => nomatch z) fun tk => ⟨.bl b, H2, I3.tok tk, rfl, hq⟩
end
end Mi
namespace Mi
open PySem PySem.Spec PyProof.Rows L2
/-! ### z.m(a), z a text -/
def eM1 (g : D → List D → Store → Option (D × Store)) (o a : ME D) : ME D := fun env s => (o env s).bind fun x s => match x with
  | .str z => (a env s).bind fun y s => R.of (g (.str z) [y] s)
  | _ => .no
section
variable {X : Cx} {W : WX} {apos pos : Pos} {o e : Expr} {fo fe : ME D}
theorem ce_m1 {id : String} {name : Str} {r : V → List V → Hp → VK → Prop} {g : D → List D → Store → Option (D × Store)} (slot : Slot "str" name id) (ty : typeOf (.builtin id) = pure (.type "method_descriptor")) (rule : MtR X id r) (hsd : MtS X.K r g) (ho : PE X o (Te X.K X.mg W fo)) (he : PE X e (Te X.K X.mg W fe))
    (hs : starEach [e] X.env = [(false, eval e X.env)] := by rfl) (hbase : attributeBase o name X.env (eval o X.env) = eval o X.env := by rfl) (hline : (apos.endLine == pos.line) = true := by rfl) :
    PE X (.Call (.Attribute o name apos) [e] [] pos) (Te X.K X.mg W (eM1 g fo fe)) :=
  PE.imp (pe_m1 slot ty rule ho he hs hbase hline) fun σ H Q h => Tm.bind (k := fun env (x : D) s => match x with
  | .str z => (fe env s).bind fun y s => R.of (g (.str z) [y] s)
  | _ => .no) h fun m1 H1 env x v s1 r1 E1 p1 g1 => by
    cases x with
    | str z =>
      cases p1
      exact ⟨⟨z, rfl⟩, m1, env, s1, r1, E1, G.bind g1 fun m2 H2 y vy s2 l2 r2 p2 g2 => hsd r2 (.str z) (.cons p2 .nil) g2⟩
    | _ => exact g1.elim
end
section
variable {K : PySem.W.Frag}
def dSplit (x : D) (ys : List D) (s : Store) : Option (D × Store) := match x, ys with
  | .str a, [.str b] => if b.length ≠ 0 ∧ a.length ≤ 1000000 then some (.loc s.length, s ++ [.lst ((Txt.split a b).map D.str)]) else none
  | _, _ => none
theorem reps_strs {m : List Addr} {H : Hp} : ∀ zs : List Str, Reps K m H (zs.map D.str) (zs.map V.str)
  | [] => .nil
  | z :: zs => .cons (.str z) (reps_strs zs)
theorem mts_split : MtS K (fun x xs H Q => ∃ a b, x = V.str a ∧ xs = [V.str b] ∧ (b.length == 0) = false ∧ a.length + 2 ≤ sizeLine ∧ rNewStrs (Txt.split a b) H Q) dSplit := by
  intro mg W σ m H s x d xs ds Q r p ps g
  unfold dSplit at g
  split at g
  · rename_i a b
    obtain ⟨w, rfl, h⟩ := reps1 ps
    cases h
    cases p
    split at g
    · rename_i hz
      refine ⟨a, b, rfl, rfl, by simpa using hz.1, by rw [sizeLine_eq]; omega, fun q hq => ?_⟩
      exact g (m ++ [q]) _ _ (le_more r hq) (rel_newlist r hq (reps_strs _)) (.loc (len_get r))
    · exact g.elim
  · exact g.elim
def dStarts (x : D) (ys : List D) (s : Store) : Option (D × Store) := match x, ys with
  | .str a, [.str b] => some (.bl (Txt.startswith a b), s)
  | _, _ => none
theorem mts_starts : MtS K (fun x xs H Q => ∃ a b, x = V.str a ∧ xs = [V.str b] ∧ Q (.bl (Txt.startswith a b)) H) dStarts := by
  intro mg W σ m H s x d xs ds Q r p ps g
  unfold dStarts at g
  split at g
  · rename_i a b
    obtain ⟨w, rfl, h⟩ := reps1 ps
    cases h
    cases p
    exact ⟨a, b, rfl, rfl, g.now r (.bl _)⟩
  · exact g.elim
noncomputable def dJoin (x : D) (ys : List D) (s : Store) : Option (D × Store) := match x, ys with
  | .str a, [y] => (seqOf s y).bind fun xs => (strsOf xs).bind fun zs => if (zs.map (·.length)).sum + zs.length * a.length ≤ 1000000 then some (.str (Txt.join a zs), s) else none
  | _, _ => none
theorem mts_join : MtS K (fun x xs H Q => ∃ a p, ∃ ys : List Str, x = V.str a ∧ xs = [V.ref p] ∧ (SqL K H p (ys.map V.str) ∨ SqT K H p (ys.map V.str)) ∧ (ys.map (·.length)).sum + ys.length * a.length ≤ 16777216 ∧ Q (.str (Txt.join a ys)) H) dJoin := by
  intro mg W σ m H s x d xs ds Q r p ps g
  unfold dJoin at g
  split at g
  · rename_i a y
    obtain ⟨w, rfl, h⟩ := reps1 ps
    cases p
    cases e : seqOf s y with
    | none => rw [e] at g; exact g.elim
    | some zs =>
      rw [e, Option.bind_some] at g
      cases q : strsOf zs with
      | none => rw [q] at g; exact g.elim
      | some ss =>
        rw [q, Option.bind_some] at g
        split at g
        · rename_i hz
          obtain ⟨b, vs, rfl, h1, h2⟩ := seqOf_sq r h e
          have ev := strs_reps h2 q
          subst ev
          exact ⟨a, b, ss, rfl, rfl, h1, by omega, g.now r (.str _)⟩
        · exact g.elim
  · exact g.elim
/-! ### z[a:b], a text besides -/
noncomputable def dSlZ (x : D) (lo hi : Option Int) (s : Store) : Option (D × Store) := match x with
  | .str z => if z.length ≤ 1000000 then some (.str (cutS z lo hi), s) else none
  | x => dSl x lo hi s
theorem sl_Z {X : Cx} : SlR X (fun x lo hi H Q => rSlLT X.K x lo hi H Q ∨ rSlS x lo hi H Q) := sl_LT.or sl_str
theorem sls_Z : SlS K (fun x lo hi H Q => rSlLT K x lo hi H Q ∨ rSlS x lo hi H Q) dSlZ := by
  intro mg W σ m H s x d lo hi Q r p g
  by_cases hz : ∃ z, d = .str z
  · obtain ⟨z, rfl⟩ := hz
    cases p
    by_cases hl : z.length ≤ 1000000
    · have e : dSlZ (.str z) lo hi s = some (.str (cutS z lo hi), s) := if_pos hl
      rw [e] at g
      exact .inr ⟨z, rfl, le_line hl, G.now g r (.str _)⟩
    · have e : dSlZ (.str z) lo hi s = none := if_neg hl
      rw [e] at g
      exact g.elim
  · have e : dSlZ d lo hi s = dSl d lo hi s := by
      cases d <;> first | rfl | exact (hz ⟨_, rfl⟩).elim
    rw [e] at g
    exact .inl (sls_LT r p g)
@[simp] theorem dSlZ_tup (xs : List D) (lo hi : Option Int) (s : Store) : dSlZ (.tup xs) lo hi s = dSl (.tup xs) lo hi s := rfl
@[simp] theorem dSlZ_fl (xs : List D) (lo hi : Option Int) (s : Store) : dSlZ (.fl xs) lo hi s = dSl (.fl xs) lo hi s := rfl
@[simp] theorem dSlZ_loc (l : Nat) (lo hi : Option Int) (s : Store) : dSlZ (.loc l) lo hi s = dSl (.loc l) lo hi s := rfl
theorem dSlZ_str {z : Str} (h : z.length ≤ 1000000) (lo hi : Option Int) (s : Store) : dSlZ (.str z) lo hi s = some (.str (cutS z lo hi), s) := if_pos h
/-! ### int(z), a text besides -/
noncomputable def dIntZ : List D → Store → Option (D × Store)
  | [.str a], s => if a.length ≤ 640 then (PySem.intText? a).map fun n => (.int n, s) else none
  | ds, s => dInt ds s
def rIntS : List V → Hp → VK → Prop := fun xs H Q => ∃ a n, xs = [V.str a] ∧ PySem.intText? a = some n ∧ a.length ≤ 640 ∧ Q (.int n) H
theorem call_intZ {X : Cx} : CallR X (.type "int") (fun xs H Q => ((∃ i, xs = [V.int i] ∧ Q (.int i) H) ∨ ∃ k, xs = [V.bl k] ∧ Q (.int (if k then 1 else 0)) H) ∨ rIntS xs H Q) := call_int1.or call_int_str
theorem fns_intZ : FnS K (fun xs H Q => ((∃ i, xs = [V.int i] ∧ Q (.int i) H) ∨ ∃ k, xs = [V.bl k] ∧ Q (.int (if k then 1 else 0)) H) ∨ rIntS xs H Q) dIntZ := by
  intro mg W σ m H s xs ds Q r p g
  by_cases hz : ∃ z, ds = [.str z]
  · obtain ⟨z, rfl⟩ := hz
    obtain ⟨w, rfl, h⟩ := reps1 p
    cases h
    simp only [dIntZ] at g
    split at g
    · rename_i hl
      cases e : PySem.intText? z with
      | none => rw [e] at g; exact g.elim
      | some n =>
        rw [e] at g
        exact .inr ⟨z, n, rfl, e, hl, G.now g r (.int n)⟩
    · exact g.elim
  · have e : dIntZ ds s = dInt ds s := by
      unfold dIntZ
      split
      · exact (hz ⟨_, rfl⟩).elim
      · rfl
    rw [e] at g
    exact .inl (fns_int r p g)
@[simp] theorem dIntZ_int (i : Int) (s : Store) : dIntZ [.int i] s = some (.int i, s) := rfl
@[simp] theorem dIntZ_bl (i : Bool) (s : Store) : dIntZ [.bl i] s = some (.int (if i then 1 else 0), s) := rfl
theorem dIntZ_str {z : Str} (h : z.length ≤ 640) {n : Int} (e : PySem.intText? z = some n) (s : Store) : dIntZ [.str z] s = some (.int n, s) := by
  simp only [dIntZ, if_pos h, e]
  rfl
end
/-! ### f'..' -/
noncomputable def eFmt (a : ME D) : ME D := fun env s => (a env s).bind fun x s => match x with
  | .str z => if z.length ≤ 1000000 then .ok (.str z) s else .no
  | .int i => if i.natAbs.log2 < 1920 then .ok (.str (toString i)) s else .no
  | _ => .no
noncomputable def eJs : List (ME D) → Str → Sl → Store → R Str
  | [], acc, _, s => .ok acc s
  | f :: fs, acc, env, s => (f env s).bind fun x s => match x with
    | .str y => if (acc ++ y).length ≤ 1000000 then eJs fs (acc ++ y) env s else .no
    | _ => .no
noncomputable def eFs (fs : List (ME D)) : ME D := fun env s => (eJs fs Str.empty env s).bind fun z s => .ok (.str z) s
section
variable {X : Cx} {W : WX} {pos : Pos} {e : Expr} {fa : ME D}
theorem ce_fmt (he : PE X e (Te X.K X.mg W fa)) : PE X (.FormattedValue e (-1) none pos) (Te X.K X.mg W (eFmt fa)) :=
  PE.imp (pe_fmt he) fun σ H Q h => Tm.bind (k := fun _ (x : D) s => match x with
  | .str z => if z.length ≤ 1000000 then R.ok (D.str z) s else .no
  | .int i => if i.natAbs.log2 < 1920 then .ok (.str (toString i)) s else .no
  | _ => .no) h fun m1 H1 env x v s1 r1 E1 p1 g1 => by
    cases x with
    | str z =>
      cases p1
      simp only at g1
      split at g1
      · rename_i hz; exact .inl ⟨z, rfl, le_line hz, g1.now r1 (.str _)⟩
      · exact g1.elim
    | int i =>
      cases p1
      simp only at g1
      split at g1
      · rename_i hz; exact .inr ⟨i, rfl, hz, g1.now r1 (.str _)⟩
      · exact g1.elim
    | _ => exact g1.elim
inductive PJs (X : Cx) (W : WX) : List Expr → List (ME D) → Prop where
  | nil : PJs X W [] []
  | cons {e : Expr} {f : ME D} {es : List Expr} {fs : List (ME D)} (h : PE X e (Te X.K X.mg W f)) (r : PJs X W es fs) : PJs X W (e :: es) (f :: fs)
theorem PJs.pj {es : List Expr} {fs : List (ME D)} (h : PJs X W es fs) : PJ X es (fs.map fun f => Te X.K X.mg W f) := by
  induction h with
  | nil => exact .nil
  | cons h _ ih => exact .cons h ih
theorem js_run (mg : Str → Option Value) : ∀ (fs : List (ME D)) (acc : Str) (σ : L2.St) (H : Hp) (Q : Str → Hp → Prop), Tm X.K X.mg (fun _ _ (a b : Str) => a = b) W (fun env s => eJs fs acc env s) σ H Q → tJs (fs.map fun f => Te X.K X.mg W f) acc σ H Q
  | [], acc, σ, H, Q, ⟨m, env, s, r, E, g⟩ => g m H acc .refl r rfl
  | f :: fs, acc, σ, H, Q, h => Tm.bind (k := fun env (x : D) s => match x with
    | .str y => if (acc ++ y).length ≤ 1000000 then eJs fs (acc ++ y) env s else .no
    | _ => .no) h fun m1 H1 env x v s1 r1 E1 p1 g1 => by
      cases x with
      | str y =>
        cases p1
        simp only at g1
        split at g1
        · rename_i hz
          exact ⟨y, rfl, le_line hz, js_run mg fs (acc ++ y) σ H1 Q ⟨m1, env, s1, r1, E1, g1⟩⟩
        · exact g1.elim
      | _ => exact g1.elim
theorem ce_fs {v1 v2 : Expr} {rest : List Expr} {fs : List (ME D)} (h : PJs X W (v1 :: v2 :: rest) fs) : PE X (.JoinedStr (v1 :: v2 :: rest) pos) (Te X.K X.mg W (eFs fs)) :=
  PE.imp (pe_joined h.pj) fun σ H Q h => js_run X.mg fs Str.empty σ H _ (Tm.bind (k := fun _ (z : Str) s => R.ok (D.str z) s) h fun m1 H1 env a b s1 r1 E1 p1 g1 => by
    cases (show a = b from p1)
    exact g1.now r1 (.str _))
@[simp] theorem eFmt_eq (a : ME D) (env : Sl) (s : Store) : eFmt a env s = (a env s).bind fun x s => match x with
  | .str z => if z.length ≤ 1000000 then .ok (.str z) s else .no
  | .int i => if i.natAbs.log2 < 1920 then .ok (.str (toString i)) s else .no
  | _ => .no := rfl
@[simp] theorem eJs_nil (acc : Str) (env : Sl) (s : Store) : eJs [] acc env s = .ok acc s := rfl
@[simp] theorem eJs_cons (f : ME D) (fs : List (ME D)) (acc : Str) (env : Sl) (s : Store) : eJs (f :: fs) acc env s = (f env s).bind fun x s => match x with
  | .str y => if (acc ++ y).length ≤ 1000000 then eJs fs (acc ++ y) env s else .no
  | _ => .no := rfl
@[simp] theorem eFs_eq (fs : List (ME D)) (env : Sl) (s : Store) : eFs fs env s = (eJs fs Str.empty env s).bind fun z s => .ok (.str z) s := rfl
end
@[simp] theorem eM1_eq (g : D → List D → Store → Option (D × Store)) (o a : ME D) (env : Sl) (s : Store) : eM1 g o a env s = (o env s).bind fun x s => match x with
  | .str z => (a env s).bind fun y s => R.of (g (.str z) [y] s)
  | _ => .no := rfl
theorem dSplit_str {a b : Str} (h : b.length ≠ 0) (hz : a.length ≤ 1000000) (s : Store) : dSplit (.str a) [.str b] s = some (.loc s.length, s ++ [.lst ((Txt.split a b).map D.str)]) := if_pos ⟨h, hz⟩
@[simp] theorem dStarts_str (a b : Str) (s : Store) : dStarts (.str a) [.str b] s = some (.bl (Txt.startswith a b), s) := rfl
theorem hcl1 {mg : Str → Option Value} {c k : Str} {C : Addr} {cls : Value} (g : mg c = some (.ref C)) (h3 : k ∈ [c]) (h4 : mg k = some cls) : cls = .ref C := by
  rw [List.mem_singleton.mp h3, g] at h4
  cases h4
  rfl
end Mi
namespace Law
open PySem PySem.Spec PyProof.Rows L2 Mi
/-! ### the text -/
def topS (i : Nat) : Stmt := PySem.Challenge.pw_beforeinall_k05_dates_in_texts.main.body.getD i (.Pass ⟨0, 0, 0, 0⟩)
abbrev s_make_dates : Stmt := topS 12
abbrev s_words_of : Stmt := topS 14
abbrev s_parted_words : Stmt := topS 15
abbrev s_written_integer : Stmt := topS 16
abbrev s_year_text : Stmt := topS 17
abbrev s_year_from : Stmt := topS 18
abbrev s_stretch_text : Stmt := topS 20
abbrev s_dates_text : Stmt := topS 21
abbrev s_stretch_from : Stmt := topS 22
abbrev s_dates_from : Stmt := topS 23
abbrev s_read_dates : Stmt := topS 24
abbrev s_d_law_pool : Stmt := topS 26
abbrev s_d_law_draw : Stmt := topS 27
abbrev s_d_law_often_end : Stmt := topS 28
abbrev s_d_law_is_integer : Stmt := topS 29
abbrev s_d_law_same : Stmt := topS 30
abbrev s_d_law_dates : Stmt := topS 31
abbrev s_d_law_year_words : Stmt := topS 32
abbrev s_d_law_stretch_words : Stmt := topS 33
abbrev s_d_law_text : Stmt := topS 34
abbrev s_d_law_line : Stmt := topS 35
abbrev s_d_law_year_due : Stmt := topS 36
abbrev s_d_law_stretch_due : Stmt := topS 37
abbrev s_d_law_due : Stmt := topS 38
abbrev s_d_law_ask : Stmt := topS 39
abbrev s_d_law_right : Stmt := topS 40
abbrev s_d_law_shuffled : Stmt := topS 41
abbrev s_d_law_more_pairs : Stmt := topS 42
abbrev s_d_law_free_pairs : Stmt := topS 43
abbrev s_d_law_wrong_word : Stmt := topS 44
abbrev s_d_law_spoilt : Stmt := topS 45
abbrev s_d_law_wrong_lines : Stmt := topS 46
abbrev s_law : Stmt := topS 47
theorem sc_make_dates : FnScope ["pairs", "found", "low", "high"] ["pairs"] (defScope s_make_dates) := ⟨rfl, rfl, rfl, by decide +kernel, rfl, by decide +kernel, by decide +kernel⟩
theorem sc_words_of : FnScope ["line", "word"] ["line"] (defScope s_words_of) := ⟨rfl, rfl, rfl, by decide +kernel, rfl, by decide +kernel, by decide +kernel⟩
theorem sc_parted_words : FnScope ["words", "mark", "found", "group", "word"] ["words", "mark"] (defScope s_parted_words) := ⟨rfl, rfl, rfl, by decide +kernel, rfl, by decide +kernel, by decide +kernel⟩
theorem sc_written_integer : FnScope ["word", "figures", "sign"] ["word"] (defScope s_written_integer) := ⟨rfl, rfl, rfl, by decide +kernel, rfl, by decide +kernel, by decide +kernel⟩
theorem sc_year_text : FnScope ["year"] ["year"] (defScope s_year_text) := ⟨rfl, rfl, rfl, by decide +kernel, rfl, by decide +kernel, by decide +kernel⟩
theorem sc_year_from : FnScope ["words", "many", "year"] ["words"] (defScope s_year_from) := ⟨rfl, rfl, rfl, by decide +kernel, rfl, by decide +kernel, by decide +kernel⟩
theorem sc_stretch_text : FnScope ["low", "high"] ["low", "high"] (defScope s_stretch_text) := ⟨rfl, rfl, rfl, by decide +kernel, rfl, by decide +kernel, by decide +kernel⟩
theorem sc_dates_text : FnScope ["dates", "low", "high"] ["dates"] (defScope s_dates_text) := ⟨rfl, rfl, rfl, by decide +kernel, rfl, by decide +kernel, by decide +kernel⟩
theorem sc_stretch_from : FnScope ["words", "year", "word", "low", "high"] ["words"] (defScope s_stretch_from) := ⟨rfl, rfl, rfl, by decide +kernel, rfl, by decide +kernel, by decide +kernel⟩
theorem sc_dates_from : FnScope ["words", "pairs", "group", "pair", "word"] ["words"] (defScope s_dates_from) := ⟨rfl, rfl, rfl, by decide +kernel, rfl, by decide +kernel, by decide +kernel⟩
theorem sc_read_dates : FnScope ["text", "dates", "word"] ["text"] (defScope s_read_dates) := ⟨rfl, rfl, rfl, by decide +kernel, rfl, by decide +kernel, by decide +kernel⟩
theorem sc_d_law_pool : FnScope ["script", "mixed", "great", "cell", "plain"] ["script"] (defScope s_d_law_pool) := ⟨rfl, rfl, rfl, by decide +kernel, rfl, by decide +kernel, by decide +kernel⟩
theorem sc_d_law_draw : FnScope ["pool", "many", "cell"] ["pool", "many"] (defScope s_d_law_draw) := ⟨rfl, rfl, rfl, by decide +kernel, rfl, by decide +kernel, by decide +kernel⟩
theorem sc_d_law_often_end : FnScope ["pool", "many", "habit"] ["pool", "many"] (defScope s_d_law_often_end) := ⟨rfl, rfl, rfl, by decide +kernel, rfl, by decide +kernel, by decide +kernel⟩
theorem sc_d_law_is_integer : FnScope ["told"] ["told"] (defScope s_d_law_is_integer) := ⟨rfl, rfl, rfl, by decide +kernel, rfl, by decide +kernel, by decide +kernel⟩
theorem sc_d_law_same : FnScope ["told", "due", "place", "pair"] ["told", "due"] (defScope s_d_law_same) := ⟨rfl, rfl, rfl, by decide +kernel, rfl, by decide +kernel, by decide +kernel⟩
theorem sc_d_law_dates : FnScope ["pool", "many", "wide", "place", "sizes", "holes", "room", "year", "turn", "ahead", "dates"] ["pool", "many"] (defScope s_d_law_dates) := ⟨rfl, rfl, rfl, by decide +kernel, rfl, by decide +kernel, by decide +kernel⟩
theorem sc_d_law_year_words : FnScope ["year"] ["year"] (defScope s_d_law_year_words) := ⟨rfl, rfl, rfl, by decide +kernel, rfl, by decide +kernel, by decide +kernel⟩
theorem sc_d_law_stretch_words : FnScope ["pool", "pair", "words"] ["pool", "pair"] (defScope s_d_law_stretch_words) := ⟨rfl, rfl, rfl, by decide +kernel, rfl, by decide +kernel, by decide +kernel⟩
theorem sc_d_law_text : FnScope ["dates", "texts", "pair", "text"] ["dates"] (defScope s_d_law_text) := ⟨rfl, rfl, rfl, by decide +kernel, rfl, by decide +kernel, by decide +kernel⟩
theorem sc_d_law_line : FnScope ["pool", "rows", "spaces", "wide", "line", "place", "near"] ["pool", "rows"] (defScope s_d_law_line) := ⟨rfl, rfl, rfl, by decide +kernel, rfl, by decide +kernel, by decide +kernel⟩
theorem sc_d_law_year_due : FnScope ["number", "sign", "figure", "year"] ["number", "sign"] (defScope s_d_law_year_due) := ⟨rfl, rfl, rfl, by decide +kernel, rfl, by decide +kernel, by decide +kernel⟩
theorem sc_d_law_stretch_due : FnScope ["words", "low", "high"] ["words"] (defScope s_d_law_stretch_due) := ⟨rfl, rfl, rfl, by decide +kernel, rfl, by decide +kernel, by decide +kernel⟩
theorem sc_d_law_due : FnScope ["text", "word", "words", "rows", "pairs", "row", "due", "joined", "pair", "last"] ["text"] (defScope s_d_law_due) := ⟨rfl, rfl, rfl, by decide +kernel, rfl, by decide +kernel, by decide +kernel⟩
theorem sc_d_law_ask : FnScope ["text", "told", "e"] ["text"] (defScope s_d_law_ask) := ⟨rfl, rfl, rfl, by decide +kernel, rfl, by decide +kernel, by decide +kernel⟩
theorem sc_d_law_right : FnScope ["text", "told", "due"] ["text"] (defScope s_d_law_right) := ⟨rfl, rfl, rfl, by decide +kernel, rfl, by decide +kernel, by decide +kernel⟩
theorem sc_d_law_shuffled : FnScope ["pool", "rows", "left", "mixed", "lap"] ["pool", "rows"] (defScope s_d_law_shuffled) := ⟨rfl, rfl, rfl, by decide +kernel, rfl, by decide +kernel, by decide +kernel⟩
theorem sc_d_law_more_pairs : FnScope ["pool", "dates", "pairs", "lap", "pair", "low"] ["pool", "dates"] (defScope s_d_law_more_pairs) := ⟨rfl, rfl, rfl, by decide +kernel, rfl, by decide +kernel, by decide +kernel⟩
theorem sc_d_law_free_pairs : FnScope ["pool", "many", "wide", "base", "pairs", "lap", "low"] ["pool"] (defScope s_d_law_free_pairs) := ⟨rfl, rfl, rfl, by decide +kernel, rfl, by decide +kernel, by decide +kernel⟩
theorem sc_d_law_wrong_word : FnScope ["pool", "word", "wrong"] ["pool", "word"] (defScope s_d_law_wrong_word) := ⟨rfl, rfl, rfl, by decide +kernel, rfl, by decide +kernel, by decide +kernel⟩
theorem sc_d_law_spoilt : FnScope ["pool", "row", "turn", "at", "wrong", "far", "beyond"] ["pool", "row"] (defScope s_d_law_spoilt) := ⟨rfl, rfl, rfl, by decide +kernel, rfl, by decide +kernel, by decide +kernel⟩
theorem sc_d_law_wrong_lines : FnScope ["pool", "pairs", "rows", "lines", "lap", "at", "once", "other", "wrong", "pair"] ["pool", "pairs"] (defScope s_d_law_wrong_lines) := ⟨rfl, rfl, rfl, by decide +kernel, rfl, by decide +kernel, by decide +kernel⟩
theorem sc_law : FnScope ["script", "pool", "dates", "one", "told", "first", "refused", "line", "pair"] ["script"] (defScope s_law) := ⟨rfl, rfl, rfl, by decide +kernel, rfl, by decide +kernel, by decide +kernel⟩
abbrev s_BadText : Stmt := (clsBody (topS 10)).getD 0 (.Pass ⟨0, 0, 0, 0⟩)
theorem sc_BadText : FnScope ["self", "line", "word"] ["self", "line", "word"] (defScope s_BadText) := ⟨rfl, rfl, rfl, by decide +kernel, rfl, by decide +kernel, by decide +kernel⟩
/-! ### what the top has left -/
structure Fx (K : PySem.W.Frag) (mg : Str → Option Value) where
  a_make_dates : Addr
  d_make_dates : FuncData
  F_make_dates : Fun K "make_dates" "make_dates" s_make_dates a_make_dates d_make_dates
  g_make_dates : mg "make_dates" = some (.ref a_make_dates)
  a_words_of : Addr
  d_words_of : FuncData
  F_words_of : Fun K "words_of" "words_of" s_words_of a_words_of d_words_of
  g_words_of : mg "words_of" = some (.ref a_words_of)
  a_parted_words : Addr
  d_parted_words : FuncData
  F_parted_words : Fun K "parted_words" "parted_words" s_parted_words a_parted_words d_parted_words
  g_parted_words : mg "parted_words" = some (.ref a_parted_words)
  a_written_integer : Addr
  d_written_integer : FuncData
  F_written_integer : Fun K "written_integer" "written_integer" s_written_integer a_written_integer d_written_integer
  g_written_integer : mg "written_integer" = some (.ref a_written_integer)
  a_year_text : Addr
  d_year_text : FuncData
  F_year_text : Fun K "year_text" "year_text" s_year_text a_year_text d_year_text
  g_year_text : mg "year_text" = some (.ref a_year_text)
  a_year_from : Addr
  d_year_from : FuncData
  F_year_from : Fun K "year_from" "year_from" s_year_from a_year_from d_year_from
  g_year_from : mg "year_from" = some (.ref a_year_from)
  a_stretch_text : Addr
  d_stretch_text : FuncData
  F_stretch_text : Fun K "stretch_text" "stretch_text" s_stretch_text a_stretch_text d_stretch_text
  g_stretch_text : mg "stretch_text" = some (.ref a_stretch_text)
  a_dates_text : Addr
  d_dates_text : FuncData
  F_dates_text : Fun K "dates_text" "dates_text" s_dates_text a_dates_text d_dates_text
  g_dates_text : mg "dates_text" = some (.ref a_dates_text)
  a_stretch_from : Addr
  d_stretch_from : FuncData
  F_stretch_from : Fun K "stretch_from" "stretch_from" s_stretch_from a_stretch_from d_stretch_from
  g_stretch_from : mg "stretch_from" = some (.ref a_stretch_from)
  a_dates_from : Addr
  d_dates_from : FuncData
  F_dates_from : Fun K "dates_from" "dates_from" s_dates_from a_dates_from d_dates_from
  g_dates_from : mg "dates_from" = some (.ref a_dates_from)
  a_read_dates : Addr
  d_read_dates : FuncData
  F_read_dates : Fun K "read_dates" "read_dates" s_read_dates a_read_dates d_read_dates
  g_read_dates : mg "read_dates" = some (.ref a_read_dates)
  a_d_law_pool : Addr
  d_d_law_pool : FuncData
  F_d_law_pool : Fun K "_law_pool" "_law_pool" s_d_law_pool a_d_law_pool d_d_law_pool
  g_d_law_pool : mg "_law_pool" = some (.ref a_d_law_pool)
  a_d_law_draw : Addr
  d_d_law_draw : FuncData
  F_d_law_draw : Fun K "_law_draw" "_law_draw" s_d_law_draw a_d_law_draw d_d_law_draw
  g_d_law_draw : mg "_law_draw" = some (.ref a_d_law_draw)
  a_d_law_often_end : Addr
  d_d_law_often_end : FuncData
  F_d_law_often_end : Fun K "_law_often_end" "_law_often_end" s_d_law_often_end a_d_law_often_end d_d_law_often_end
  g_d_law_often_end : mg "_law_often_end" = some (.ref a_d_law_often_end)
  a_d_law_is_integer : Addr
  d_d_law_is_integer : FuncData
  F_d_law_is_integer : Fun K "_law_is_integer" "_law_is_integer" s_d_law_is_integer a_d_law_is_integer d_d_law_is_integer
  g_d_law_is_integer : mg "_law_is_integer" = some (.ref a_d_law_is_integer)
  a_d_law_same : Addr
  d_d_law_same : FuncData
  F_d_law_same : Fun K "_law_same" "_law_same" s_d_law_same a_d_law_same d_d_law_same
  g_d_law_same : mg "_law_same" = some (.ref a_d_law_same)
  a_d_law_dates : Addr
  d_d_law_dates : FuncData
  F_d_law_dates : Fun K "_law_dates" "_law_dates" s_d_law_dates a_d_law_dates d_d_law_dates
  g_d_law_dates : mg "_law_dates" = some (.ref a_d_law_dates)
  a_d_law_year_words : Addr
  d_d_law_year_words : FuncData
  F_d_law_year_words : Fun K "_law_year_words" "_law_year_words" s_d_law_year_words a_d_law_year_words d_d_law_year_words
  g_d_law_year_words : mg "_law_year_words" = some (.ref a_d_law_year_words)
  a_d_law_stretch_words : Addr
  d_d_law_stretch_words : FuncData
  F_d_law_stretch_words : Fun K "_law_stretch_words" "_law_stretch_words" s_d_law_stretch_words a_d_law_stretch_words d_d_law_stretch_words
  g_d_law_stretch_words : mg "_law_stretch_words" = some (.ref a_d_law_stretch_words)
  a_d_law_text : Addr
  d_d_law_text : FuncData
  F_d_law_text : Fun K "_law_text" "_law_text" s_d_law_text a_d_law_text d_d_law_text
  g_d_law_text : mg "_law_text" = some (.ref a_d_law_text)
  a_d_law_line : Addr
  d_d_law_line : FuncData
  F_d_law_line : Fun K "_law_line" "_law_line" s_d_law_line a_d_law_line d_d_law_line
  g_d_law_line : mg "_law_line" = some (.ref a_d_law_line)
  a_d_law_year_due : Addr
  d_d_law_year_due : FuncData
  F_d_law_year_due : Fun K "_law_year_due" "_law_year_due" s_d_law_year_due a_d_law_year_due d_d_law_year_due
  g_d_law_year_due : mg "_law_year_due" = some (.ref a_d_law_year_due)
  a_d_law_stretch_due : Addr
  d_d_law_stretch_due : FuncData
  F_d_law_stretch_due : Fun K "_law_stretch_due" "_law_stretch_due" s_d_law_stretch_due a_d_law_stretch_due d_d_law_stretch_due
  g_d_law_stretch_due : mg "_law_stretch_due" = some (.ref a_d_law_stretch_due)
  a_d_law_due : Addr
  d_d_law_due : FuncData
  F_d_law_due : Fun K "_law_due" "_law_due" s_d_law_due a_d_law_due d_d_law_due
  g_d_law_due : mg "_law_due" = some (.ref a_d_law_due)
  a_d_law_ask : Addr
  d_d_law_ask : FuncData
  F_d_law_ask : Fun K "_law_ask" "_law_ask" s_d_law_ask a_d_law_ask d_d_law_ask
  g_d_law_ask : mg "_law_ask" = some (.ref a_d_law_ask)
  a_d_law_right : Addr
  d_d_law_right : FuncData
  F_d_law_right : Fun K "_law_right" "_law_right" s_d_law_right a_d_law_right d_d_law_right
  g_d_law_right : mg "_law_right" = some (.ref a_d_law_right)
  a_d_law_shuffled : Addr
  d_d_law_shuffled : FuncData
  F_d_law_shuffled : Fun K "_law_shuffled" "_law_shuffled" s_d_law_shuffled a_d_law_shuffled d_d_law_shuffled
  g_d_law_shuffled : mg "_law_shuffled" = some (.ref a_d_law_shuffled)
  a_d_law_more_pairs : Addr
  d_d_law_more_pairs : FuncData
  F_d_law_more_pairs : Fun K "_law_more_pairs" "_law_more_pairs" s_d_law_more_pairs a_d_law_more_pairs d_d_law_more_pairs
  g_d_law_more_pairs : mg "_law_more_pairs" = some (.ref a_d_law_more_pairs)
  a_d_law_free_pairs : Addr
  d_d_law_free_pairs : FuncData
  F_d_law_free_pairs : Fun K "_law_free_pairs" "_law_free_pairs" s_d_law_free_pairs a_d_law_free_pairs d_d_law_free_pairs
  g_d_law_free_pairs : mg "_law_free_pairs" = some (.ref a_d_law_free_pairs)
  a_d_law_wrong_word : Addr
  d_d_law_wrong_word : FuncData
  F_d_law_wrong_word : Fun K "_law_wrong_word" "_law_wrong_word" s_d_law_wrong_word a_d_law_wrong_word d_d_law_wrong_word
  g_d_law_wrong_word : mg "_law_wrong_word" = some (.ref a_d_law_wrong_word)
  a_d_law_spoilt : Addr
  d_d_law_spoilt : FuncData
  F_d_law_spoilt : Fun K "_law_spoilt" "_law_spoilt" s_d_law_spoilt a_d_law_spoilt d_d_law_spoilt
  g_d_law_spoilt : mg "_law_spoilt" = some (.ref a_d_law_spoilt)
  a_d_law_wrong_lines : Addr
  d_d_law_wrong_lines : FuncData
  F_d_law_wrong_lines : Fun K "_law_wrong_lines" "_law_wrong_lines" s_d_law_wrong_lines a_d_law_wrong_lines d_d_law_wrong_lines
  g_d_law_wrong_lines : mg "_law_wrong_lines" = some (.ref a_d_law_wrong_lines)
  a_law : Addr
  d_law : FuncData
  F_law : Fun K "law" "law" s_law a_law d_law
  g_law : mg "law" = some (.ref a_law)
  c_BadText : Addr
  i_BadText : Addr
  d_BadText : FuncData
  gc_BadText : mg "BadText" = some (.ref c_BadText)
  T_BadText : OexC K c_BadText
  iC_BadText : PySem.W.findIn K (.ref c_BadText) "__init__" = some (some (.ref i_BadText))
  tI_BadText : PySem.W.typeIn K (.ref i_BadText) = some (.type "function")
  F_BadText : Fun K "__init__" "BadText.__init__" s_BadText i_BadText d_BadText
  xf_BadText : XfC K c_BadText
  te_BadText : PySem.W.exmOne K (.ref c_BadText) (.ref c_BadText) = some true
  no_BadText_line : PySem.W.findIn K (.ref c_BadText) "line" = some none
  no_BadText_word : PySem.W.findIn K (.ref c_BadText) "word" = some none
  c_TextError : Addr
  gc_TextError : mg "TextError" = some (.ref c_TextError)
  c_DataError : Addr
  gc_DataError : mg "DataError" = some (.ref c_DataError)
  c_CallError : Addr
  gc_CallError : mg "CallError" = some (.ref c_CallError)
  c_DeskError : Addr
  gc_DeskError : mg "DeskError" = some (.ref c_DeskError)
  EC_BadText : ExcC K c_BadText
  ki_0 : PySem.W.kitOne K (.ref c_BadText) (.ref c_TextError) = some true
  ki_1 : PySem.W.kitAny K (.ref c_BadText) ([c_DataError, c_CallError, c_DeskError].map Value.ref) = some false
  k_FIGURES : ∃ t, mg "FIGURES" = some (.str "0123456789" t)
  k_WRITTEN_MOST : ∃ t, mg "WRITTEN_MOST" = some (.int (9) t)
  k_YEAR_LEAST : ∃ t, mg "YEAR_LEAST" = some (.int (-9999) t)
  k_YEAR_MOST : ∃ t, mg "YEAR_MOST" = some (.int (9999) t)
  b_bool : mg "bool" = none
  b_int : mg "int" = none
  b_isinstance : mg "isinstance" = none
  b_len : mg "len" = none
  b_list : mg "list" = none
  b_max : mg "max" = none
  b_min : mg "min" = none
  b_range : mg "range" = none
  b_sorted : mg "sorted" = none
  b_str : mg "str" = none
  b_sum : mg "sum" = none
  b_tuple : mg "tuple" = none
variable {P : Program} {w : World} {K : PySem.W.Frag} {mg : Str → Option Value} {base : Heap}
theorem bd_make_dates (X : Fx K mg) : Binds K X.d_make_dates ["pairs"] [] := X.F_make_dates.binds (ps := ["pairs"]) fun _ _ _ _ _ _ us hl => match us, hl with | [_], _ => rfl
theorem bd_words_of (X : Fx K mg) : Binds K X.d_words_of ["line"] [] := X.F_words_of.binds (ps := ["line"]) fun _ _ _ _ _ _ us hl => match us, hl with | [_], _ => rfl
theorem bd_parted_words (X : Fx K mg) : Binds K X.d_parted_words ["words", "mark"] [] := X.F_parted_words.binds (ps := ["words", "mark"]) fun _ _ _ _ _ _ us hl => match us, hl with | [_, _], _ => rfl
theorem bd_written_integer (X : Fx K mg) : Binds K X.d_written_integer ["word"] [] := X.F_written_integer.binds (ps := ["word"]) fun _ _ _ _ _ _ us hl => match us, hl with | [_], _ => rfl
theorem bd_year_text (X : Fx K mg) : Binds K X.d_year_text ["year"] [] := X.F_year_text.binds (ps := ["year"]) fun _ _ _ _ _ _ us hl => match us, hl with | [_], _ => rfl
theorem bd_year_from (X : Fx K mg) : Binds K X.d_year_from ["words"] [] := X.F_year_from.binds (ps := ["words"]) fun _ _ _ _ _ _ us hl => match us, hl with | [_], _ => rfl
theorem bd_stretch_text (X : Fx K mg) : Binds K X.d_stretch_text ["low", "high"] [] := X.F_stretch_text.binds (ps := ["low", "high"]) fun _ _ _ _ _ _ us hl => match us, hl with | [_, _], _ => rfl
theorem bd_dates_text (X : Fx K mg) : Binds K X.d_dates_text ["dates"] [] := X.F_dates_text.binds (ps := ["dates"]) fun _ _ _ _ _ _ us hl => match us, hl with | [_], _ => rfl
theorem bd_stretch_from (X : Fx K mg) : Binds K X.d_stretch_from ["words"] [] := X.F_stretch_from.binds (ps := ["words"]) fun _ _ _ _ _ _ us hl => match us, hl with | [_], _ => rfl
theorem bd_dates_from (X : Fx K mg) : Binds K X.d_dates_from ["words"] [] := X.F_dates_from.binds (ps := ["words"]) fun _ _ _ _ _ _ us hl => match us, hl with | [_], _ => rfl
theorem bd_read_dates (X : Fx K mg) : Binds K X.d_read_dates ["text"] [] := X.F_read_dates.binds (ps := ["text"]) fun _ _ _ _ _ _ us hl => match us, hl with | [_], _ => rfl
theorem bd_d_law_pool (X : Fx K mg) : Binds K X.d_d_law_pool ["script"] [] := X.F_d_law_pool.binds (ps := ["script"]) fun _ _ _ _ _ _ us hl => match us, hl with | [_], _ => rfl
theorem bd_d_law_draw (X : Fx K mg) : Binds K X.d_d_law_draw ["pool", "many"] [] := X.F_d_law_draw.binds (ps := ["pool", "many"]) fun _ _ _ _ _ _ us hl => match us, hl with | [_, _], _ => rfl
theorem bd_d_law_often_end (X : Fx K mg) : Binds K X.d_d_law_often_end ["pool", "many"] [] := X.F_d_law_often_end.binds (ps := ["pool", "many"]) fun _ _ _ _ _ _ us hl => match us, hl with | [_, _], _ => rfl
theorem bd_d_law_is_integer (X : Fx K mg) : Binds K X.d_d_law_is_integer ["told"] [] := X.F_d_law_is_integer.binds (ps := ["told"]) fun _ _ _ _ _ _ us hl => match us, hl with | [_], _ => rfl
theorem bd_d_law_same (X : Fx K mg) : Binds K X.d_d_law_same ["told", "due"] [] := X.F_d_law_same.binds (ps := ["told", "due"]) fun _ _ _ _ _ _ us hl => match us, hl with | [_, _], _ => rfl
theorem bd_d_law_dates (X : Fx K mg) : Binds K X.d_d_law_dates ["pool", "many"] [] := X.F_d_law_dates.binds (ps := ["pool", "many"]) fun _ _ _ _ _ _ us hl => match us, hl with | [_, _], _ => rfl
theorem bd_d_law_year_words (X : Fx K mg) : Binds K X.d_d_law_year_words ["year"] [] := X.F_d_law_year_words.binds (ps := ["year"]) fun _ _ _ _ _ _ us hl => match us, hl with | [_], _ => rfl
theorem bd_d_law_stretch_words (X : Fx K mg) : Binds K X.d_d_law_stretch_words ["pool", "pair"] [] := X.F_d_law_stretch_words.binds (ps := ["pool", "pair"]) fun _ _ _ _ _ _ us hl => match us, hl with | [_, _], _ => rfl
theorem bd_d_law_text (X : Fx K mg) : Binds K X.d_d_law_text ["dates"] [] := X.F_d_law_text.binds (ps := ["dates"]) fun _ _ _ _ _ _ us hl => match us, hl with | [_], _ => rfl
theorem bd_d_law_line (X : Fx K mg) : Binds K X.d_d_law_line ["pool", "rows"] [] := X.F_d_law_line.binds (ps := ["pool", "rows"]) fun _ _ _ _ _ _ us hl => match us, hl with | [_, _], _ => rfl
theorem bd_d_law_year_due (X : Fx K mg) : Binds K X.d_d_law_year_due ["number", "sign"] [] := X.F_d_law_year_due.binds (ps := ["number", "sign"]) fun _ _ _ _ _ _ us hl => match us, hl with | [_, _], _ => rfl
theorem bd_d_law_stretch_due (X : Fx K mg) : Binds K X.d_d_law_stretch_due ["words"] [] := X.F_d_law_stretch_due.binds (ps := ["words"]) fun _ _ _ _ _ _ us hl => match us, hl with | [_], _ => rfl
theorem bd_d_law_due (X : Fx K mg) : Binds K X.d_d_law_due ["text"] [] := X.F_d_law_due.binds (ps := ["text"]) fun _ _ _ _ _ _ us hl => match us, hl with | [_], _ => rfl
theorem bd_d_law_ask (X : Fx K mg) : Binds K X.d_d_law_ask ["text"] [] := X.F_d_law_ask.binds (ps := ["text"]) fun _ _ _ _ _ _ us hl => match us, hl with | [_], _ => rfl
theorem bd_d_law_right (X : Fx K mg) : Binds K X.d_d_law_right ["text"] [] := X.F_d_law_right.binds (ps := ["text"]) fun _ _ _ _ _ _ us hl => match us, hl with | [_], _ => rfl
theorem bd_d_law_shuffled (X : Fx K mg) : Binds K X.d_d_law_shuffled ["pool", "rows"] [] := X.F_d_law_shuffled.binds (ps := ["pool", "rows"]) fun _ _ _ _ _ _ us hl => match us, hl with | [_, _], _ => rfl
theorem bd_d_law_more_pairs (X : Fx K mg) : Binds K X.d_d_law_more_pairs ["pool", "dates"] [] := X.F_d_law_more_pairs.binds (ps := ["pool", "dates"]) fun _ _ _ _ _ _ us hl => match us, hl with | [_, _], _ => rfl
theorem bd_d_law_free_pairs (X : Fx K mg) : Binds K X.d_d_law_free_pairs ["pool"] [] := X.F_d_law_free_pairs.binds (ps := ["pool"]) fun _ _ _ _ _ _ us hl => match us, hl with | [_], _ => rfl
theorem bd_d_law_wrong_word (X : Fx K mg) : Binds K X.d_d_law_wrong_word ["pool", "word"] [] := X.F_d_law_wrong_word.binds (ps := ["pool", "word"]) fun _ _ _ _ _ _ us hl => match us, hl with | [_, _], _ => rfl
theorem bd_d_law_spoilt (X : Fx K mg) : Binds K X.d_d_law_spoilt ["pool", "row"] [] := X.F_d_law_spoilt.binds (ps := ["pool", "row"]) fun _ _ _ _ _ _ us hl => match us, hl with | [_, _], _ => rfl
theorem bd_d_law_wrong_lines (X : Fx K mg) : Binds K X.d_d_law_wrong_lines ["pool", "pairs"] [] := X.F_d_law_wrong_lines.binds (ps := ["pool", "pairs"]) fun _ _ _ _ _ _ us hl => match us, hl with | [_, _], _ => rfl
theorem bd_law (X : Fx K mg) : Binds K X.d_law ["script"] [] := X.F_law.binds (ps := ["script"]) fun _ _ _ _ _ _ us hl => match us, hl with | [_], _ => rfl
theorem bi_BadText (X : Fx K mg) : Binds K X.d_BadText ["self", "line", "word"] [] := X.F_BadText.binds (ps := ["self", "line", "word"]) fun _ _ _ _ _ _ us hl => match us, hl with | [_, _, _], _ => rfl
theorem oi_BadText (X : Fx K mg) : FnOk P w K mg base (L2.CX P w) 1 X.i_BadText X.d_BadText ["self", "line", "word"] (spI2 X.c_BadText "line" "word") := okI2 X.F_BadText sc_BadText rfl rfl X.T_BadText X.no_BadText_line X.no_BadText_word fun cdv A outer s H E => pss_cons (ps_ost (pv 0) (pv 1)) (pss_one (ps_ost (pv 0) (pv 2)))
/-! ### mirrors and derivations -/
noncomputable def bl_make_dates_1 : MS := sIf (tOr (tNot (tTru (eV 1))) (tV (e2 dGt (eV 2) (e2 dAdd (e2 dIx (e2 dIx (eV 1) (e1 dNeg (eC (.int 1)))) (eC (.int 1))) (eC (.int 1)))))) (sExpr (eMt "list" dAppend (eV 1) (aCons (eTup (aCons (eV 2) (aCons (eV 3) (aNil)))) (aNil)))) (sIf (tV (e2 dGt (eV 3) (e2 dIx (e2 dIx (eV 1) (e1 dNeg (eC (.int 1)))) (eC (.int 1))))) (sPut pList (eV 1) (e1 dNeg (eC (.int 1))) (eTup (aCons (e2 dIx (e2 dIx (eV 1) (e1 dNeg (eC (.int 1)))) (eC (.int 0))) (aCons (eV 3) (aNil))))) (sNil))
noncomputable def b_make_dates : MS := sSeq (sSet 1 (eLst (aNil)))
  (sSeq (sFor (iSeq (eFn dSorted (aCons (eV 0) (aNil)))) (gT 2 (gsC (gN 2) (gsC (gN 3) (gsN)))) (bl_make_dates_1))
  (sRet (eFn dTuple (aCons (eV 1) (aNil)))))
noncomputable def m_make_dates : List D → Store → R D := fnM 4 1 b_make_dates
theorem ok_make_dates (X : Fx K mg) : FnOk P w K mg base (L2.CX P w) 1 X.a_make_dates X.d_make_dates ["pairs"] (spM K mg 1 m_make_dates) :=
  okM (k := 0) X.F_make_dates sc_make_dates rfl fun cdv A outer s H E hr tk =>
    (css_cons (cs_set (j := 1) sc_make_dates.nd rfl (Or.inl rfl) (ce_lst (ca_nil)))
    (css_cons (cs_for (passes_of rfl) rfl (ci_seq (ce_callB (cr_sortedB hr.units) fns_sorted (by rfl) X.b_sorted (by decide +kernel) (ca_cons (ce_v 0) (ca_nil)))) (cg_tup (n := 2) rfl (cgs_cons (us := [2, 3]) (cg_name (i := 2) sc_make_dates.nd rfl (by first | exact Or.inl rfl | exact Or.inr rfl)) (cgs_cons (us := [3]) (cg_name (i := 3) sc_make_dates.nd rfl (by first | exact Or.inl rfl | exact Or.inr rfl)) (cgs_nil (vs := []))))) (css_one (cs_if (PW.pt (cw_or (ct_not (ct_tru (ce_v 1))) (cw_or1 (ct_cmp opA_gt ops_gt (ce_v 2) (ce_op op_addA ops_add (ce_ix ix_seq ops_ix (ce_ix ix_seq ops_ix (ce_v 1) (ce_un un_neg uns_neg (ce_int)) (fun _ _ => rfl)) (ce_int) (fun _ _ => rfl)) (ce_int)) (nomark _))))) (css_one (cs_expr (ce_bm PySem.F.plainAttrs_list PySem.F.slot_list_append PySem.F.type_list_append mt_append mts_append (ce_v 1) (ca_cons (ce_tup (ca_cons (ce_v 2) (ca_cons (ce_v 3) (ca_nil)))) (ca_nil))))) (css_one (cs_if (ct_cmp opA_gt ops_gt (ce_v 3) (ce_ix ix_seq ops_ix (ce_ix ix_seq ops_ix (ce_v 1) (ce_un un_neg uns_neg (ce_int)) (fun _ _ => rfl)) (ce_int) (fun _ _ => rfl)) (nomark _)) (css_one (cs_put (ce_tup (ca_cons (ce_ix ix_seq ops_ix (ce_ix ix_seq ops_ix (ce_v 1) (ce_un un_neg uns_neg (ce_int)) (fun _ _ => rfl)) (ce_int) (fun _ _ => rfl)) (ca_cons (ce_v 3) (ca_nil)))) (ce_v 1) (ce_un un_neg uns_neg (ce_int)) set_list puts_list)) (css_nil))))))
    (css_one (cs_ret (ce_callTy call_tuple_of fns_tuple (by rfl) X.b_tuple (by decide +kernel) (ca_cons (ce_v 1) (ca_nil)))))) :
      PSs _ _ (Ts _ _ _ b_make_dates))
noncomputable def lt_words_of_1 : ME Bool := tV (e2 dNe (eV 1) (eC (.str "")))
noncomputable def le_words_of_2 : ME D := eV 1
noncomputable def b_words_of : MS := sRet (eLc (iSeq (eM1 dSplit (eV 0) (eC (.str " ")))) [1] (gN 1) (lt_words_of_1) (le_words_of_2))
noncomputable def m_words_of : List D → Store → R D := fnM 2 1 b_words_of
theorem ok_words_of (X : Fx K mg) : FnOk P w K mg base (L2.CX P w) 1 X.a_words_of X.d_words_of ["line"] (spM K mg 1 m_words_of) :=
  okM (k := 0) X.F_words_of sc_words_of rfl fun cdv A outer s H E hr tk =>
    (css_one (cs_ret (ce_lc (own := [("word", 1)]) rfl sc_words_of.nd (ci_seq (ce_m1 PySem.F.slot_str_split PySem.F.type_str_split mt_split mts_split (ce_v 0) (ce_str))) (blkOk_by (N := ["line", "word"]) (sc := defScope s_words_of) (by decide +kernel)) (fun _ _ _ _ _ => cg_name (i := 1) sc_words_of.nd rfl (by first | exact Or.inl rfl | exact Or.inr rfl)) (fun _ _ _ _ _ => cts_one (ct_cmp (opA_ne hr.units) ops_ne (ce_v 1) (ce_str) (nomark _))) (fun _ _ _ _ _ => ce_v 1))) :
      PSs _ _ (Ts _ _ _ b_words_of))
noncomputable def bl_parted_words_1 : MS := sIf (tV (e2 dEq (eV 4) (eV 1))) (sSeq (sExpr (eMt "list" dAppend (eV 2) (aCons (eV 3) (aNil))))
  (sSet 3 (eLst (aNil)))) (sExpr (eMt "list" dAppend (eV 3) (aCons (eV 4) (aNil))))
noncomputable def b_parted_words : MS := sSeq (sSet 2 (eLst (aNil)))
  (sSeq (sSet 3 (eLst (aNil)))
  (sSeq (sFor (iSeq (eV 0)) (gN 4) (bl_parted_words_1))
  (sSeq (sExpr (eMt "list" dAppend (eV 2) (aCons (eV 3) (aNil))))
  (sRet (eV 2)))))
noncomputable def m_parted_words : List D → Store → R D := fnM 5 2 b_parted_words
theorem ok_parted_words (X : Fx K mg) : FnOk P w K mg base (L2.CX P w) 1 X.a_parted_words X.d_parted_words ["words", "mark"] (spM K mg 2 m_parted_words) :=
  okM (k := 0) X.F_parted_words sc_parted_words rfl fun cdv A outer s H E hr tk =>
    (css_cons (cs_set (j := 2) sc_parted_words.nd rfl (Or.inl rfl) (ce_lst (ca_nil)))
    (css_cons (cs_set (j := 3) sc_parted_words.nd rfl (Or.inl rfl) (ce_lst (ca_nil)))
    (css_cons (cs_for (passes_of rfl) rfl (ci_seq (ce_v 0)) (cg_name (i := 4) sc_parted_words.nd rfl (by first | exact Or.inl rfl | exact Or.inr rfl)) (css_one (cs_if (ct_cmp (opA_eq hr.units) ops_eq (ce_v 4) (ce_v 1) (nomark _)) (css_cons (cs_expr (ce_bm PySem.F.plainAttrs_list PySem.F.slot_list_append PySem.F.type_list_append mt_append mts_append (ce_v 2) (ca_cons (ce_v 3) (ca_nil))))
    (css_one (cs_set (j := 3) sc_parted_words.nd rfl (Or.inl rfl) (ce_lst (ca_nil))))) (css_one (cs_expr (ce_bm PySem.F.plainAttrs_list PySem.F.slot_list_append PySem.F.type_list_append mt_append mts_append (ce_v 3) (ca_cons (ce_v 4) (ca_nil))))))))
    (css_cons (cs_expr (ce_bm PySem.F.plainAttrs_list PySem.F.slot_list_append PySem.F.type_list_append mt_append mts_append (ce_v 2) (ca_cons (ce_v 3) (ca_nil))))
    (css_one (cs_ret (ce_v 2)))))) :
      PSs _ _ (Ts _ _ _ b_parted_words))
noncomputable def bl_written_integer_1 : MS := sIf (tV (e2 dNotIn (eV 2) (eC (.str "0123456789")))) (sRet (eC .non)) (sNil)
noncomputable def b_written_integer : MS := sSeq (sSet 1 (eV 0))
  (sSeq (sIf (tTru (eM1 dStarts (eV 0) (eC (.str "-")))) (sSet 1 (eSl dSlZ (eV 0) (oSome (eC (.int 1))) (oNone))) (sNil))
  (sSeq (sIf (tOr (tV (e2 dEq (eV 1) (eC (.str "")))) (tV (e2 dGt (eFn dLen (aCons (eV 0) (aNil))) (eC (.int 9))))) (sRet (eC .non)) (sNil))
  (sSeq (sFor (iSeq (eV 1)) (gN 2) (bl_written_integer_1))
  (sSeq (sIf (tAnd (tV (e2 dEq (e2 dIx (eV 1) (eC (.int 0))) (eC (.str "0")))) (tV (e2 dNe (eV 0) (eC (.str "0"))))) (sRet (eC .non)) (sNil))
  (sRet (eFn dIntZ (aCons (eV 0) (aNil))))))))
noncomputable def m_written_integer : List D → Store → R D := fnM 3 1 b_written_integer
theorem ok_written_integer (X : Fx K mg) : FnOk P w K mg base (L2.CX P w) 1 X.a_written_integer X.d_written_integer ["word"] (spM K mg 1 m_written_integer) :=
  okM (k := 0) X.F_written_integer sc_written_integer rfl fun cdv A outer s H E hr tk =>
    (css_cons (cs_set (j := 1) sc_written_integer.nd rfl (Or.inl rfl) (ce_v 0))
    (css_cons (cs_if (ct_tru (ce_m1 PySem.F.slot_str_startswith PySem.F.type_str_startswith mt_startswith mts_starts (ce_v 0) (ce_str))) (css_one (cs_set (j := 1) sc_written_integer.nd rfl (Or.inl rfl) (ce_sl sl_Z sls_Z (ce_v 0) (co_some (ce_int)) (co_none)))) (css_nil))
    (css_cons (cs_if (PW.pt (cw_or (ct_cmp (opA_eq hr.units) ops_eq (ce_v 1) (ce_str) (nomark _)) (cw_or1 (ct_cmp opA_gt ops_gt (ce_callB call_len fns_len (by rfl) X.b_len (by decide +kernel) (ca_cons (ce_v 0) (ca_nil))) (ce_globI (by rfl) X.k_WRITTEN_MOST) (nomark _))))) (css_one (cs_ret (ce_non))) (css_nil))
    (css_cons (cs_for (passes_of rfl) rfl (ci_seq (ce_v 1)) (cg_name (i := 2) sc_written_integer.nd rfl (by first | exact Or.inl rfl | exact Or.inr rfl)) (css_one (cs_if (ct_cmp (opA_notin (un65 hr)) ops_notin (ce_v 2) (ce_globS (by rfl) X.k_FIGURES) (by with_unfolding_all rfl)) (css_one (cs_ret (ce_non))) (css_nil))))
    (css_cons (cs_if (PW.pt (cw_and (ct_cmp (opA_eq hr.units) ops_eq (ce_ix ix_seq ops_ix (ce_v 1) (ce_int) (fun _ _ => rfl)) (ce_str) (nomark _)) (cw_and1 (ct_cmp (opA_ne hr.units) ops_ne (ce_v 0) (ce_str) (nomark _))))) (css_one (cs_ret (ce_non))) (css_nil))
    (css_one (cs_ret (ce_callTy call_intZ fns_intZ (by rfl) X.b_int (by decide +kernel) (ca_cons (ce_v 0) (ca_nil))))))))) :
      PSs _ _ (Ts _ _ _ b_written_integer))
noncomputable def b_year_text : MS := sSeq (sIf (tV (e2 dGt (eV 0) (eC (.int 0)))) (sRet (eFs [eFmt (eV 0), eC (.str " AD")])) (sNil))
  (sRet (eFs [eFmt (e2 dSub (eC (.int 1)) (eV 0)), eC (.str " BC")]))
noncomputable def m_year_text : List D → Store → R D := fnM 1 1 b_year_text
theorem ok_year_text (X : Fx K mg) : FnOk P w K mg base (L2.CX P w) 1 X.a_year_text X.d_year_text ["year"] (spM K mg 1 m_year_text) :=
  okM (k := 0) X.F_year_text sc_year_text rfl fun cdv A outer s H E hr tk =>
    (css_cons (cs_if (ct_cmp opA_gt ops_gt (ce_v 0) (ce_int) (nomark _)) (css_one (cs_ret (ce_fs (.cons (ce_fmt (ce_v 0)) (.cons (ce_str) (PJs.nil)))))) (css_nil))
    (css_one (cs_ret (ce_fs (.cons (ce_fmt (ce_op op_sub ops_sub (ce_int) (ce_v 0))) (.cons (ce_str) (PJs.nil)))))) :
      PSs _ _ (Ts _ _ _ b_year_text))
noncomputable def bl_d_law_pool_1 : MS := sSeq (sSet 4 (eFn dIntZ (aCons (eV 3) (aNil))))
  (sSeq (sIf (tV (e2 dLt (eV 4) (eC (.int 0)))) (sSet 4 (e2 dSub (eC (.int 9)) (e2 dMul (eC (.int 2)) (eV 4)))) (sNil))
  (sSeq (sSet 1 (e2 dMod (eFn dIntZ (aCons (e2 dAdd (e2 dAdd (e2 dMul (eV 1) (eC (.int 30011))) (e2 dMul (e2 dMod (eV 4) (eC (.int 1000099))) (eC (.int 23)))) (eC (.int 1))) (aNil))) (eC (.int 2147483549))))
  (sIf (tV (e2 dGe (eV 4) (e2 dPow (eC (.int 10)) (eC (.int 18))))) (sExpr (eMt "list" dAppend (eV 2) (aCons (eV 4) (aNil)))) (sNil))))
noncomputable def b_d_law_pool : MS := sSeq (sSet 1 (eC (.int 40009)))
  (sSeq (sSet 2 (eLst (aNil)))
  (sSeq (sFor (iSeq (eSl dSlZ (eV 0) (oNone) (oSome (eC (.int 63))))) (gN 3) (bl_d_law_pool_1))
  (sRet (e2 dAdd (eLst (aCons (eV 1) (aNil))) (eV 2)))))
noncomputable def m_d_law_pool : List D → Store → R D := fnM 5 1 b_d_law_pool
theorem ok_d_law_pool (X : Fx K mg) : FnOk P w K mg base (L2.CX P w) 1 X.a_d_law_pool X.d_d_law_pool ["script"] (spM K mg 1 m_d_law_pool) :=
  okM (k := 0) X.F_d_law_pool sc_d_law_pool rfl fun cdv A outer s H E hr tk =>
    (css_cons (cs_set (j := 1) sc_d_law_pool.nd rfl (Or.inl rfl) (ce_int))
    (css_cons (cs_set (j := 2) sc_d_law_pool.nd rfl (Or.inl rfl) (ce_lst (ca_nil)))
    (css_cons (cs_for (passes_of rfl) rfl (ci_seq (ce_sl sl_Z sls_Z (ce_v 0) (co_none) (co_some (ce_int)))) (cg_name (i := 3) sc_d_law_pool.nd rfl (by first | exact Or.inl rfl | exact Or.inr rfl)) (css_cons (cs_set (j := 4) sc_d_law_pool.nd rfl (Or.inl rfl) (ce_callTy call_intZ fns_intZ (by rfl) X.b_int (by decide +kernel) (ca_cons (ce_v 3) (ca_nil))))
    (css_cons (cs_if (ct_cmp opA_lt ops_lt (ce_v 4) (ce_int) (nomark _)) (css_one (cs_set (j := 4) sc_d_law_pool.nd rfl (Or.inl rfl) (ce_op op_sub ops_sub (ce_int) (ce_op op_mul ops_mul (ce_int) (ce_v 4))))) (css_nil))
    (css_cons (cs_set (j := 1) sc_d_law_pool.nd rfl (Or.inl rfl) (ce_op op_mod ops_mod (ce_callTy call_intZ fns_intZ (by rfl) X.b_int (by decide +kernel) (ca_cons (ce_op op_addA ops_add (ce_op op_addA ops_add (ce_op op_mul ops_mul (ce_v 1) (ce_int)) (ce_op op_mul ops_mul (ce_op op_mod ops_mod (ce_v 4) (ce_int)) (ce_int))) (ce_int)) (ca_nil))) (ce_int)))
    (css_one (cs_if (ct_cmp opA_ge ops_ge (ce_v 4) (ce_op op_pow ops_pow (ce_int) (ce_int)) (nomark _)) (css_one (cs_expr (ce_bm PySem.F.plainAttrs_list PySem.F.slot_list_append PySem.F.type_list_append mt_append mts_append (ce_v 2) (ca_cons (ce_v 4) (ca_nil))))) (css_nil)))))))
    (css_one (cs_ret (ce_op op_addA ops_add (ce_lst (ca_cons (ce_v 1) (ca_nil))) (ce_v 2)))))) :
      PSs _ _ (Ts _ _ _ b_d_law_pool))
noncomputable def b_d_law_draw : MS := sSeq (sIf (tV (e2 dGt (eFn dLen (aCons (eV 0) (aNil))) (eC (.int 1)))) (sSeq (sSet 2 (eMt0 "list" dPop (eV 0)))
  (sSeq (sIf (tV (e2 dGe (eV 2) (eV 1))) (sExpr (eMt "list" dAppend (eV 0) (aCons (e2 dDiv (eV 2) (eV 1)) (aNil)))) (sNil))
  (sRet (e2 dMod (eFn dIntZ (aCons (eV 2) (aNil))) (eV 1))))) (sNil))
  (sSeq (sPut pList (eV 0) (eC (.int 0)) (e2 dMod (eFn dIntZ (aCons (e2 dAdd (e2 dMul (e2 dIx (eV 0) (eC (.int 0))) (eC (.int 45742))) (eC (.int 6007))) (aNil))) (eC (.int 2147483549))))
  (sRet (e2 dMod (e2 dMod (eFn dIntZ (aCons (e2 dAdd (e2 dMul (e2 dDiv (e2 dIx (eV 0) (eC (.int 0))) (eC (.int 128))) (eC (.int 10067))) (e2 dIx (eV 0) (eC (.int 0)))) (aNil))) (eC (.int 1000000087))) (eV 1))))
noncomputable def m_d_law_draw : List D → Store → R D := fnM 3 2 b_d_law_draw
theorem ok_d_law_draw (X : Fx K mg) : FnOk P w K mg base (L2.CX P w) 1 X.a_d_law_draw X.d_d_law_draw ["pool", "many"] (spM K mg 2 m_d_law_draw) :=
  okM (k := 0) X.F_d_law_draw sc_d_law_draw rfl fun cdv A outer s H E hr tk =>
    (css_cons (cs_if (ct_cmp opA_gt ops_gt (ce_callB call_len fns_len (by rfl) X.b_len (by decide +kernel) (ca_cons (ce_v 0) (ca_nil))) (ce_int) (nomark _)) (css_cons (cs_set (j := 2) sc_d_law_draw.nd rfl (Or.inl rfl) (ce_bm0 PySem.F.plainAttrs_list PySem.F.slot_list_pop PySem.F.type_list_pop mt_pop mts_pop (ce_v 0)))
    (css_cons (cs_if (ct_cmp opA_ge ops_ge (ce_v 2) (ce_v 1) (nomark _)) (css_one (cs_expr (ce_bm PySem.F.plainAttrs_list PySem.F.slot_list_append PySem.F.type_list_append mt_append mts_append (ce_v 0) (ca_cons (ce_op op_fdiv ops_div (ce_v 2) (ce_v 1)) (ca_nil))))) (css_nil))
    (css_one (cs_ret (ce_op op_mod ops_mod (ce_callTy call_intZ fns_intZ (by rfl) X.b_int (by decide +kernel) (ca_cons (ce_v 2) (ca_nil))) (ce_v 1)))))) (css_nil))
    (css_cons (cs_put (ce_op op_mod ops_mod (ce_callTy call_intZ fns_intZ (by rfl) X.b_int (by decide +kernel) (ca_cons (ce_op op_addA ops_add (ce_op op_mul ops_mul (ce_ix ix_seq ops_ix (ce_v 0) (ce_int) (fun _ _ => rfl)) (ce_int)) (ce_int)) (ca_nil))) (ce_int)) (ce_v 0) (ce_int) set_list puts_list)
    (css_one (cs_ret (ce_op op_mod ops_mod (ce_op op_mod ops_mod (ce_callTy call_intZ fns_intZ (by rfl) X.b_int (by decide +kernel) (ca_cons (ce_op op_addA ops_add (ce_op op_mul ops_mul (ce_op op_fdiv ops_div (ce_ix ix_seq ops_ix (ce_v 0) (ce_int) (fun _ _ => rfl)) (ce_int)) (ce_int)) (ce_ix ix_seq ops_ix (ce_v 0) (ce_int) (fun _ _ => rfl))) (ca_nil))) (ce_int)) (ce_v 1))))) :
      PSs _ _ (Ts _ _ _ b_d_law_draw))
noncomputable def b_d_law_is_integer : MS := sRet (eAnd (e1 (dIsi "int") (eV 0)) (eNot (e1 (dIsi "bool") (eV 0))))
noncomputable def m_d_law_is_integer : List D → Store → R D := fnM 1 1 b_d_law_is_integer
theorem ok_d_law_is_integer (X : Fx K mg) : FnOk P w K mg base (L2.CX P w) 1 X.a_d_law_is_integer X.d_d_law_is_integer ["told"] (spM K mg 1 m_d_law_is_integer) :=
  okM (k := 0) X.F_d_law_is_integer sc_d_law_is_integer rfl fun cdv A outer s H E hr tk =>
    (css_one (cs_ret (ce_and (ce_isi (T := "int") (by rfl) X.b_isinstance (by rfl) X.b_int (by decide +kernel) (ce_v 0)) (ce_one (ce_not (ce_isi (T := "bool") (by rfl) X.b_isinstance (by rfl) X.b_bool (by decide +kernel) (ce_v 0)))))) :
      PSs _ _ (Ts _ _ _ b_d_law_is_integer))
noncomputable def b_d_law_year_words : MS := sSeq (sIf (tV (e2 dGe (eV 0) (eC (.int 1)))) (sRet (eLst (aCons (eFn dStr (aCons (eV 0) (aNil))) (aCons (eC (.str "AD")) (aNil))))) (sNil))
  (sRet (eLst (aCons (eFn dStr (aCons (e2 dSub (eC (.int 1)) (eV 0)) (aNil))) (aCons (eC (.str "BC")) (aNil)))))
noncomputable def m_d_law_year_words : List D → Store → R D := fnM 1 1 b_d_law_year_words
theorem ok_d_law_year_words (X : Fx K mg) : FnOk P w K mg base (L2.CX P w) 1 X.a_d_law_year_words X.d_d_law_year_words ["year"] (spM K mg 1 m_d_law_year_words) :=
  okM (k := 0) X.F_d_law_year_words sc_d_law_year_words rfl fun cdv A outer s H E hr tk =>
    (css_cons (cs_if (ct_cmp opA_ge ops_ge (ce_v 0) (ce_int) (nomark _)) (css_one (cs_ret (ce_lst (ca_cons (ce_callTy call_strA fns_str (by rfl) X.b_str (by decide +kernel) (ca_cons (ce_v 0) (ca_nil))) (ca_cons (ce_str) (ca_nil)))))) (css_nil))
    (css_one (cs_ret (ce_lst (ca_cons (ce_callTy call_strA fns_str (by rfl) X.b_str (by decide +kernel) (ca_cons (ce_op op_sub ops_sub (ce_int) (ce_v 0)) (ca_nil))) (ca_cons (ce_str) (ca_nil)))))) :
      PSs _ _ (Ts _ _ _ b_d_law_year_words))
noncomputable def bl_d_law_year_due_1 : MS := sIf (tV (e2 dNotIn (eV 2) (eC (.str "0123456789")))) (sRet (eLst (aCons (eC (.int 1)) (aCons (eC (.str "number")) (aNil))))) (sNil)
noncomputable def b_d_law_year_due : MS := sSeq (sIf (tOr (tV (e2 dGt (eFn dLen (aCons (eV 0) (aNil))) (eC (.int 9)))) (tV (e2 dEq (e2 dIx (eV 0) (eC (.int 0))) (eC (.str "0"))))) (sRet (eLst (aCons (eC (.int 1)) (aCons (eC (.str "number")) (aNil))))) (sNil))
  (sSeq (sFor (iSeq (eV 0)) (gN 2) (bl_d_law_year_due_1))
  (sSeq (sIf (tAnd (tV (e2 dNe (eV 1) (eC (.str "AD")))) (tV (e2 dNe (eV 1) (eC (.str "BC"))))) (sRet (eLst (aCons (eC (.int 1)) (aCons (eC (.str "sign")) (aNil))))) (sNil))
  (sSeq (sSet 3 (eFn dIntZ (aCons (eV 0) (aNil))))
  (sSeq (sIf (tV (e2 dEq (eV 1) (eC (.str "BC")))) (sSet 3 (e2 dSub (eC (.int 1)) (eV 3))) (sNil))
  (sSeq (sIf (tOr (tV (e2 dLt (eV 3) (e1 dNeg (eC (.int 9999))))) (tV (e2 dGt (eV 3) (eC (.int 9999))))) (sRet (eLst (aCons (eC (.int 1)) (aCons (eC (.str "limit")) (aNil))))) (sNil))
  (sRet (eLst (aCons (eC (.int 0)) (aCons (eV 3) (aNil))))))))))
noncomputable def m_d_law_year_due : List D → Store → R D := fnM 4 2 b_d_law_year_due
theorem ok_d_law_year_due (X : Fx K mg) : FnOk P w K mg base (L2.CX P w) 1 X.a_d_law_year_due X.d_d_law_year_due ["number", "sign"] (spM K mg 2 m_d_law_year_due) :=
  okM (k := 0) X.F_d_law_year_due sc_d_law_year_due rfl fun cdv A outer s H E hr tk =>
    (css_cons (cs_if (PW.pt (cw_or (ct_cmp opA_gt ops_gt (ce_callB call_len fns_len (by rfl) X.b_len (by decide +kernel) (ca_cons (ce_v 0) (ca_nil))) (ce_int) (nomark _)) (cw_or1 (ct_cmp (opA_eq hr.units) ops_eq (ce_ix ix_seq ops_ix (ce_v 0) (ce_int) (fun _ _ => rfl)) (ce_str) (nomark _))))) (css_one (cs_ret (ce_lst (ca_cons (ce_int) (ca_cons (ce_str) (ca_nil)))))) (css_nil))
    (css_cons (cs_for (passes_of rfl) rfl (ci_seq (ce_v 0)) (cg_name (i := 2) sc_d_law_year_due.nd rfl (by first | exact Or.inl rfl | exact Or.inr rfl)) (css_one (cs_if (ct_cmp (opA_notin (un65 hr)) ops_notin (ce_v 2) (ce_str) (by with_unfolding_all rfl)) (css_one (cs_ret (ce_lst (ca_cons (ce_int) (ca_cons (ce_str) (ca_nil)))))) (css_nil))))
    (css_cons (cs_if (PW.pt (cw_and (ct_cmp (opA_ne hr.units) ops_ne (ce_v 1) (ce_str) (nomark _)) (cw_and1 (ct_cmp (opA_ne hr.units) ops_ne (ce_v 1) (ce_str) (nomark _))))) (css_one (cs_ret (ce_lst (ca_cons (ce_int) (ca_cons (ce_str) (ca_nil)))))) (css_nil))
    (css_cons (cs_set (j := 3) sc_d_law_year_due.nd rfl (Or.inl rfl) (ce_callTy call_intZ fns_intZ (by rfl) X.b_int (by decide +kernel) (ca_cons (ce_v 0) (ca_nil))))
    (css_cons (cs_if (ct_cmp (opA_eq hr.units) ops_eq (ce_v 1) (ce_str) (nomark _)) (css_one (cs_set (j := 3) sc_d_law_year_due.nd rfl (Or.inl rfl) (ce_op op_sub ops_sub (ce_int) (ce_v 3)))) (css_nil))
    (css_cons (cs_if (PW.pt (cw_or (ct_cmp opA_lt ops_lt (ce_v 3) (ce_un un_neg uns_neg (ce_int)) (nomark _)) (cw_or1 (ct_cmp opA_gt ops_gt (ce_v 3) (ce_int) (nomark _))))) (css_one (cs_ret (ce_lst (ca_cons (ce_int) (ca_cons (ce_str) (ca_nil)))))) (css_nil))
    (css_one (cs_ret (ce_lst (ca_cons (ce_int) (ca_cons (ce_v 3) (ca_nil))))))))))) :
      PSs _ _ (Ts _ _ _ b_d_law_year_due))
noncomputable def b_year_from : MS := sSeq (sSet 1 (eCall m_written_integer (aCons (e2 dIx (eV 0) (eC (.int 0))) (aNil))))
  (sSeq (sIf (tOr (tV (e2 dIs (eV 1) (eC .non))) (tV (e2 dLt (eV 1) (eC (.int 1))))) (sRet (eTup (aCons (eC .non) (aCons (eC (.str "number")) (aNil))))) (sNil))
  (sSeq (sIf (tAnd (tV (e2 dNe (e2 dIx (eV 0) (eC (.int 1))) (eC (.str "AD")))) (tV (e2 dNe (e2 dIx (eV 0) (eC (.int 1))) (eC (.str "BC"))))) (sRet (eTup (aCons (eC .non) (aCons (eC (.str "sign")) (aNil))))) (sNil))
  (sSeq (sSet 2 (eV 1))
  (sSeq (sIf (tV (e2 dEq (e2 dIx (eV 0) (eC (.int 1))) (eC (.str "BC")))) (sSet 2 (e2 dSub (eC (.int 1)) (eV 1))) (sNil))
  (sSeq (sIf (tOr (tV (e2 dLt (eV 2) (eC (.int (-9999))))) (tV (e2 dGt (eV 2) (eC (.int 9999))))) (sRet (eTup (aCons (eC .non) (aCons (eC (.str "limit")) (aNil))))) (sNil))
  (sRet (eTup (aCons (eV 2) (aCons (eC .non) (aNil))))))))))
noncomputable def m_year_from : List D → Store → R D := fnM 3 1 b_year_from
theorem ok_year_from (X : Fx K mg) : FnOk P w K mg base (L2.CX P w) 2 X.a_year_from X.d_year_from ["words"] (spM K mg 1 m_year_from) :=
  okM (k := 1) X.F_year_from sc_year_from rfl fun cdv A outer s H E hr tk =>
    (css_cons (cs_set (j := 1) sc_year_from.nd rfl (Or.inl rfl) (ce_call (n := 1) (ok_written_integer X) (hr.mono (by decide)) tk (by rfl) X.g_written_integer X.F_written_integer.kp (bd_written_integer X) (an_cons an_nil) (ca_cons (ce_ix ix_seq ops_ix (ce_v 0) (ce_int) (fun _ _ => rfl)) (ca_nil))))
    (css_cons (cs_if (PW.pt (cw_or (ct_cmp opA_is ops_is (ce_v 1) (ce_non) (nomark _)) (cw_or1 (ct_cmp opA_lt ops_lt (ce_v 1) (ce_int) (nomark _))))) (css_one (cs_ret (ce_tup (ca_cons (ce_non) (ca_cons (ce_str) (ca_nil)))))) (css_nil))
    (css_cons (cs_if (PW.pt (cw_and (ct_cmp (opA_ne hr.units) ops_ne (ce_ix ix_seq ops_ix (ce_v 0) (ce_int) (fun _ _ => rfl)) (ce_str) (nomark _)) (cw_and1 (ct_cmp (opA_ne hr.units) ops_ne (ce_ix ix_seq ops_ix (ce_v 0) (ce_int) (fun _ _ => rfl)) (ce_str) (nomark _))))) (css_one (cs_ret (ce_tup (ca_cons (ce_non) (ca_cons (ce_str) (ca_nil)))))) (css_nil))
    (css_cons (cs_set (j := 2) sc_year_from.nd rfl (Or.inl rfl) (ce_v 1))
    (css_cons (cs_if (ct_cmp (opA_eq hr.units) ops_eq (ce_ix ix_seq ops_ix (ce_v 0) (ce_int) (fun _ _ => rfl)) (ce_str) (nomark _)) (css_one (cs_set (j := 2) sc_year_from.nd rfl (Or.inl rfl) (ce_op op_sub ops_sub (ce_int) (ce_v 1)))) (css_nil))
    (css_cons (cs_if (PW.pt (cw_or (ct_cmp opA_lt ops_lt (ce_v 2) (ce_globI (by rfl) X.k_YEAR_LEAST) (nomark _)) (cw_or1 (ct_cmp opA_gt ops_gt (ce_v 2) (ce_globI (by rfl) X.k_YEAR_MOST) (nomark _))))) (css_one (cs_ret (ce_tup (ca_cons (ce_non) (ca_cons (ce_str) (ca_nil)))))) (css_nil))
    (css_one (cs_ret (ce_tup (ca_cons (ce_v 2) (ca_cons (ce_non) (ca_nil))))))))))) :
      PSs _ _ (Ts _ _ _ b_year_from))
noncomputable def b_stretch_text : MS := sSeq (sIf (tV (e2 dEq (eV 0) (eV 1))) (sRet (eCall m_year_text (aCons (eV 0) (aNil)))) (sNil))
  (sRet (eFs [eFmt (eCall m_year_text (aCons (eV 0) (aNil))), eC (.str " to "), eFmt (eCall m_year_text (aCons (eV 1) (aNil)))]))
noncomputable def m_stretch_text : List D → Store → R D := fnM 2 2 b_stretch_text
theorem ok_stretch_text (X : Fx K mg) : FnOk P w K mg base (L2.CX P w) 2 X.a_stretch_text X.d_stretch_text ["low", "high"] (spM K mg 2 m_stretch_text) :=
  okM (k := 1) X.F_stretch_text sc_stretch_text rfl fun cdv A outer s H E hr tk =>
    (css_cons (cs_if (ct_cmp (opA_eq hr.units) ops_eq (ce_v 0) (ce_v 1) (nomark _)) (css_one (cs_ret (ce_call (n := 1) (ok_year_text X) (hr.mono (by decide)) tk (by rfl) X.g_year_text X.F_year_text.kp (bd_year_text X) (an_cons an_nil) (ca_cons (ce_v 0) (ca_nil))))) (css_nil))
    (css_one (cs_ret (ce_fs (.cons (ce_fmt (ce_call (n := 1) (ok_year_text X) (hr.mono (by decide)) tk (by rfl) X.g_year_text X.F_year_text.kp (bd_year_text X) (an_cons an_nil) (ca_cons (ce_v 0) (ca_nil)))) (.cons (ce_str) (.cons (ce_fmt (ce_call (n := 1) (ok_year_text X) (hr.mono (by decide)) tk (by rfl) X.g_year_text X.F_year_text.kp (bd_year_text X) (an_cons an_nil) (ca_cons (ce_v 1) (ca_nil)))) (PJs.nil))))))) :
      PSs _ _ (Ts _ _ _ b_stretch_text))
noncomputable def b_d_law_often_end : MS := sSeq (sSet 2 (eCall m_d_law_draw (aCons (eV 0) (aCons (eC (.int 6)) (aNil)))))
  (sSeq (sIf (tV (e2 dEq (eV 2) (eC (.int 0)))) (sRet (eC (.int 0))) (sNil))
  (sSeq (sIf (tV (e2 dEq (eV 2) (eC (.int 1)))) (sRet (e2 dSub (eV 1) (eC (.int 1)))) (sNil))
  (sRet (eCall m_d_law_draw (aCons (eV 0) (aCons (eV 1) (aNil)))))))
noncomputable def m_d_law_often_end : List D → Store → R D := fnM 3 2 b_d_law_often_end
theorem ok_d_law_often_end (X : Fx K mg) : FnOk P w K mg base (L2.CX P w) 2 X.a_d_law_often_end X.d_d_law_often_end ["pool", "many"] (spM K mg 2 m_d_law_often_end) :=
  okM (k := 1) X.F_d_law_often_end sc_d_law_often_end rfl fun cdv A outer s H E hr tk =>
    (css_cons (cs_set (j := 2) sc_d_law_often_end.nd rfl (Or.inl rfl) (ce_call (n := 2) (ok_d_law_draw X) (hr.mono (by decide)) tk (by rfl) X.g_d_law_draw X.F_d_law_draw.kp (bd_d_law_draw X) (an_cons (an_cons an_nil)) (ca_cons (ce_v 0) (ca_cons (ce_int) (ca_nil)))))
    (css_cons (cs_if (ct_cmp (opA_eq hr.units) ops_eq (ce_v 2) (ce_int) (nomark _)) (css_one (cs_ret (ce_int))) (css_nil))
    (css_cons (cs_if (ct_cmp (opA_eq hr.units) ops_eq (ce_v 2) (ce_int) (nomark _)) (css_one (cs_ret (ce_op op_sub ops_sub (ce_v 1) (ce_int)))) (css_nil))
    (css_one (cs_ret (ce_call (n := 2) (ok_d_law_draw X) (hr.mono (by decide)) tk (by rfl) X.g_d_law_draw X.F_d_law_draw.kp (bd_d_law_draw X) (an_cons (an_cons an_nil)) (ca_cons (ce_v 0) (ca_cons (ce_v 1) (ca_nil)))))))) :
      PSs _ _ (Ts _ _ _ b_d_law_often_end))
noncomputable def bl_d_law_same_1 : MS := sSeq (sSet 3 (e2 dIx (eV 0) (eV 2)))
  (sSeq (sIf (tOr (tNot (tTru (e1 (dIsi "tuple") (eV 3)))) (tV (e2 dNe (eFn dLen (aCons (eV 3) (aNil))) (eC (.int 2))))) (sRet (eC (.bl false))) (sNil))
  (sSeq (sIf (tOr (tNot (tTru (eCall m_d_law_is_integer (aCons (e2 dIx (eV 3) (eC (.int 0))) (aNil))))) (tNot (tTru (eCall m_d_law_is_integer (aCons (e2 dIx (eV 3) (eC (.int 1))) (aNil)))))) (sRet (eC (.bl false))) (sNil))
  (sIf (tOr (tV (e2 dNe (e2 dIx (eV 3) (eC (.int 0))) (e2 dIx (e2 dIx (eV 1) (eV 2)) (eC (.int 0))))) (tV (e2 dNe (e2 dIx (eV 3) (eC (.int 1))) (e2 dIx (e2 dIx (eV 1) (eV 2)) (eC (.int 1)))))) (sRet (eC (.bl false))) (sNil))))
noncomputable def b_d_law_same : MS := sSeq (sIf (tOr (tNot (tTru (e1 (dIsi "tuple") (eV 0)))) (tV (e2 dNe (eFn dLen (aCons (eV 0) (aNil))) (eFn dLen (aCons (eV 1) (aNil)))))) (sRet (eC (.bl false))) (sNil))
  (sSeq (sFor (iRange1 (aCons (eFn dLen (aCons (eV 1) (aNil))) (aNil))) (gN 2) (bl_d_law_same_1))
  (sRet (eC (.bl true))))
noncomputable def m_d_law_same : List D → Store → R D := fnM 4 2 b_d_law_same
theorem ok_d_law_same (X : Fx K mg) : FnOk P w K mg base (L2.CX P w) 2 X.a_d_law_same X.d_d_law_same ["told", "due"] (spM K mg 2 m_d_law_same) :=
  okM (k := 1) X.F_d_law_same sc_d_law_same rfl fun cdv A outer s H E hr tk =>
    (css_cons (cs_if (PW.pt (cw_or (ct_not (ct_tru (ce_isi (T := "tuple") (by rfl) X.b_isinstance (by rfl) X.b_tuple (by decide +kernel) (ce_v 0)))) (cw_or1 (ct_cmp (opA_ne hr.units) ops_ne (ce_callB call_len fns_len (by rfl) X.b_len (by decide +kernel) (ca_cons (ce_v 0) (ca_nil))) (ce_callB call_len fns_len (by rfl) X.b_len (by decide +kernel) (ca_cons (ce_v 1) (ca_nil))) (nomark _))))) (css_one (cs_ret (ce_bl))) (css_nil))
    (css_cons (cs_for (passes_of rfl) rfl (ci_range1 (by rfl) X.b_range (ca_cons (ce_callB call_len fns_len (by rfl) X.b_len (by decide +kernel) (ca_cons (ce_v 1) (ca_nil))) (ca_nil))) (cg_name (i := 2) sc_d_law_same.nd rfl (by first | exact Or.inl rfl | exact Or.inr rfl)) (css_cons (cs_set (j := 3) sc_d_law_same.nd rfl (Or.inl rfl) (ce_ix ix_seq ops_ix (ce_v 0) (ce_v 2) (fun _ _ => rfl)))
    (css_cons (cs_if (PW.pt (cw_or (ct_not (ct_tru (ce_isi (T := "tuple") (by rfl) X.b_isinstance (by rfl) X.b_tuple (by decide +kernel) (ce_v 3)))) (cw_or1 (ct_cmp (opA_ne hr.units) ops_ne (ce_callB call_len fns_len (by rfl) X.b_len (by decide +kernel) (ca_cons (ce_v 3) (ca_nil))) (ce_int) (nomark _))))) (css_one (cs_ret (ce_bl))) (css_nil))
    (css_cons (cs_if (PW.pt (cw_or (ct_not (ct_tru (ce_call (n := 1) (ok_d_law_is_integer X) (hr.mono (by decide)) tk (by rfl) X.g_d_law_is_integer X.F_d_law_is_integer.kp (bd_d_law_is_integer X) (an_cons an_nil) (ca_cons (ce_ix ix_seq ops_ix (ce_v 3) (ce_int) (fun _ _ => rfl)) (ca_nil))))) (cw_or1 (ct_not (ct_tru (ce_call (n := 1) (ok_d_law_is_integer X) (hr.mono (by decide)) tk (by rfl) X.g_d_law_is_integer X.F_d_law_is_integer.kp (bd_d_law_is_integer X) (an_cons an_nil) (ca_cons (ce_ix ix_seq ops_ix (ce_v 3) (ce_int) (fun _ _ => rfl)) (ca_nil)))))))) (css_one (cs_ret (ce_bl))) (css_nil))
    (css_one (cs_if (PW.pt (cw_or (ct_cmp (opA_ne hr.units) ops_ne (ce_ix ix_seq ops_ix (ce_v 3) (ce_int) (fun _ _ => rfl)) (ce_ix ix_seq ops_ix (ce_ix ix_seq ops_ix (ce_v 1) (ce_v 2) (fun _ _ => rfl)) (ce_int) (fun _ _ => rfl)) (nomark _)) (cw_or1 (ct_cmp (opA_ne hr.units) ops_ne (ce_ix ix_seq ops_ix (ce_v 3) (ce_int) (fun _ _ => rfl)) (ce_ix ix_seq ops_ix (ce_ix ix_seq ops_ix (ce_v 1) (ce_v 2) (fun _ _ => rfl)) (ce_int) (fun _ _ => rfl)) (nomark _))))) (css_one (cs_ret (ce_bl))) (css_nil)))))))
    (css_one (cs_ret (ce_bl)))) :
      PSs _ _ (Ts _ _ _ b_d_law_same))
noncomputable def b_d_law_stretch_words : MS := sSeq (sSet 2 (eCall m_d_law_year_words (aCons (e2 dIx (eV 1) (eC (.int 0))) (aNil))))
  (sSeq (sIf (tOr (tV (e2 dNe (e2 dIx (eV 1) (eC (.int 0))) (e2 dIx (eV 1) (eC (.int 1))))) (tV (e2 dEq (eCall m_d_law_draw (aCons (eV 0) (aCons (eC (.int 3)) (aNil)))) (eC (.int 0))))) (sSet 2 (e2 dAdd (e2 dAdd (eV 2) (eLst (aCons (eC (.str "to")) (aNil)))) (eCall m_d_law_year_words (aCons (e2 dIx (eV 1) (eC (.int 1))) (aNil))))) (sNil))
  (sRet (eV 2)))
noncomputable def m_d_law_stretch_words : List D → Store → R D := fnM 3 2 b_d_law_stretch_words
theorem ok_d_law_stretch_words (X : Fx K mg) : FnOk P w K mg base (L2.CX P w) 2 X.a_d_law_stretch_words X.d_d_law_stretch_words ["pool", "pair"] (spM K mg 2 m_d_law_stretch_words) :=
  okM (k := 1) X.F_d_law_stretch_words sc_d_law_stretch_words rfl fun cdv A outer s H E hr tk =>
    (css_cons (cs_set (j := 2) sc_d_law_stretch_words.nd rfl (Or.inl rfl) (ce_call (n := 1) (ok_d_law_year_words X) (hr.mono (by decide)) tk (by rfl) X.g_d_law_year_words X.F_d_law_year_words.kp (bd_d_law_year_words X) (an_cons an_nil) (ca_cons (ce_ix ix_seq ops_ix (ce_v 1) (ce_int) (fun _ _ => rfl)) (ca_nil))))
    (css_cons (cs_if (PW.pt (cw_or (ct_cmp (opA_ne hr.units) ops_ne (ce_ix ix_seq ops_ix (ce_v 1) (ce_int) (fun _ _ => rfl)) (ce_ix ix_seq ops_ix (ce_v 1) (ce_int) (fun _ _ => rfl)) (nomark _)) (cw_or1 (ct_cmp (opA_eq hr.units) ops_eq (ce_call (n := 2) (ok_d_law_draw X) (hr.mono (by decide)) tk (by rfl) X.g_d_law_draw X.F_d_law_draw.kp (bd_d_law_draw X) (an_cons (an_cons an_nil)) (ca_cons (ce_v 0) (ca_cons (ce_int) (ca_nil)))) (ce_int) (nomark _))))) (css_one (cs_set (j := 2) sc_d_law_stretch_words.nd rfl (Or.inl rfl) (ce_op op_addA ops_add (ce_op op_addA ops_add (ce_v 2) (ce_lst (ca_cons (ce_str) (ca_nil)))) (ce_call (n := 1) (ok_d_law_year_words X) (hr.mono (by decide)) tk (by rfl) X.g_d_law_year_words X.F_d_law_year_words.kp (bd_d_law_year_words X) (an_cons an_nil) (ca_cons (ce_ix ix_seq ops_ix (ce_v 1) (ce_int) (fun _ _ => rfl)) (ca_nil)))))) (css_nil))
    (css_one (cs_ret (ce_v 2)))) :
      PSs _ _ (Ts _ _ _ b_d_law_stretch_words))
noncomputable def bl_d_law_text_1 : MS := sSeq (sSet 3 (eM1 dJoin (eC (.str " ")) (eCall m_d_law_year_words (aCons (e2 dIx (eV 2) (eC (.int 0))) (aNil)))))
  (sSeq (sIf (tV (e2 dNe (e2 dIx (eV 2) (eC (.int 0))) (e2 dIx (eV 2) (eC (.int 1))))) (sSet 3 (e2 dAdd (e2 dAdd (eV 3) (eC (.str " to "))) (eM1 dJoin (eC (.str " ")) (eCall m_d_law_year_words (aCons (e2 dIx (eV 2) (eC (.int 1))) (aNil)))))) (sNil))
  (sExpr (eMt "list" dAppend (eV 1) (aCons (eV 3) (aNil)))))
noncomputable def b_d_law_text : MS := sSeq (sIf (tV (e2 dEq (eFn dLen (aCons (eV 0) (aNil))) (eC (.int 0)))) (sRet (eC (.str "never"))) (sNil))
  (sSeq (sSet 1 (eLst (aNil)))
  (sSeq (sFor (iSeq (eV 0)) (gN 2) (bl_d_law_text_1))
  (sRet (eM1 dJoin (eC (.str " or ")) (eV 1)))))
noncomputable def m_d_law_text : List D → Store → R D := fnM 4 1 b_d_law_text
theorem ok_d_law_text (X : Fx K mg) : FnOk P w K mg base (L2.CX P w) 2 X.a_d_law_text X.d_d_law_text ["dates"] (spM K mg 1 m_d_law_text) :=
  okM (k := 1) X.F_d_law_text sc_d_law_text rfl fun cdv A outer s H E hr tk =>
    (css_cons (cs_if (ct_cmp (opA_eq hr.units) ops_eq (ce_callB call_len fns_len (by rfl) X.b_len (by decide +kernel) (ca_cons (ce_v 0) (ca_nil))) (ce_int) (nomark _)) (css_one (cs_ret (ce_str))) (css_nil))
    (css_cons (cs_set (j := 1) sc_d_law_text.nd rfl (Or.inl rfl) (ce_lst (ca_nil)))
    (css_cons (cs_for (passes_of rfl) rfl (ci_seq (ce_v 0)) (cg_name (i := 2) sc_d_law_text.nd rfl (by first | exact Or.inl rfl | exact Or.inr rfl)) (css_cons (cs_set (j := 3) sc_d_law_text.nd rfl (Or.inl rfl) (ce_m1 PySem.F.slot_str_join PySem.F.type_str_join mt_join mts_join (ce_str) (ce_call (n := 1) (ok_d_law_year_words X) (hr.mono (by decide)) tk (by rfl) X.g_d_law_year_words X.F_d_law_year_words.kp (bd_d_law_year_words X) (an_cons an_nil) (ca_cons (ce_ix ix_seq ops_ix (ce_v 2) (ce_int) (fun _ _ => rfl)) (ca_nil)))))
    (css_cons (cs_if (ct_cmp (opA_ne hr.units) ops_ne (ce_ix ix_seq ops_ix (ce_v 2) (ce_int) (fun _ _ => rfl)) (ce_ix ix_seq ops_ix (ce_v 2) (ce_int) (fun _ _ => rfl)) (nomark _)) (css_one (cs_set (j := 3) sc_d_law_text.nd rfl (Or.inl rfl) (ce_op op_addA ops_add (ce_op op_addA ops_add (ce_v 3) (ce_str)) (ce_m1 PySem.F.slot_str_join PySem.F.type_str_join mt_join mts_join (ce_str) (ce_call (n := 1) (ok_d_law_year_words X) (hr.mono (by decide)) tk (by rfl) X.g_d_law_year_words X.F_d_law_year_words.kp (bd_d_law_year_words X) (an_cons an_nil) (ca_cons (ce_ix ix_seq ops_ix (ce_v 2) (ce_int) (fun _ _ => rfl)) (ca_nil))))))) (css_nil))
    (css_one (cs_expr (ce_bm PySem.F.plainAttrs_list PySem.F.slot_list_append PySem.F.type_list_append mt_append mts_append (ce_v 1) (ca_cons (ce_v 3) (ca_nil))))))))
    (css_one (cs_ret (ce_m1 PySem.F.slot_str_join PySem.F.type_str_join mt_join mts_join (ce_str) (ce_v 1)))))) :
      PSs _ _ (Ts _ _ _ b_d_law_text))
noncomputable def bl_d_law_line_1 : MS := sSeq (sIf (tV (e2 dGt (eV 6) (eC (.int 0)))) (sSet 4 (e2 dAdd (eV 4) (e2 dIx (eV 2) (eCall m_d_law_draw (aCons (eV 0) (aCons (eV 3) (aNil))))))) (sNil))
  (sSet 4 (e2 dAdd (eV 4) (e2 dIx (e2 dIx (eV 1) (eV 5)) (eV 6))))
noncomputable def bl_d_law_line_2 : MS := sSeq (sIf (tV (e2 dGt (eV 5) (eC (.int 0)))) (sSet 4 (e2 dAdd (e2 dAdd (e2 dAdd (eV 4) (e2 dIx (eV 2) (eCall m_d_law_draw (aCons (eV 0) (aCons (eV 3) (aNil)))))) (eC (.str "or"))) (e2 dIx (eV 2) (eCall m_d_law_draw (aCons (eV 0) (aCons (eV 3) (aNil))))))) (sNil))
  (sFor (iRange1 (aCons (eFn dLen (aCons (e2 dIx (eV 1) (eV 5)) (aNil))) (aNil))) (gN 6) (bl_d_law_line_1))
noncomputable def b_d_law_line : MS := sSeq (sSet 2 (eLst (aCons (eC (.str " ")) (aCons (eC (.str "  ")) (aCons (eC (.str "    ")) (aNil))))))
  (sSeq (sSet 3 (e2 dIx (eLst (aCons (eC (.int 1)) (aCons (eC (.int 1)) (aCons (eC (.int 3)) (aNil))))) (eCall m_d_law_draw (aCons (eV 0) (aCons (eC (.int 3)) (aNil))))))
  (sSeq (sSet 4 (e2 dIx (eLst (aCons (eC (.str "")) (aCons (eC (.str " ")) (aCons (eC (.str "   ")) (aNil))))) (eCall m_d_law_draw (aCons (eV 0) (aCons (eV 3) (aNil))))))
  (sSeq (sFor (iRange1 (aCons (eFn dLen (aCons (eV 1) (aNil))) (aNil))) (gN 5) (bl_d_law_line_2))
  (sRet (e2 dAdd (eV 4) (e2 dIx (eLst (aCons (eC (.str "")) (aCons (eC (.str "  ")) (aCons (eC (.str " ")) (aNil))))) (eCall m_d_law_draw (aCons (eV 0) (aCons (eV 3) (aNil))))))))))
noncomputable def m_d_law_line : List D → Store → R D := fnM 7 2 b_d_law_line
theorem ok_d_law_line (X : Fx K mg) : FnOk P w K mg base (L2.CX P w) 2 X.a_d_law_line X.d_d_law_line ["pool", "rows"] (spM K mg 2 m_d_law_line) :=
  okM (k := 1) X.F_d_law_line sc_d_law_line rfl fun cdv A outer s H E hr tk =>
    (css_cons (cs_set (j := 2) sc_d_law_line.nd rfl (Or.inl rfl) (ce_lst (ca_cons (ce_str) (ca_cons (ce_str) (ca_cons (ce_str) (ca_nil))))))
    (css_cons (cs_set (j := 3) sc_d_law_line.nd rfl (Or.inl rfl) (ce_ix ix_seq ops_ix (ce_lst (ca_cons (ce_int) (ca_cons (ce_int) (ca_cons (ce_int) (ca_nil))))) (ce_call (n := 2) (ok_d_law_draw X) (hr.mono (by decide)) tk (by rfl) X.g_d_law_draw X.F_d_law_draw.kp (bd_d_law_draw X) (an_cons (an_cons an_nil)) (ca_cons (ce_v 0) (ca_cons (ce_int) (ca_nil)))) (fun _ _ => rfl)))
    (css_cons (cs_set (j := 4) sc_d_law_line.nd rfl (Or.inl rfl) (ce_ix ix_seq ops_ix (ce_lst (ca_cons (ce_str) (ca_cons (ce_str) (ca_cons (ce_str) (ca_nil))))) (ce_call (n := 2) (ok_d_law_draw X) (hr.mono (by decide)) tk (by rfl) X.g_d_law_draw X.F_d_law_draw.kp (bd_d_law_draw X) (an_cons (an_cons an_nil)) (ca_cons (ce_v 0) (ca_cons (ce_v 3) (ca_nil)))) (fun _ _ => rfl)))
    (css_cons (cs_for (passes_of rfl) rfl (ci_range1 (by rfl) X.b_range (ca_cons (ce_callB call_len fns_len (by rfl) X.b_len (by decide +kernel) (ca_cons (ce_v 1) (ca_nil))) (ca_nil))) (cg_name (i := 5) sc_d_law_line.nd rfl (by first | exact Or.inl rfl | exact Or.inr rfl)) (css_cons (cs_if (ct_cmp opA_gt ops_gt (ce_v 5) (ce_int) (nomark _)) (css_one (cs_set (j := 4) sc_d_law_line.nd rfl (Or.inl rfl) (ce_op op_addA ops_add (ce_op op_addA ops_add (ce_op op_addA ops_add (ce_v 4) (ce_ix ix_seq ops_ix (ce_v 2) (ce_call (n := 2) (ok_d_law_draw X) (hr.mono (by decide)) tk (by rfl) X.g_d_law_draw X.F_d_law_draw.kp (bd_d_law_draw X) (an_cons (an_cons an_nil)) (ca_cons (ce_v 0) (ca_cons (ce_v 3) (ca_nil)))) (fun _ _ => rfl))) (ce_str)) (ce_ix ix_seq ops_ix (ce_v 2) (ce_call (n := 2) (ok_d_law_draw X) (hr.mono (by decide)) tk (by rfl) X.g_d_law_draw X.F_d_law_draw.kp (bd_d_law_draw X) (an_cons (an_cons an_nil)) (ca_cons (ce_v 0) (ca_cons (ce_v 3) (ca_nil)))) (fun _ _ => rfl))))) (css_nil))
    (css_one (cs_for (passes_of rfl) rfl (ci_range1 (by rfl) X.b_range (ca_cons (ce_callB call_len fns_len (by rfl) X.b_len (by decide +kernel) (ca_cons (ce_ix ix_seq ops_ix (ce_v 1) (ce_v 5) (fun _ _ => rfl)) (ca_nil))) (ca_nil))) (cg_name (i := 6) sc_d_law_line.nd rfl (by first | exact Or.inl rfl | exact Or.inr rfl)) (css_cons (cs_if (ct_cmp opA_gt ops_gt (ce_v 6) (ce_int) (nomark _)) (css_one (cs_set (j := 4) sc_d_law_line.nd rfl (Or.inl rfl) (ce_op op_addA ops_add (ce_v 4) (ce_ix ix_seq ops_ix (ce_v 2) (ce_call (n := 2) (ok_d_law_draw X) (hr.mono (by decide)) tk (by rfl) X.g_d_law_draw X.F_d_law_draw.kp (bd_d_law_draw X) (an_cons (an_cons an_nil)) (ca_cons (ce_v 0) (ca_cons (ce_v 3) (ca_nil)))) (fun _ _ => rfl))))) (css_nil))
    (css_one (cs_set (j := 4) sc_d_law_line.nd rfl (Or.inl rfl) (ce_op op_addA ops_add (ce_v 4) (ce_ix ix_seq ops_ix (ce_ix ix_seq ops_ix (ce_v 1) (ce_v 5) (fun _ _ => rfl)) (ce_v 6) (fun _ _ => rfl))))))))))
    (css_one (cs_ret (ce_op op_addA ops_add (ce_v 4) (ce_ix ix_seq ops_ix (ce_lst (ca_cons (ce_str) (ca_cons (ce_str) (ca_cons (ce_str) (ca_nil))))) (ce_call (n := 2) (ok_d_law_draw X) (hr.mono (by decide)) tk (by rfl) X.g_d_law_draw X.F_d_law_draw.kp (bd_d_law_draw X) (an_cons (an_cons an_nil)) (ca_cons (ce_v 0) (ca_cons (ce_v 3) (ca_nil)))) (fun _ _ => rfl)))))))) :
      PSs _ _ (Ts _ _ _ b_d_law_line))
noncomputable def b_d_law_stretch_due : MS := sSeq (sIf (tAnd (tV (e2 dNe (eFn dLen (aCons (eV 0) (aNil))) (eC (.int 2)))) (tOr (tV (e2 dNe (eFn dLen (aCons (eV 0) (aNil))) (eC (.int 5)))) (tV (e2 dNe (e2 dIx (eV 0) (eC (.int 2))) (eC (.str "to")))))) (sRet (eLst (aCons (eC (.int 1)) (aCons (eC (.str "words")) (aNil))))) (sNil))
  (sSeq (sSet 1 (eCall m_d_law_year_due (aCons (e2 dIx (eV 0) (eC (.int 0))) (aCons (e2 dIx (eV 0) (eC (.int 1))) (aNil)))))
  (sSeq (sIf (tOr (tV (e2 dEq (e2 dIx (eV 1) (eC (.int 0))) (eC (.int 1)))) (tV (e2 dEq (eFn dLen (aCons (eV 0) (aNil))) (eC (.int 2))))) (sRet (e2 dAdd (eV 1) (eLst (aCons (e2 dIx (eV 1) (eC (.int 1))) (aNil))))) (sNil))
  (sSeq (sSet 2 (eCall m_d_law_year_due (aCons (e2 dIx (eV 0) (eC (.int 3))) (aCons (e2 dIx (eV 0) (eC (.int 4))) (aNil)))))
  (sSeq (sIf (tV (e2 dEq (e2 dIx (eV 2) (eC (.int 0))) (eC (.int 1)))) (sRet (eV 2)) (sNil))
  (sSeq (sIf (tV (e2 dLt (e2 dIx (eV 2) (eC (.int 1))) (e2 dIx (eV 1) (eC (.int 1))))) (sRet (eLst (aCons (eC (.int 1)) (aCons (eC (.str "order")) (aNil))))) (sNil))
  (sRet (eLst (aCons (eC (.int 0)) (aCons (e2 dIx (eV 1) (eC (.int 1))) (aCons (e2 dIx (eV 2) (eC (.int 1))) (aNil)))))))))))
noncomputable def m_d_law_stretch_due : List D → Store → R D := fnM 3 1 b_d_law_stretch_due
theorem ok_d_law_stretch_due (X : Fx K mg) : FnOk P w K mg base (L2.CX P w) 2 X.a_d_law_stretch_due X.d_d_law_stretch_due ["words"] (spM K mg 1 m_d_law_stretch_due) :=
  okM (k := 1) X.F_d_law_stretch_due sc_d_law_stretch_due rfl fun cdv A outer s H E hr tk =>
    (css_cons (cs_if (PW.pt (cw_and (ct_cmp (opA_ne hr.units) ops_ne (ce_callB call_len fns_len (by rfl) X.b_len (by decide +kernel) (ca_cons (ce_v 0) (ca_nil))) (ce_int) (nomark _)) (cw_and1 (PW.pt (cw_or (ct_cmp (opA_ne hr.units) ops_ne (ce_callB call_len fns_len (by rfl) X.b_len (by decide +kernel) (ca_cons (ce_v 0) (ca_nil))) (ce_int) (nomark _)) (cw_or1 (ct_cmp (opA_ne hr.units) ops_ne (ce_ix ix_seq ops_ix (ce_v 0) (ce_int) (fun _ _ => rfl)) (ce_str) (nomark _)))))))) (css_one (cs_ret (ce_lst (ca_cons (ce_int) (ca_cons (ce_str) (ca_nil)))))) (css_nil))
    (css_cons (cs_set (j := 1) sc_d_law_stretch_due.nd rfl (Or.inl rfl) (ce_call (n := 2) (ok_d_law_year_due X) (hr.mono (by decide)) tk (by rfl) X.g_d_law_year_due X.F_d_law_year_due.kp (bd_d_law_year_due X) (an_cons (an_cons an_nil)) (ca_cons (ce_ix ix_seq ops_ix (ce_v 0) (ce_int) (fun _ _ => rfl)) (ca_cons (ce_ix ix_seq ops_ix (ce_v 0) (ce_int) (fun _ _ => rfl)) (ca_nil)))))
    (css_cons (cs_if (PW.pt (cw_or (ct_cmp (opA_eq hr.units) ops_eq (ce_ix ix_seq ops_ix (ce_v 1) (ce_int) (fun _ _ => rfl)) (ce_int) (nomark _)) (cw_or1 (ct_cmp (opA_eq hr.units) ops_eq (ce_callB call_len fns_len (by rfl) X.b_len (by decide +kernel) (ca_cons (ce_v 0) (ca_nil))) (ce_int) (nomark _))))) (css_one (cs_ret (ce_op op_addA ops_add (ce_v 1) (ce_lst (ca_cons (ce_ix ix_seq ops_ix (ce_v 1) (ce_int) (fun _ _ => rfl)) (ca_nil)))))) (css_nil))
    (css_cons (cs_set (j := 2) sc_d_law_stretch_due.nd rfl (Or.inl rfl) (ce_call (n := 2) (ok_d_law_year_due X) (hr.mono (by decide)) tk (by rfl) X.g_d_law_year_due X.F_d_law_year_due.kp (bd_d_law_year_due X) (an_cons (an_cons an_nil)) (ca_cons (ce_ix ix_seq ops_ix (ce_v 0) (ce_int) (fun _ _ => rfl)) (ca_cons (ce_ix ix_seq ops_ix (ce_v 0) (ce_int) (fun _ _ => rfl)) (ca_nil)))))
    (css_cons (cs_if (ct_cmp (opA_eq hr.units) ops_eq (ce_ix ix_seq ops_ix (ce_v 2) (ce_int) (fun _ _ => rfl)) (ce_int) (nomark _)) (css_one (cs_ret (ce_v 2))) (css_nil))
    (css_cons (cs_if (ct_cmp opA_lt ops_lt (ce_ix ix_seq ops_ix (ce_v 2) (ce_int) (fun _ _ => rfl)) (ce_ix ix_seq ops_ix (ce_v 1) (ce_int) (fun _ _ => rfl)) (nomark _)) (css_one (cs_ret (ce_lst (ca_cons (ce_int) (ca_cons (ce_str) (ca_nil)))))) (css_nil))
    (css_one (cs_ret (ce_lst (ca_cons (ce_int) (ca_cons (ce_ix ix_seq ops_ix (ce_v 1) (ce_int) (fun _ _ => rfl)) (ca_cons (ce_ix ix_seq ops_ix (ce_v 2) (ce_int) (fun _ _ => rfl)) (ca_nil)))))))))))) :
      PSs _ _ (Ts _ _ _ b_d_law_stretch_due))
noncomputable def b_d_law_wrong_word : MS := sSeq (sSet 2 (eLst (aCons (eC (.str "0")) (aCons (eC (.str "03")) (aCons (eC (.str "-1")) (aCons (eC (.str "+5")) (aCons (eC (.str "1_0")) (aCons (eC (.str "ad")) (aCons (eC (.str "bc")) (aCons (eC (.str "to")) (aCons (eC (.str "never")) (aCons (eC (.str "x")) (aCons (e2 dAdd (eV 1) (eC (.str "x"))) (aCons (e2 dAdd (eC (.str "0")) (eV 1)) (aCons (eC (.str "1234567890")) (aNil))))))))))))))))
  (sRet (e2 dIx (eV 2) (eCall m_d_law_draw (aCons (eV 0) (aCons (eFn dLen (aCons (eV 2) (aNil))) (aNil))))))
noncomputable def m_d_law_wrong_word : List D → Store → R D := fnM 3 2 b_d_law_wrong_word
theorem ok_d_law_wrong_word (X : Fx K mg) : FnOk P w K mg base (L2.CX P w) 2 X.a_d_law_wrong_word X.d_d_law_wrong_word ["pool", "word"] (spM K mg 2 m_d_law_wrong_word) :=
  okM (k := 1) X.F_d_law_wrong_word sc_d_law_wrong_word rfl fun cdv A outer s H E hr tk =>
    (css_cons (cs_set (j := 2) sc_d_law_wrong_word.nd rfl (Or.inl rfl) (ce_lst (ca_cons (ce_str) (ca_cons (ce_str) (ca_cons (ce_str) (ca_cons (ce_str) (ca_cons (ce_str) (ca_cons (ce_str) (ca_cons (ce_str) (ca_cons (ce_str) (ca_cons (ce_str) (ca_cons (ce_str) (ca_cons (ce_op op_addA ops_add (ce_v 1) (ce_str)) (ca_cons (ce_op op_addA ops_add (ce_str) (ce_v 1)) (ca_cons (ce_str) (ca_nil))))))))))))))))
    (css_one (cs_ret (ce_ix ix_seq ops_ix (ce_v 2) (ce_call (n := 2) (ok_d_law_draw X) (hr.mono (by decide)) tk (by rfl) X.g_d_law_draw X.F_d_law_draw.kp (bd_d_law_draw X) (an_cons (an_cons an_nil)) (ca_cons (ce_v 0) (ca_cons (ce_callB call_len fns_len (by rfl) X.b_len (by decide +kernel) (ca_cons (ce_v 2) (ca_nil))) (ca_nil)))) (fun _ _ => rfl)))) :
      PSs _ _ (Ts _ _ _ b_d_law_wrong_word))
noncomputable def le_dates_text_1 : ME D := eCall m_stretch_text (aCons (eV 1) (aCons (eV 2) (aNil)))
noncomputable def b_dates_text : MS := sSeq (sIf (tNot (tTru (eV 0))) (sRet (eC (.str "never"))) (sNil))
  (sRet (eM1 dJoin (eC (.str " or ")) (eLc (iSeq (eV 0)) [1, 2] (gT 2 (gsC (gN 1) (gsC (gN 2) (gsN)))) (tT) (le_dates_text_1))))
noncomputable def m_dates_text : List D → Store → R D := fnM 3 1 b_dates_text
theorem ok_dates_text (X : Fx K mg) : FnOk P w K mg base (L2.CX P w) 3 X.a_dates_text X.d_dates_text ["dates"] (spM K mg 1 m_dates_text) :=
  okM (k := 2) X.F_dates_text sc_dates_text rfl fun cdv A outer s H E hr tk =>
    (css_cons (cs_if (ct_not (ct_tru (ce_v 0))) (css_one (cs_ret (ce_str))) (css_nil))
    (css_one (cs_ret (ce_m1 PySem.F.slot_str_join PySem.F.type_str_join mt_join mts_join (ce_str) (ce_lc (own := [("low", 1), ("high", 2)]) rfl sc_dates_text.nd (ci_seq (ce_v 0)) (blkOk_by (N := ["dates", "low", "high"]) (sc := defScope s_dates_text) (by decide +kernel)) (fun _ _ _ _ _ => cg_tup (n := 2) rfl (cgs_cons (us := [1, 2]) (cg_name (i := 1) sc_dates_text.nd rfl (by first | exact Or.inl rfl | exact Or.inr rfl)) (cgs_cons (us := [2]) (cg_name (i := 2) sc_dates_text.nd rfl (by first | exact Or.inl rfl | exact Or.inr rfl)) (cgs_nil (vs := []))))) (fun _ _ _ _ _ => cts_nil) (fun _ _ _ _ _ => ce_call (n := 2) (ok_stretch_text X) (hr.mono (by decide)) takes0 (by rfl) X.g_stretch_text X.F_stretch_text.kp (bd_stretch_text X) (an_cons (an_cons an_nil)) (ca_cons (ce_v 1) (ca_cons (ce_v 2) (ca_nil)))))))) :
      PSs _ _ (Ts _ _ _ b_dates_text))
noncomputable def b_stretch_from : MS := sSeq (sIf (tV (e2 dEq (eFn dLen (aCons (eV 0) (aNil))) (eC (.int 2)))) (sSeq (sAsg (gT 2 (gsC (gN 1) (gsC (gN 2) (gsN)))) (eCall m_year_from (aCons (eV 0) (aNil))))
  (sSeq (sIf (tV (e2 dIsNot (eV 2) (eC .non))) (sRet (eTup (aCons (eC .non) (aCons (eV 2) (aNil))))) (sNil))
  (sRet (eTup (aCons (eTup (aCons (eV 1) (aCons (eV 1) (aNil)))) (aCons (eC .non) (aNil))))))) (sNil))
  (sSeq (sIf (tOr (tV (e2 dNe (eFn dLen (aCons (eV 0) (aNil))) (eC (.int 5)))) (tV (e2 dNe (e2 dIx (eV 0) (eC (.int 2))) (eC (.str "to"))))) (sRet (eTup (aCons (eC .non) (aCons (eC (.str "words")) (aNil))))) (sNil))
  (sSeq (sAsg (gT 2 (gsC (gN 3) (gsC (gN 2) (gsN)))) (eCall m_year_from (aCons (eSl dSlZ (eV 0) (oNone) (oSome (eC (.int 2)))) (aNil))))
  (sSeq (sIf (tV (e2 dIsNot (eV 2) (eC .non))) (sRet (eTup (aCons (eC .non) (aCons (eV 2) (aNil))))) (sNil))
  (sSeq (sAsg (gT 2 (gsC (gN 4) (gsC (gN 2) (gsN)))) (eCall m_year_from (aCons (eSl dSlZ (eV 0) (oSome (eC (.int 3))) (oNone)) (aNil))))
  (sSeq (sIf (tV (e2 dIsNot (eV 2) (eC .non))) (sRet (eTup (aCons (eC .non) (aCons (eV 2) (aNil))))) (sNil))
  (sSeq (sIf (tV (e2 dLt (eV 4) (eV 3))) (sRet (eTup (aCons (eC .non) (aCons (eC (.str "order")) (aNil))))) (sNil))
  (sRet (eTup (aCons (eTup (aCons (eV 3) (aCons (eV 4) (aNil)))) (aCons (eC .non) (aNil)))))))))))
noncomputable def m_stretch_from : List D → Store → R D := fnM 5 1 b_stretch_from
theorem ok_stretch_from (X : Fx K mg) : FnOk P w K mg base (L2.CX P w) 3 X.a_stretch_from X.d_stretch_from ["words"] (spM K mg 1 m_stretch_from) :=
  okM (k := 2) X.F_stretch_from sc_stretch_from rfl fun cdv A outer s H E hr tk =>
    (css_cons (cs_if (ct_cmp (opA_eq hr.units) ops_eq (ce_callB call_len fns_len (by rfl) X.b_len (by decide +kernel) (ca_cons (ce_v 0) (ca_nil))) (ce_int) (nomark _)) (css_cons (cs_asg (ce_call (n := 1) (ok_year_from X) (hr.mono (by decide)) tk (by rfl) X.g_year_from X.F_year_from.kp (bd_year_from X) (an_cons an_nil) (ca_cons (ce_v 0) (ca_nil))) (cg_tup (n := 2) rfl (cgs_cons (us := [1, 2]) (cg_name (i := 1) sc_stretch_from.nd rfl (by first | exact Or.inl rfl | exact Or.inr rfl)) (cgs_cons (us := [2]) (cg_name (i := 2) sc_stretch_from.nd rfl (by first | exact Or.inl rfl | exact Or.inr rfl)) (cgs_nil (vs := []))))))
    (css_cons (cs_if (ct_cmp opA_isnot ops_isnot (ce_v 2) (ce_non) (nomark _)) (css_one (cs_ret (ce_tup (ca_cons (ce_non) (ca_cons (ce_v 2) (ca_nil)))))) (css_nil))
    (css_one (cs_ret (ce_tup (ca_cons (ce_tup (ca_cons (ce_v 1) (ca_cons (ce_v 1) (ca_nil)))) (ca_cons (ce_non) (ca_nil)))))))) (css_nil))
    (css_cons (cs_if (PW.pt (cw_or (ct_cmp (opA_ne hr.units) ops_ne (ce_callB call_len fns_len (by rfl) X.b_len (by decide +kernel) (ca_cons (ce_v 0) (ca_nil))) (ce_int) (nomark _)) (cw_or1 (ct_cmp (opA_ne hr.units) ops_ne (ce_ix ix_seq ops_ix (ce_v 0) (ce_int) (fun _ _ => rfl)) (ce_str) (nomark _))))) (css_one (cs_ret (ce_tup (ca_cons (ce_non) (ca_cons (ce_str) (ca_nil)))))) (css_nil))
    (css_cons (cs_asg (ce_call (n := 1) (ok_year_from X) (hr.mono (by decide)) tk (by rfl) X.g_year_from X.F_year_from.kp (bd_year_from X) (an_cons an_nil) (ca_cons (ce_sl sl_Z sls_Z (ce_v 0) (co_none) (co_some (ce_int))) (ca_nil))) (cg_tup (n := 2) rfl (cgs_cons (us := [3, 2]) (cg_name (i := 3) sc_stretch_from.nd rfl (by first | exact Or.inl rfl | exact Or.inr rfl)) (cgs_cons (us := [2]) (cg_name (i := 2) sc_stretch_from.nd rfl (by first | exact Or.inl rfl | exact Or.inr rfl)) (cgs_nil (vs := []))))))
    (css_cons (cs_if (ct_cmp opA_isnot ops_isnot (ce_v 2) (ce_non) (nomark _)) (css_one (cs_ret (ce_tup (ca_cons (ce_non) (ca_cons (ce_v 2) (ca_nil)))))) (css_nil))
    (css_cons (cs_asg (ce_call (n := 1) (ok_year_from X) (hr.mono (by decide)) tk (by rfl) X.g_year_from X.F_year_from.kp (bd_year_from X) (an_cons an_nil) (ca_cons (ce_sl sl_Z sls_Z (ce_v 0) (co_some (ce_int)) (co_none)) (ca_nil))) (cg_tup (n := 2) rfl (cgs_cons (us := [4, 2]) (cg_name (i := 4) sc_stretch_from.nd rfl (by first | exact Or.inl rfl | exact Or.inr rfl)) (cgs_cons (us := [2]) (cg_name (i := 2) sc_stretch_from.nd rfl (by first | exact Or.inl rfl | exact Or.inr rfl)) (cgs_nil (vs := []))))))
    (css_cons (cs_if (ct_cmp opA_isnot ops_isnot (ce_v 2) (ce_non) (nomark _)) (css_one (cs_ret (ce_tup (ca_cons (ce_non) (ca_cons (ce_v 2) (ca_nil)))))) (css_nil))
    (css_cons (cs_if (ct_cmp opA_lt ops_lt (ce_v 4) (ce_v 3) (nomark _)) (css_one (cs_ret (ce_tup (ca_cons (ce_non) (ca_cons (ce_str) (ca_nil)))))) (css_nil))
    (css_one (cs_ret (ce_tup (ca_cons (ce_tup (ca_cons (ce_v 3) (ca_cons (ce_v 4) (ca_nil)))) (ca_cons (ce_non) (ca_nil)))))))))))) :
      PSs _ _ (Ts _ _ _ b_stretch_from))
noncomputable def bl_d_law_dates_1 : MS := sSeq (sIf (tV (e2 dGt (eV 3) (eC (.int 0)))) (sSet 7 (e2 dAdd (eV 7) (e2 dIx (eV 5) (eV 3)))) (sNil))
  (sSeq (sExpr (eMt "list" dAppend (eV 10) (aCons (eTup (aCons (eV 7) (aCons (e2 dAdd (eV 7) (e2 dIx (eV 4) (eV 3))) (aNil)))) (aNil))))
  (sSet 7 (e2 dAdd (eV 7) (e2 dIx (eV 4) (eV 3)))))
noncomputable def le_d_law_dates_2 : ME D := e2 dAdd (eC (.int 2)) (eCall m_d_law_often_end (aCons (eV 0) (aCons (eV 2) (aNil))))
noncomputable def le_d_law_dates_3 : ME D := eCall m_d_law_often_end (aCons (eV 0) (aCons (eV 2) (aNil)))
noncomputable def b_d_law_dates : MS := sSeq (sSet 2 (e2 dIx (eLst (aCons (eC (.int 1)) (aCons (eC (.int 2)) (aCons (eC (.int 9)) (aCons (eC (.int 700)) (aNil)))))) (eCall m_d_law_draw (aCons (eV 0) (aCons (eC (.int 4)) (aNil))))))
  (sSeq (sSet 4 (eLc (iRange1 (aCons (eV 1) (aNil))) [3] (gN 3) (tT) (le_d_law_dates_3)))
  (sSeq (sSet 5 (eLc (iRange1 (aCons (eV 1) (aNil))) [3] (gN 3) (tT) (le_d_law_dates_2)))
  (sSeq (sSet 6 (e2 dSub (e2 dSub (eC (.int 9999)) (eFn dSum (aCons (eV 4) (aNil)))) (eFn dSum (aCons (eV 5) (aNil)))))
  (sSeq (sSet 7 (e2 dAdd (e1 dNeg (eC (.int 9999))) (eCall m_d_law_often_end (aCons (eV 0) (aCons (e2 dAdd (eC (.int 9999)) (eV 6)) (aNil))))))
  (sSeq (sSet 8 (eCall m_d_law_draw (aCons (eV 0) (aCons (eC (.int 4)) (aNil)))))
  (sSeq (sIf (tAnd (tV (e2 dGt (eV 1) (eC (.int 0)))) (tV (e2 dEq (eV 8) (eC (.int 0))))) (sSet 7 (e2 dAdd (eV 6) (e2 dIx (eV 5) (eC (.int 0))))) (sNil))
  (sSeq (sIf (tAnd (tV (e2 dGt (eV 1) (eC (.int 0)))) (tV (e2 dGt (eV 8) (eC (.int 1))))) (sSeq (sSet 3 (eCall m_d_law_draw (aCons (eV 0) (aCons (eV 1) (aNil)))))
  (sSeq (sSet 9 (e2 dAdd (e2 dAdd (eFn dSum (aCons (eSl dSlZ (eV 4) (oNone) (oSome (eV 3))) (aNil))) (eFn dSum (aCons (eSl dSlZ (eV 5) (oSome (eC (.int 1))) (oSome (e2 dAdd (eV 3) (eC (.int 1))))) (aNil)))) (e2 dMul (e2 dIx (eV 4) (eV 3)) (eCall m_d_law_draw (aCons (eV 0) (aCons (eC (.int 2)) (aNil)))))))
  (sSet 7 (eFn dMin2 (aCons (eV 6) (aCons (eFn dMax2 (aCons (e1 dNeg (eC (.int 9999))) (aCons (e2 dSub (eC (.int 1)) (eV 9)) (aNil)))) (aNil))))))) (sNil))
  (sSeq (sSet 10 (eLst (aNil)))
  (sSeq (sFor (iRange1 (aCons (eV 1) (aNil))) (gN 3) (bl_d_law_dates_1))
  (sRet (eFn dTuple (aCons (eV 10) (aNil)))))))))))))
noncomputable def m_d_law_dates : List D → Store → R D := fnM 11 2 b_d_law_dates
theorem ok_d_law_dates (X : Fx K mg) : FnOk P w K mg base (L2.CX P w) 3 X.a_d_law_dates X.d_d_law_dates ["pool", "many"] (spM K mg 2 m_d_law_dates) :=
  okM (k := 2) X.F_d_law_dates sc_d_law_dates rfl fun cdv A outer s H E hr tk =>
    (css_cons (cs_set (j := 2) sc_d_law_dates.nd rfl (Or.inr rfl) (ce_ix ix_seq ops_ix (ce_lst (ca_cons (ce_int) (ca_cons (ce_int) (ca_cons (ce_int) (ca_cons (ce_int) (ca_nil)))))) (ce_call (n := 2) (ok_d_law_draw X) (hr.mono (by decide)) tk (by rfl) X.g_d_law_draw X.F_d_law_draw.kp (bd_d_law_draw X) (an_cons (an_cons an_nil)) (ca_cons (ce_v 0) (ca_cons (ce_int) (ca_nil)))) (fun _ _ => rfl)))
    (css_cons (cs_setLc (i := 4) (own := [("place", 3)]) rfl sc_d_law_dates.nd rfl rfl (sw_true rfl rfl rfl (by decide +kernel)) (ci_range1 (by rfl) X.b_range (ca_cons (ce_v 1) (ca_nil))) (blkOk_by (N := ["pool", "many", "wide", "place", "sizes", "holes", "room", "year", "turn", "ahead", "dates"]) (sc := defScope s_d_law_dates) (by decide +kernel)) (fun _ _ _ _ _ => cg_name (i := 3) sc_d_law_dates.nd rfl (by first | exact Or.inl rfl | exact Or.inr rfl)) (fun _ _ _ _ _ => cts_nil) (fun _ _ _ _ _ => ce_call (n := 2) (ok_d_law_often_end X) (hr.mono (by decide)) takes0 (by rfl) X.g_d_law_often_end X.F_d_law_often_end.kp (bd_d_law_often_end X) (an_cons (an_cons an_nil)) (ca_cons (ce_v 0) (ca_cons (ce_v 2) (ca_nil)))))
    (css_cons (cs_setLc (i := 5) (own := [("place", 3)]) rfl sc_d_law_dates.nd rfl rfl (sw_true rfl rfl rfl (by decide +kernel)) (ci_range1 (by rfl) X.b_range (ca_cons (ce_v 1) (ca_nil))) (blkOk_by (N := ["pool", "many", "wide", "place", "sizes", "holes", "room", "year", "turn", "ahead", "dates"]) (sc := defScope s_d_law_dates) (by decide +kernel)) (fun _ _ _ _ _ => cg_name (i := 3) sc_d_law_dates.nd rfl (by first | exact Or.inl rfl | exact Or.inr rfl)) (fun _ _ _ _ _ => cts_nil) (fun _ _ _ _ _ => ce_op op_addA ops_add (ce_int) (ce_call (n := 2) (ok_d_law_often_end X) (hr.mono (by decide)) takes0 (by rfl) X.g_d_law_often_end X.F_d_law_often_end.kp (bd_d_law_often_end X) (an_cons (an_cons an_nil)) (ca_cons (ce_v 0) (ca_cons (ce_v 2) (ca_nil))))))
    (css_cons (cs_set (j := 6) sc_d_law_dates.nd rfl (Or.inl rfl) (ce_op op_sub ops_sub (ce_op op_sub ops_sub (ce_int) (ce_callB (cr_sum rfl) fns_sum (by rfl) X.b_sum (by decide +kernel) (ca_cons (ce_v 4) (ca_nil)))) (ce_callB (cr_sum rfl) fns_sum (by rfl) X.b_sum (by decide +kernel) (ca_cons (ce_v 5) (ca_nil)))))
    (css_cons (cs_set (j := 7) sc_d_law_dates.nd rfl (Or.inl rfl) (ce_op op_addA ops_add (ce_un un_neg uns_neg (ce_int)) (ce_call (n := 2) (ok_d_law_often_end X) (hr.mono (by decide)) tk (by rfl) X.g_d_law_often_end X.F_d_law_often_end.kp (bd_d_law_often_end X) (an_cons (an_cons an_nil)) (ca_cons (ce_v 0) (ca_cons (ce_op op_addA ops_add (ce_int) (ce_v 6)) (ca_nil))))))
    (css_cons (cs_set (j := 8) sc_d_law_dates.nd rfl (Or.inl rfl) (ce_call (n := 2) (ok_d_law_draw X) (hr.mono (by decide)) tk (by rfl) X.g_d_law_draw X.F_d_law_draw.kp (bd_d_law_draw X) (an_cons (an_cons an_nil)) (ca_cons (ce_v 0) (ca_cons (ce_int) (ca_nil)))))
    (css_cons (cs_if (PW.pt (cw_and (ct_cmp opA_gt ops_gt (ce_v 1) (ce_int) (nomark _)) (cw_and1 (ct_cmp (opA_eq hr.units) ops_eq (ce_v 8) (ce_int) (nomark _))))) (css_one (cs_set (j := 7) sc_d_law_dates.nd rfl (Or.inl rfl) (ce_op op_addA ops_add (ce_v 6) (ce_ix ix_seq ops_ix (ce_v 5) (ce_int) (fun _ _ => rfl))))) (css_nil))
    (css_cons (cs_if (PW.pt (cw_and (ct_cmp opA_gt ops_gt (ce_v 1) (ce_int) (nomark _)) (cw_and1 (ct_cmp opA_gt ops_gt (ce_v 8) (ce_int) (nomark _))))) (css_cons (cs_set (j := 3) sc_d_law_dates.nd rfl (Or.inl rfl) (ce_call (n := 2) (ok_d_law_draw X) (hr.mono (by decide)) tk (by rfl) X.g_d_law_draw X.F_d_law_draw.kp (bd_d_law_draw X) (an_cons (an_cons an_nil)) (ca_cons (ce_v 0) (ca_cons (ce_v 1) (ca_nil)))))
    (css_cons (cs_set (j := 9) sc_d_law_dates.nd rfl (Or.inl rfl) (ce_op op_addA ops_add (ce_op op_addA ops_add (ce_callB (cr_sum rfl) fns_sum (by rfl) X.b_sum (by decide +kernel) (ca_cons (ce_sl sl_Z sls_Z (ce_v 4) (co_none) (co_some (ce_v 3))) (ca_nil))) (ce_callB (cr_sum rfl) fns_sum (by rfl) X.b_sum (by decide +kernel) (ca_cons (ce_sl sl_Z sls_Z (ce_v 5) (co_some (ce_int)) (co_some (ce_op op_addA ops_add (ce_v 3) (ce_int)))) (ca_nil)))) (ce_op op_mul ops_mul (ce_ix ix_seq ops_ix (ce_v 4) (ce_v 3) (fun _ _ => rfl)) (ce_call (n := 2) (ok_d_law_draw X) (hr.mono (by decide)) tk (by rfl) X.g_d_law_draw X.F_d_law_draw.kp (bd_d_law_draw X) (an_cons (an_cons an_nil)) (ca_cons (ce_v 0) (ca_cons (ce_int) (ca_nil)))))))
    (css_one (cs_set (j := 7) sc_d_law_dates.nd rfl (Or.inl rfl) (ce_callB (call_min2 rfl) fns_min2 (by rfl) X.b_min (by decide +kernel) (ca_cons (ce_v 6) (ca_cons (ce_callB (call_max2 rfl) fns_max2 (by rfl) X.b_max (by decide +kernel) (ca_cons (ce_un un_neg uns_neg (ce_int)) (ca_cons (ce_op op_sub ops_sub (ce_int) (ce_v 9)) (ca_nil)))) (ca_nil)))))))) (css_nil))
    (css_cons (cs_set (j := 10) sc_d_law_dates.nd rfl (Or.inl rfl) (ce_lst (ca_nil)))
    (css_cons (cs_for (passes_of rfl) rfl (ci_range1 (by rfl) X.b_range (ca_cons (ce_v 1) (ca_nil))) (cg_name (i := 3) sc_d_law_dates.nd rfl (by first | exact Or.inl rfl | exact Or.inr rfl)) (css_cons (cs_if (ct_cmp opA_gt ops_gt (ce_v 3) (ce_int) (nomark _)) (css_one (cs_set (j := 7) sc_d_law_dates.nd rfl (Or.inl rfl) (ce_op op_addA ops_add (ce_v 7) (ce_ix ix_seq ops_ix (ce_v 5) (ce_v 3) (fun _ _ => rfl))))) (css_nil))
    (css_cons (cs_expr (ce_bm PySem.F.plainAttrs_list PySem.F.slot_list_append PySem.F.type_list_append mt_append mts_append (ce_v 10) (ca_cons (ce_tup (ca_cons (ce_v 7) (ca_cons (ce_op op_addA ops_add (ce_v 7) (ce_ix ix_seq ops_ix (ce_v 4) (ce_v 3) (fun _ _ => rfl))) (ca_nil)))) (ca_nil))))
    (css_one (cs_set (j := 7) sc_d_law_dates.nd rfl (Or.inl rfl) (ce_op op_addA ops_add (ce_v 7) (ce_ix ix_seq ops_ix (ce_v 4) (ce_v 3) (fun _ _ => rfl))))))))
    (css_one (cs_ret (ce_callTy call_tuple_of fns_tuple (by rfl) X.b_tuple (by decide +kernel) (ca_cons (ce_v 10) (ca_nil)))))))))))))) :
      PSs _ _ (Ts _ _ _ b_d_law_dates))
noncomputable def bl_d_law_due_1 : MS := sIf (tAnd (tV (e2 dNe (eV 7) (eLst (aNil)))) (tV (e2 dLe (e2 dIx (eV 8) (eC (.int 0))) (e2 dAdd (e2 dIx (e2 dIx (eV 7) (e2 dSub (eFn dLen (aCons (eV 7) (aNil))) (eC (.int 1)))) (eC (.int 1))) (eC (.int 1)))))) (sSeq (sSet 9 (eMt0 "list" dPop (eV 7)))
  (sExpr (eMt "list" dAppend (eV 7) (aCons (eTup (aCons (e2 dIx (eV 9) (eC (.int 0))) (aCons (eFn dMax2 (aCons (e2 dIx (eV 9) (eC (.int 1))) (aCons (e2 dIx (eV 8) (eC (.int 1))) (aNil)))) (aNil)))) (aNil))))) (sExpr (eMt "list" dAppend (eV 7) (aCons (eV 8) (aNil))))
noncomputable def bl_d_law_due_2 : MS := sSeq (sSet 6 (eCall m_d_law_stretch_due (aCons (eV 5) (aNil))))
  (sSeq (sIf (tV (e2 dEq (e2 dIx (eV 6) (eC (.int 0))) (eC (.int 1)))) (sRet (eLst (aCons (eC (.int 1)) (aCons (e2 dIx (eV 6) (eC (.int 1))) (aNil))))) (sNil))
  (sExpr (eMt "list" dAppend (eV 4) (aCons (eTup (aCons (e2 dIx (eV 6) (eC (.int 1))) (aCons (e2 dIx (eV 6) (eC (.int 2))) (aNil)))) (aNil)))))
noncomputable def bl_d_law_due_3 : MS := sIf (tV (e2 dEq (eV 1) (eC (.str "or")))) (sExpr (eMt "list" dAppend (eV 3) (aCons (eLst (aNil)) (aNil)))) (sExpr (eMt "list" dAppend (e2 dIx (eV 3) (e2 dSub (eFn dLen (aCons (eV 3) (aNil))) (eC (.int 1)))) (aCons (eV 1) (aNil))))
noncomputable def lt_d_law_due_4 : ME Bool := tV (e2 dNe (eV 1) (eC (.str "")))
noncomputable def le_d_law_due_5 : ME D := eV 1
noncomputable def b_d_law_due : MS := sSeq (sSet 2 (eLc (iSeq (eM1 dSplit (eV 0) (eC (.str " ")))) [1] (gN 1) (lt_d_law_due_4) (le_d_law_due_5)))
  (sSeq (sIf (tAnd (tV (e2 dEq (eFn dLen (aCons (eV 2) (aNil))) (eC (.int 1)))) (tV (e2 dEq (e2 dIx (eV 2) (eC (.int 0))) (eC (.str "never"))))) (sRet (eLst (aCons (eC (.int 0)) (aCons (eTup (aNil)) (aNil))))) (sNil))
  (sSeq (sSet 3 (eLst (aCons (eLst (aNil)) (aNil))))
  (sSeq (sFor (iSeq (eV 2)) (gN 1) (bl_d_law_due_3))
  (sSeq (sSet 4 (eLst (aNil)))
  (sSeq (sFor (iSeq (eV 3)) (gN 5) (bl_d_law_due_2))
  (sSeq (sSet 7 (eLst (aNil)))
  (sSeq (sFor (iSeq (eFn dSorted (aCons (eV 4) (aNil)))) (gN 8) (bl_d_law_due_1))
  (sRet (eLst (aCons (eC (.int 0)) (aCons (eFn dTuple (aCons (eV 7) (aNil))) (aNil))))))))))))
noncomputable def m_d_law_due : List D → Store → R D := fnM 10 1 b_d_law_due
theorem ok_d_law_due (X : Fx K mg) : FnOk P w K mg base (L2.CX P w) 3 X.a_d_law_due X.d_d_law_due ["text"] (spM K mg 1 m_d_law_due) :=
  okM (k := 2) X.F_d_law_due sc_d_law_due rfl fun cdv A outer s H E hr tk =>
    (css_cons (cs_setLc (i := 2) (own := [("word", 1)]) rfl sc_d_law_due.nd rfl rfl (sw_true rfl rfl rfl (by decide +kernel)) (ci_seq (ce_m1 PySem.F.slot_str_split PySem.F.type_str_split mt_split mts_split (ce_v 0) (ce_str))) (blkOk_by (N := ["text", "word", "words", "rows", "pairs", "row", "due", "joined", "pair", "last"]) (sc := defScope s_d_law_due) (by decide +kernel)) (fun _ _ _ _ _ => cg_name (i := 1) sc_d_law_due.nd rfl (by first | exact Or.inl rfl | exact Or.inr rfl)) (fun _ _ _ _ _ => cts_one (ct_cmp (opA_ne hr.units) ops_ne (ce_v 1) (ce_str) (nomark _))) (fun _ _ _ _ _ => ce_v 1))
    (css_cons (cs_if (PW.pt (cw_and (ct_cmp (opA_eq hr.units) ops_eq (ce_callB call_len fns_len (by rfl) X.b_len (by decide +kernel) (ca_cons (ce_v 2) (ca_nil))) (ce_int) (nomark _)) (cw_and1 (ct_cmp (opA_eq hr.units) ops_eq (ce_ix ix_seq ops_ix (ce_v 2) (ce_int) (fun _ _ => rfl)) (ce_str) (nomark _))))) (css_one (cs_ret (ce_lst (ca_cons (ce_int) (ca_cons (ce_tup (ca_nil)) (ca_nil)))))) (css_nil))
    (css_cons (cs_set (j := 3) sc_d_law_due.nd rfl (Or.inl rfl) (ce_lst (ca_cons (ce_lst (ca_nil)) (ca_nil))))
    (css_cons (cs_for (passes_of rfl) rfl (ci_seq (ce_v 2)) (cg_name (i := 1) sc_d_law_due.nd rfl (by first | exact Or.inl rfl | exact Or.inr rfl)) (css_one (cs_if (ct_cmp (opA_eq hr.units) ops_eq (ce_v 1) (ce_str) (nomark _)) (css_one (cs_expr (ce_bm PySem.F.plainAttrs_list PySem.F.slot_list_append PySem.F.type_list_append mt_append mts_append (ce_v 3) (ca_cons (ce_lst (ca_nil)) (ca_nil))))) (css_one (cs_expr (ce_bm PySem.F.plainAttrs_list PySem.F.slot_list_append PySem.F.type_list_append mt_append mts_append (ce_ix ix_seq ops_ix (ce_v 3) (ce_op op_sub ops_sub (ce_callB call_len fns_len (by rfl) X.b_len (by decide +kernel) (ca_cons (ce_v 3) (ca_nil))) (ce_int)) (fun _ _ => rfl)) (ca_cons (ce_v 1) (ca_nil))))))))
    (css_cons (cs_set (j := 4) sc_d_law_due.nd rfl (Or.inl rfl) (ce_lst (ca_nil)))
    (css_cons (cs_for (passes_of rfl) rfl (ci_seq (ce_v 3)) (cg_name (i := 5) sc_d_law_due.nd rfl (by first | exact Or.inl rfl | exact Or.inr rfl)) (css_cons (cs_set (j := 6) sc_d_law_due.nd rfl (Or.inl rfl) (ce_call (n := 1) (ok_d_law_stretch_due X) (hr.mono (by decide)) tk (by rfl) X.g_d_law_stretch_due X.F_d_law_stretch_due.kp (bd_d_law_stretch_due X) (an_cons an_nil) (ca_cons (ce_v 5) (ca_nil))))
    (css_cons (cs_if (ct_cmp (opA_eq hr.units) ops_eq (ce_ix ix_seq ops_ix (ce_v 6) (ce_int) (fun _ _ => rfl)) (ce_int) (nomark _)) (css_one (cs_ret (ce_lst (ca_cons (ce_int) (ca_cons (ce_ix ix_seq ops_ix (ce_v 6) (ce_int) (fun _ _ => rfl)) (ca_nil)))))) (css_nil))
    (css_one (cs_expr (ce_bm PySem.F.plainAttrs_list PySem.F.slot_list_append PySem.F.type_list_append mt_append mts_append (ce_v 4) (ca_cons (ce_tup (ca_cons (ce_ix ix_seq ops_ix (ce_v 6) (ce_int) (fun _ _ => rfl)) (ca_cons (ce_ix ix_seq ops_ix (ce_v 6) (ce_int) (fun _ _ => rfl)) (ca_nil)))) (ca_nil))))))))
    (css_cons (cs_set (j := 7) sc_d_law_due.nd rfl (Or.inl rfl) (ce_lst (ca_nil)))
    (css_cons (cs_for (passes_of rfl) rfl (ci_seq (ce_callB (cr_sortedB hr.units) fns_sorted (by rfl) X.b_sorted (by decide +kernel) (ca_cons (ce_v 4) (ca_nil)))) (cg_name (i := 8) sc_d_law_due.nd rfl (by first | exact Or.inl rfl | exact Or.inr rfl)) (css_one (cs_if (PW.pt (cw_and (ct_cmp (opA_ne hr.units) ops_ne (ce_v 7) (ce_lst (ca_nil)) (nomark _)) (cw_and1 (ct_cmp opA_le ops_le (ce_ix ix_seq ops_ix (ce_v 8) (ce_int) (fun _ _ => rfl)) (ce_op op_addA ops_add (ce_ix ix_seq ops_ix (ce_ix ix_seq ops_ix (ce_v 7) (ce_op op_sub ops_sub (ce_callB call_len fns_len (by rfl) X.b_len (by decide +kernel) (ca_cons (ce_v 7) (ca_nil))) (ce_int)) (fun _ _ => rfl)) (ce_int) (fun _ _ => rfl)) (ce_int)) (nomark _))))) (css_cons (cs_set (j := 9) sc_d_law_due.nd rfl (Or.inl rfl) (ce_bm0 PySem.F.plainAttrs_list PySem.F.slot_list_pop PySem.F.type_list_pop mt_pop mts_pop (ce_v 7)))
    (css_one (cs_expr (ce_bm PySem.F.plainAttrs_list PySem.F.slot_list_append PySem.F.type_list_append mt_append mts_append (ce_v 7) (ca_cons (ce_tup (ca_cons (ce_ix ix_seq ops_ix (ce_v 9) (ce_int) (fun _ _ => rfl)) (ca_cons (ce_callB (call_max2 rfl) fns_max2 (by rfl) X.b_max (by decide +kernel) (ca_cons (ce_ix ix_seq ops_ix (ce_v 9) (ce_int) (fun _ _ => rfl)) (ca_cons (ce_ix ix_seq ops_ix (ce_v 8) (ce_int) (fun _ _ => rfl)) (ca_nil)))) (ca_nil)))) (ca_nil)))))) (css_one (cs_expr (ce_bm PySem.F.plainAttrs_list PySem.F.slot_list_append PySem.F.type_list_append mt_append mts_append (ce_v 7) (ca_cons (ce_v 8) (ca_nil))))))))
    (css_one (cs_ret (ce_lst (ca_cons (ce_int) (ca_cons (ce_callTy call_tuple_of fns_tuple (by rfl) X.b_tuple (by decide +kernel) (ca_cons (ce_v 7) (ca_nil))) (ca_nil))))))))))))) :
      PSs _ _ (Ts _ _ _ b_d_law_due))
noncomputable def bl_d_law_shuffled_1 : MS := sExpr (eMt "list" dAppend (eV 3) (aCons (eMt "list" dPopX (eV 2) (aCons (eCall m_d_law_often_end (aCons (eV 0) (aCons (eFn dLen (aCons (eV 2) (aNil))) (aNil)))) (aNil))) (aNil)))
noncomputable def b_d_law_shuffled : MS := sSeq (sSet 2 (eFn dList (aCons (eV 1) (aNil))))
  (sSeq (sSet 3 (eLst (aNil)))
  (sSeq (sFor (iRange1 (aCons (eFn dLen (aCons (eV 1) (aNil))) (aNil))) (gN 4) (bl_d_law_shuffled_1))
  (sRet (eV 3))))
noncomputable def m_d_law_shuffled : List D → Store → R D := fnM 5 2 b_d_law_shuffled
theorem ok_d_law_shuffled (X : Fx K mg) : FnOk P w K mg base (L2.CX P w) 3 X.a_d_law_shuffled X.d_d_law_shuffled ["pool", "rows"] (spM K mg 2 m_d_law_shuffled) :=
  okM (k := 2) X.F_d_law_shuffled sc_d_law_shuffled rfl fun cdv A outer s H E hr tk =>
    (css_cons (cs_set (j := 2) sc_d_law_shuffled.nd rfl (Or.inl rfl) (ce_callTy call_list_of fns_list (by rfl) X.b_list (by decide +kernel) (ca_cons (ce_v 1) (ca_nil))))
    (css_cons (cs_set (j := 3) sc_d_law_shuffled.nd rfl (Or.inl rfl) (ce_lst (ca_nil)))
    (css_cons (cs_for (passes_of rfl) rfl (ci_range1 (by rfl) X.b_range (ca_cons (ce_callB call_len fns_len (by rfl) X.b_len (by decide +kernel) (ca_cons (ce_v 1) (ca_nil))) (ca_nil))) (cg_name (i := 4) sc_d_law_shuffled.nd rfl (by first | exact Or.inl rfl | exact Or.inr rfl)) (css_one (cs_expr (ce_bm PySem.F.plainAttrs_list PySem.F.slot_list_append PySem.F.type_list_append mt_append mts_append (ce_v 3) (ca_cons (ce_bm PySem.F.plainAttrs_list PySem.F.slot_list_pop PySem.F.type_list_pop mt_popAt mts_popX (ce_v 2) (ca_cons (ce_call (n := 2) (ok_d_law_often_end X) (hr.mono (by decide)) tk (by rfl) X.g_d_law_often_end X.F_d_law_often_end.kp (bd_d_law_often_end X) (an_cons (an_cons an_nil)) (ca_cons (ce_v 0) (ca_cons (ce_callB call_len fns_len (by rfl) X.b_len (by decide +kernel) (ca_cons (ce_v 2) (ca_nil))) (ca_nil)))) (ca_nil))) (ca_nil))))))
    (css_one (cs_ret (ce_v 3))))) :
      PSs _ _ (Ts _ _ _ b_d_law_shuffled))
noncomputable def bl_d_law_free_pairs_1 : MS := sSeq (sSet 6 (e2 dAdd (eV 3) (eCall m_d_law_draw (aCons (eV 0) (aCons (e2 dMul (eC (.int 2)) (eV 2)) (aNil))))))
  (sExpr (eMt "list" dAppend (eV 4) (aCons (eTup (aCons (eV 6) (aCons (e2 dAdd (eV 6) (eCall m_d_law_often_end (aCons (eV 0) (aCons (e2 dIx (eLst (aCons (eC (.int 1)) (aCons (eC (.int 3)) (aCons (eFn dMin2 (aCons (eV 2) (aCons (e2 dAdd (e2 dDiv (eC (.int 900)) (eV 1)) (eC (.int 1))) (aNil)))) (aNil))))) (eCall m_d_law_draw (aCons (eV 0) (aCons (eC (.int 3)) (aNil))))) (aNil))))) (aNil)))) (aNil))))
noncomputable def b_d_law_free_pairs : MS := sSeq (sSet 1 (e2 dAdd (eC (.int 1)) (eCall m_d_law_often_end (aCons (eV 0) (aCons (eC (.int 12)) (aNil))))))
  (sSeq (sSet 2 (e2 dIx (eLst (aCons (eC (.int 4)) (aCons (eC (.int 30)) (aCons (eC (.int 900)) (aNil))))) (eCall m_d_law_draw (aCons (eV 0) (aCons (eC (.int 3)) (aNil))))))
  (sSeq (sIf (tV (e2 dEq (eCall m_d_law_draw (aCons (eV 0) (aCons (eC (.int 13)) (aNil)))) (eC (.int 0)))) (sSeq (sSet 1 (e2 dAdd (eC (.int 30)) (eCall m_d_law_draw (aCons (eV 0) (aCons (eC (.int 160)) (aNil))))))
  (sSet 2 (eC (.int 500)))) (sNil))
  (sSeq (sSet 3 (e2 dAdd (e1 dNeg (eC (.int 9999))) (eCall m_d_law_often_end (aCons (eV 0) (aCons (e2 dSub (eC (.int 19998)) (e2 dMul (eC (.int 3)) (eV 2))) (aNil))))))
  (sSeq (sIf (tV (e2 dEq (eCall m_d_law_draw (aCons (eV 0) (aCons (eC (.int 3)) (aNil)))) (eC (.int 0)))) (sSet 3 (e1 dNeg (eCall m_d_law_draw (aCons (eV 0) (aCons (e2 dMul (eC (.int 2)) (eV 2)) (aNil)))))) (sNil))
  (sSeq (sSet 4 (eLst (aNil)))
  (sSeq (sFor (iRange1 (aCons (eV 1) (aNil))) (gN 5) (bl_d_law_free_pairs_1))
  (sRet (eV 4))))))))
noncomputable def m_d_law_free_pairs : List D → Store → R D := fnM 7 1 b_d_law_free_pairs
theorem ok_d_law_free_pairs (X : Fx K mg) : FnOk P w K mg base (L2.CX P w) 3 X.a_d_law_free_pairs X.d_d_law_free_pairs ["pool"] (spM K mg 1 m_d_law_free_pairs) :=
  okM (k := 2) X.F_d_law_free_pairs sc_d_law_free_pairs rfl fun cdv A outer s H E hr tk =>
    (css_cons (cs_set (j := 1) sc_d_law_free_pairs.nd rfl (Or.inl rfl) (ce_op op_addA ops_add (ce_int) (ce_call (n := 2) (ok_d_law_often_end X) (hr.mono (by decide)) tk (by rfl) X.g_d_law_often_end X.F_d_law_often_end.kp (bd_d_law_often_end X) (an_cons (an_cons an_nil)) (ca_cons (ce_v 0) (ca_cons (ce_int) (ca_nil))))))
    (css_cons (cs_set (j := 2) sc_d_law_free_pairs.nd rfl (Or.inl rfl) (ce_ix ix_seq ops_ix (ce_lst (ca_cons (ce_int) (ca_cons (ce_int) (ca_cons (ce_int) (ca_nil))))) (ce_call (n := 2) (ok_d_law_draw X) (hr.mono (by decide)) tk (by rfl) X.g_d_law_draw X.F_d_law_draw.kp (bd_d_law_draw X) (an_cons (an_cons an_nil)) (ca_cons (ce_v 0) (ca_cons (ce_int) (ca_nil)))) (fun _ _ => rfl)))
    (css_cons (cs_if (ct_cmp (opA_eq hr.units) ops_eq (ce_call (n := 2) (ok_d_law_draw X) (hr.mono (by decide)) tk (by rfl) X.g_d_law_draw X.F_d_law_draw.kp (bd_d_law_draw X) (an_cons (an_cons an_nil)) (ca_cons (ce_v 0) (ca_cons (ce_int) (ca_nil)))) (ce_int) (nomark _)) (css_cons (cs_set (j := 1) sc_d_law_free_pairs.nd rfl (Or.inl rfl) (ce_op op_addA ops_add (ce_int) (ce_call (n := 2) (ok_d_law_draw X) (hr.mono (by decide)) tk (by rfl) X.g_d_law_draw X.F_d_law_draw.kp (bd_d_law_draw X) (an_cons (an_cons an_nil)) (ca_cons (ce_v 0) (ca_cons (ce_int) (ca_nil))))))
    (css_one (cs_set (j := 2) sc_d_law_free_pairs.nd rfl (Or.inl rfl) (ce_int)))) (css_nil))
    (css_cons (cs_set (j := 3) sc_d_law_free_pairs.nd rfl (Or.inl rfl) (ce_op op_addA ops_add (ce_un un_neg uns_neg (ce_int)) (ce_call (n := 2) (ok_d_law_often_end X) (hr.mono (by decide)) tk (by rfl) X.g_d_law_often_end X.F_d_law_often_end.kp (bd_d_law_often_end X) (an_cons (an_cons an_nil)) (ca_cons (ce_v 0) (ca_cons (ce_op op_sub ops_sub (ce_int) (ce_op op_mul ops_mul (ce_int) (ce_v 2))) (ca_nil))))))
    (css_cons (cs_if (ct_cmp (opA_eq hr.units) ops_eq (ce_call (n := 2) (ok_d_law_draw X) (hr.mono (by decide)) tk (by rfl) X.g_d_law_draw X.F_d_law_draw.kp (bd_d_law_draw X) (an_cons (an_cons an_nil)) (ca_cons (ce_v 0) (ca_cons (ce_int) (ca_nil)))) (ce_int) (nomark _)) (css_one (cs_set (j := 3) sc_d_law_free_pairs.nd rfl (Or.inl rfl) (ce_un un_neg uns_neg (ce_call (n := 2) (ok_d_law_draw X) (hr.mono (by decide)) tk (by rfl) X.g_d_law_draw X.F_d_law_draw.kp (bd_d_law_draw X) (an_cons (an_cons an_nil)) (ca_cons (ce_v 0) (ca_cons (ce_op op_mul ops_mul (ce_int) (ce_v 2)) (ca_nil))))))) (css_nil))
    (css_cons (cs_set (j := 4) sc_d_law_free_pairs.nd rfl (Or.inl rfl) (ce_lst (ca_nil)))
    (css_cons (cs_for (passes_of rfl) rfl (ci_range1 (by rfl) X.b_range (ca_cons (ce_v 1) (ca_nil))) (cg_name (i := 5) sc_d_law_free_pairs.nd rfl (by first | exact Or.inl rfl | exact Or.inr rfl)) (css_cons (cs_set (j := 6) sc_d_law_free_pairs.nd rfl (Or.inl rfl) (ce_op op_addA ops_add (ce_v 3) (ce_call (n := 2) (ok_d_law_draw X) (hr.mono (by decide)) tk (by rfl) X.g_d_law_draw X.F_d_law_draw.kp (bd_d_law_draw X) (an_cons (an_cons an_nil)) (ca_cons (ce_v 0) (ca_cons (ce_op op_mul ops_mul (ce_int) (ce_v 2)) (ca_nil))))))
    (css_one (cs_expr (ce_bm PySem.F.plainAttrs_list PySem.F.slot_list_append PySem.F.type_list_append mt_append mts_append (ce_v 4) (ca_cons (ce_tup (ca_cons (ce_v 6) (ca_cons (ce_op op_addA ops_add (ce_v 6) (ce_call (n := 2) (ok_d_law_often_end X) (hr.mono (by decide)) tk (by rfl) X.g_d_law_often_end X.F_d_law_often_end.kp (bd_d_law_often_end X) (an_cons (an_cons an_nil)) (ca_cons (ce_v 0) (ca_cons (ce_ix ix_seq ops_ix (ce_lst (ca_cons (ce_int) (ca_cons (ce_int) (ca_cons (ce_callB (call_min2 rfl) fns_min2 (by rfl) X.b_min (by decide +kernel) (ca_cons (ce_v 2) (ca_cons (ce_op op_addA ops_add (ce_op op_fdiv ops_div (ce_int) (ce_v 1)) (ce_int)) (ca_nil)))) (ca_nil))))) (ce_call (n := 2) (ok_d_law_draw X) (hr.mono (by decide)) tk (by rfl) X.g_d_law_draw X.F_d_law_draw.kp (bd_d_law_draw X) (an_cons (an_cons an_nil)) (ca_cons (ce_v 0) (ca_cons (ce_int) (ca_nil)))) (fun _ _ => rfl)) (ca_nil))))) (ca_nil)))) (ca_nil)))))))
    (css_one (cs_ret (ce_v 4))))))))) :
      PSs _ _ (Ts _ _ _ b_d_law_free_pairs))
noncomputable def b_d_law_spoilt : MS := sSeq (sSet 2 (eCall m_d_law_draw (aCons (eV 0) (aCons (eC (.int 9)) (aNil)))))
  (sSeq (sSet 3 (eCall m_d_law_often_end (aCons (eV 0) (aCons (eFn dLen (aCons (eV 1) (aNil))) (aNil)))))
  (sSeq (sIf (tV (e2 dEq (eV 2) (eC (.int 0)))) (sRet (e2 dAdd (eSl dSlZ (eV 1) (oNone) (oSome (eV 3))) (eSl dSlZ (eV 1) (oSome (e2 dAdd (eV 3) (eC (.int 1)))) (oNone)))) (sNil))
  (sSeq (sIf (tV (e2 dEq (eV 2) (eC (.int 1)))) (sRet (e2 dAdd (e2 dAdd (eSl dSlZ (eV 1) (oNone) (oSome (eV 3))) (eLst (aCons (e2 dIx (eV 1) (eV 3)) (aNil)))) (eSl dSlZ (eV 1) (oSome (eV 3)) (oNone)))) (sNil))
  (sSeq (sIf (tV (e2 dEq (eV 2) (eC (.int 2)))) (sSeq (sSet 4 (eLst (aCons (eLst (aNil)) (aCons (eLst (aCons (eC (.str "never")) (aNil))) (aCons (eLst (aCons (eC (.str "to")) (aNil))) (aCons (e2 dAdd (eV 1) (eLst (aCons (eC (.str "to")) (aNil)))) (aCons (e2 dAdd (eLst (aCons (eC (.str "to")) (aNil))) (eV 1)) (aCons (e2 dAdd (eV 1) (eV 1)) (aCons (e2 dAdd (e2 dAdd (eSl dSlZ (eV 1) (oNone) (oSome (eC (.int 2)))) (eLst (aCons (eC (.str "till")) (aNil)))) (eSl dSlZ (eV 1) (oNone) (oSome (eC (.int 2))))) (aNil))))))))))
  (sRet (e2 dIx (eV 4) (eCall m_d_law_draw (aCons (eV 0) (aCons (eC (.int 7)) (aNil))))))) (sNil))
  (sSeq (sSet 5 (eCall m_d_law_often_end (aCons (eV 0) (aCons (e2 dIx (eLst (aCons (eC (.int 40)) (aCons (eC (.int 40)) (aCons (eC (.int 999990000)) (aNil))))) (eCall m_d_law_draw (aCons (eV 0) (aCons (eC (.int 3)) (aNil))))) (aNil)))))
  (sSeq (sSet 6 (e2 dIx (eLst (aCons (eLst (aCons (eFn dStr (aCons (e2 dAdd (eC (.int 10000)) (eV 5)) (aNil))) (aCons (eC (.str "AD")) (aNil)))) (aCons (eLst (aCons (eFn dStr (aCons (e2 dAdd (eC (.int 10001)) (eV 5)) (aNil))) (aCons (eC (.str "BC")) (aNil)))) (aNil)))) (eCall m_d_law_draw (aCons (eV 0) (aCons (eC (.int 2)) (aNil))))))
  (sSeq (sIf (tV (e2 dEq (eV 2) (eC (.int 3)))) (sSeq (sSet 4 (eLst (aCons (eV 6) (aCons (e2 dAdd (e2 dAdd (eV 6) (eLst (aCons (eC (.str "to")) (aNil)))) (eSl dSlZ (eV 1) (oNone) (oSome (eC (.int 2))))) (aCons (e2 dAdd (e2 dAdd (eSl dSlZ (eV 1) (oNone) (oSome (eC (.int 2)))) (eLst (aCons (eC (.str "to")) (aNil)))) (eV 6)) (aCons (e2 dAdd (eV 6) (eLst (aCons (eC (.str "to")) (aCons (eC (.str "0")) (aCons (eC (.str "AD")) (aNil)))))) (aNil)))))))
  (sRet (e2 dIx (eV 4) (eCall m_d_law_draw (aCons (eV 0) (aCons (eC (.int 4)) (aNil))))))) (sNil))
  (sSeq (sIf (tV (e2 dEq (eV 2) (eC (.int 4)))) (sSeq (sSet 4 (eLst (aCons (eLst (aCons (eC (.str "2")) (aCons (eC (.str "AD")) (aCons (eC (.str "to")) (aCons (eC (.str "1")) (aCons (eC (.str "AD")) (aNil))))))) (aCons (eLst (aCons (eC (.str "1")) (aCons (eC (.str "AD")) (aCons (eC (.str "to")) (aCons (eC (.str "1")) (aCons (eC (.str "BC")) (aNil))))))) (aCons (eLst (aCons (eC (.str "9")) (aCons (eC (.str "BC")) (aCons (eC (.str "to")) (aCons (eC (.str "10")) (aCons (eC (.str "BC")) (aNil))))))) (aNil))))))
  (sRet (e2 dIx (eV 4) (eCall m_d_law_draw (aCons (eV 0) (aCons (eC (.int 3)) (aNil))))))) (sNil))
  (sSeq (sIf (tV (e2 dEq (eV 2) (eC (.int 5)))) (sRet (e2 dAdd (eSl dSlZ (eV 1) (oNone) (oSome (eC (.int 2)))) (eLst (aCons (eC (.str "to")) (aCons (eCall m_d_law_wrong_word (aCons (eV 0) (aCons (eC (.str "1")) (aNil)))) (aCons (eCall m_d_law_wrong_word (aCons (eV 0) (aCons (eC (.str "AD")) (aNil)))) (aNil))))))) (sNil))
  (sSeq (sIf (tV (e2 dEq (eV 2) (eC (.int 6)))) (sRet (e2 dAdd (e2 dAdd (eLst (aCons (eCall m_d_law_wrong_word (aCons (eV 0) (aCons (eC (.str "1")) (aNil)))) (aCons (eC (.str "AD")) (aCons (eC (.str "to")) (aNil))))) (eSl dSlZ (eV 1) (oNone) (oSome (eC (.int 1))))) (eLst (aCons (eCall m_d_law_wrong_word (aCons (eV 0) (aCons (eC (.str "BC")) (aNil)))) (aNil))))) (sNil))
  (sRet (e2 dAdd (e2 dAdd (eSl dSlZ (eV 1) (oNone) (oSome (eV 3))) (eLst (aCons (eCall m_d_law_wrong_word (aCons (eV 0) (aCons (e2 dIx (eV 1) (eV 3)) (aNil)))) (aNil)))) (eSl dSlZ (eV 1) (oSome (e2 dAdd (eV 3) (eC (.int 1)))) (oNone))))))))))))))
noncomputable def m_d_law_spoilt : List D → Store → R D := fnM 7 2 b_d_law_spoilt
theorem ok_d_law_spoilt (X : Fx K mg) : FnOk P w K mg base (L2.CX P w) 3 X.a_d_law_spoilt X.d_d_law_spoilt ["pool", "row"] (spM K mg 2 m_d_law_spoilt) :=
  okM (k := 2) X.F_d_law_spoilt sc_d_law_spoilt rfl fun cdv A outer s H E hr tk =>
    (css_cons (cs_set (j := 2) sc_d_law_spoilt.nd rfl (Or.inl rfl) (ce_call (n := 2) (ok_d_law_draw X) (hr.mono (by decide)) tk (by rfl) X.g_d_law_draw X.F_d_law_draw.kp (bd_d_law_draw X) (an_cons (an_cons an_nil)) (ca_cons (ce_v 0) (ca_cons (ce_int) (ca_nil)))))
    (css_cons (cs_set (j := 3) sc_d_law_spoilt.nd rfl (Or.inl rfl) (ce_call (n := 2) (ok_d_law_often_end X) (hr.mono (by decide)) tk (by rfl) X.g_d_law_often_end X.F_d_law_often_end.kp (bd_d_law_often_end X) (an_cons (an_cons an_nil)) (ca_cons (ce_v 0) (ca_cons (ce_callB call_len fns_len (by rfl) X.b_len (by decide +kernel) (ca_cons (ce_v 1) (ca_nil))) (ca_nil)))))
    (css_cons (cs_if (ct_cmp (opA_eq hr.units) ops_eq (ce_v 2) (ce_int) (nomark _)) (css_one (cs_ret (ce_op op_addA ops_add (ce_sl sl_Z sls_Z (ce_v 1) (co_none) (co_some (ce_v 3))) (ce_sl sl_Z sls_Z (ce_v 1) (co_some (ce_op op_addA ops_add (ce_v 3) (ce_int))) (co_none))))) (css_nil))
    (css_cons (cs_if (ct_cmp (opA_eq hr.units) ops_eq (ce_v 2) (ce_int) (nomark _)) (css_one (cs_ret (ce_op op_addA ops_add (ce_op op_addA ops_add (ce_sl sl_Z sls_Z (ce_v 1) (co_none) (co_some (ce_v 3))) (ce_lst (ca_cons (ce_ix ix_seq ops_ix (ce_v 1) (ce_v 3) (fun _ _ => rfl)) (ca_nil)))) (ce_sl sl_Z sls_Z (ce_v 1) (co_some (ce_v 3)) (co_none))))) (css_nil))
    (css_cons (cs_if (ct_cmp (opA_eq hr.units) ops_eq (ce_v 2) (ce_int) (nomark _)) (css_cons (cs_set (j := 4) sc_d_law_spoilt.nd rfl (Or.inl rfl) (ce_lst (ca_cons (ce_lst (ca_nil)) (ca_cons (ce_lst (ca_cons (ce_str) (ca_nil))) (ca_cons (ce_lst (ca_cons (ce_str) (ca_nil))) (ca_cons (ce_op op_addA ops_add (ce_v 1) (ce_lst (ca_cons (ce_str) (ca_nil)))) (ca_cons (ce_op op_addA ops_add (ce_lst (ca_cons (ce_str) (ca_nil))) (ce_v 1)) (ca_cons (ce_op op_addA ops_add (ce_v 1) (ce_v 1)) (ca_cons (ce_op op_addA ops_add (ce_op op_addA ops_add (ce_sl sl_Z sls_Z (ce_v 1) (co_none) (co_some (ce_int))) (ce_lst (ca_cons (ce_str) (ca_nil)))) (ce_sl sl_Z sls_Z (ce_v 1) (co_none) (co_some (ce_int)))) (ca_nil))))))))))
    (css_one (cs_ret (ce_ix ix_seq ops_ix (ce_v 4) (ce_call (n := 2) (ok_d_law_draw X) (hr.mono (by decide)) tk (by rfl) X.g_d_law_draw X.F_d_law_draw.kp (bd_d_law_draw X) (an_cons (an_cons an_nil)) (ca_cons (ce_v 0) (ca_cons (ce_int) (ca_nil)))) (fun _ _ => rfl))))) (css_nil))
    (css_cons (cs_set (j := 5) sc_d_law_spoilt.nd rfl (Or.inl rfl) (ce_call (n := 2) (ok_d_law_often_end X) (hr.mono (by decide)) tk (by rfl) X.g_d_law_often_end X.F_d_law_often_end.kp (bd_d_law_often_end X) (an_cons (an_cons an_nil)) (ca_cons (ce_v 0) (ca_cons (ce_ix ix_seq ops_ix (ce_lst (ca_cons (ce_int) (ca_cons (ce_int) (ca_cons (ce_int) (ca_nil))))) (ce_call (n := 2) (ok_d_law_draw X) (hr.mono (by decide)) tk (by rfl) X.g_d_law_draw X.F_d_law_draw.kp (bd_d_law_draw X) (an_cons (an_cons an_nil)) (ca_cons (ce_v 0) (ca_cons (ce_int) (ca_nil)))) (fun _ _ => rfl)) (ca_nil)))))
    (css_cons (cs_set (j := 6) sc_d_law_spoilt.nd rfl (Or.inl rfl) (ce_ix ix_seq ops_ix (ce_lst (ca_cons (ce_lst (ca_cons (ce_callTy call_strA fns_str (by rfl) X.b_str (by decide +kernel) (ca_cons (ce_op op_addA ops_add (ce_int) (ce_v 5)) (ca_nil))) (ca_cons (ce_str) (ca_nil)))) (ca_cons (ce_lst (ca_cons (ce_callTy call_strA fns_str (by rfl) X.b_str (by decide +kernel) (ca_cons (ce_op op_addA ops_add (ce_int) (ce_v 5)) (ca_nil))) (ca_cons (ce_str) (ca_nil)))) (ca_nil)))) (ce_call (n := 2) (ok_d_law_draw X) (hr.mono (by decide)) tk (by rfl) X.g_d_law_draw X.F_d_law_draw.kp (bd_d_law_draw X) (an_cons (an_cons an_nil)) (ca_cons (ce_v 0) (ca_cons (ce_int) (ca_nil)))) (fun _ _ => rfl)))
    (css_cons (cs_if (ct_cmp (opA_eq hr.units) ops_eq (ce_v 2) (ce_int) (nomark _)) (css_cons (cs_set (j := 4) sc_d_law_spoilt.nd rfl (Or.inl rfl) (ce_lst (ca_cons (ce_v 6) (ca_cons (ce_op op_addA ops_add (ce_op op_addA ops_add (ce_v 6) (ce_lst (ca_cons (ce_str) (ca_nil)))) (ce_sl sl_Z sls_Z (ce_v 1) (co_none) (co_some (ce_int)))) (ca_cons (ce_op op_addA ops_add (ce_op op_addA ops_add (ce_sl sl_Z sls_Z (ce_v 1) (co_none) (co_some (ce_int))) (ce_lst (ca_cons (ce_str) (ca_nil)))) (ce_v 6)) (ca_cons (ce_op op_addA ops_add (ce_v 6) (ce_lst (ca_cons (ce_str) (ca_cons (ce_str) (ca_cons (ce_str) (ca_nil)))))) (ca_nil)))))))
    (css_one (cs_ret (ce_ix ix_seq ops_ix (ce_v 4) (ce_call (n := 2) (ok_d_law_draw X) (hr.mono (by decide)) tk (by rfl) X.g_d_law_draw X.F_d_law_draw.kp (bd_d_law_draw X) (an_cons (an_cons an_nil)) (ca_cons (ce_v 0) (ca_cons (ce_int) (ca_nil)))) (fun _ _ => rfl))))) (css_nil))
    (css_cons (cs_if (ct_cmp (opA_eq hr.units) ops_eq (ce_v 2) (ce_int) (nomark _)) (css_cons (cs_set (j := 4) sc_d_law_spoilt.nd rfl (Or.inl rfl) (ce_lst (ca_cons (ce_lst (ca_cons (ce_str) (ca_cons (ce_str) (ca_cons (ce_str) (ca_cons (ce_str) (ca_cons (ce_str) (ca_nil))))))) (ca_cons (ce_lst (ca_cons (ce_str) (ca_cons (ce_str) (ca_cons (ce_str) (ca_cons (ce_str) (ca_cons (ce_str) (ca_nil))))))) (ca_cons (ce_lst (ca_cons (ce_str) (ca_cons (ce_str) (ca_cons (ce_str) (ca_cons (ce_str) (ca_cons (ce_str) (ca_nil))))))) (ca_nil))))))
    (css_one (cs_ret (ce_ix ix_seq ops_ix (ce_v 4) (ce_call (n := 2) (ok_d_law_draw X) (hr.mono (by decide)) tk (by rfl) X.g_d_law_draw X.F_d_law_draw.kp (bd_d_law_draw X) (an_cons (an_cons an_nil)) (ca_cons (ce_v 0) (ca_cons (ce_int) (ca_nil)))) (fun _ _ => rfl))))) (css_nil))
    (css_cons (cs_if (ct_cmp (opA_eq hr.units) ops_eq (ce_v 2) (ce_int) (nomark _)) (css_one (cs_ret (ce_op op_addA ops_add (ce_sl sl_Z sls_Z (ce_v 1) (co_none) (co_some (ce_int))) (ce_lst (ca_cons (ce_str) (ca_cons (ce_call (n := 2) (ok_d_law_wrong_word X) (hr.mono (by decide)) tk (by rfl) X.g_d_law_wrong_word X.F_d_law_wrong_word.kp (bd_d_law_wrong_word X) (an_cons (an_cons an_nil)) (ca_cons (ce_v 0) (ca_cons (ce_str) (ca_nil)))) (ca_cons (ce_call (n := 2) (ok_d_law_wrong_word X) (hr.mono (by decide)) tk (by rfl) X.g_d_law_wrong_word X.F_d_law_wrong_word.kp (bd_d_law_wrong_word X) (an_cons (an_cons an_nil)) (ca_cons (ce_v 0) (ca_cons (ce_str) (ca_nil)))) (ca_nil)))))))) (css_nil))
    (css_cons (cs_if (ct_cmp (opA_eq hr.units) ops_eq (ce_v 2) (ce_int) (nomark _)) (css_one (cs_ret (ce_op op_addA ops_add (ce_op op_addA ops_add (ce_lst (ca_cons (ce_call (n := 2) (ok_d_law_wrong_word X) (hr.mono (by decide)) tk (by rfl) X.g_d_law_wrong_word X.F_d_law_wrong_word.kp (bd_d_law_wrong_word X) (an_cons (an_cons an_nil)) (ca_cons (ce_v 0) (ca_cons (ce_str) (ca_nil)))) (ca_cons (ce_str) (ca_cons (ce_str) (ca_nil))))) (ce_sl sl_Z sls_Z (ce_v 1) (co_none) (co_some (ce_int)))) (ce_lst (ca_cons (ce_call (n := 2) (ok_d_law_wrong_word X) (hr.mono (by decide)) tk (by rfl) X.g_d_law_wrong_word X.F_d_law_wrong_word.kp (bd_d_law_wrong_word X) (an_cons (an_cons an_nil)) (ca_cons (ce_v 0) (ca_cons (ce_str) (ca_nil)))) (ca_nil)))))) (css_nil))
    (css_one (cs_ret (ce_op op_addA ops_add (ce_op op_addA ops_add (ce_sl sl_Z sls_Z (ce_v 1) (co_none) (co_some (ce_v 3))) (ce_lst (ca_cons (ce_call (n := 2) (ok_d_law_wrong_word X) (hr.mono (by decide)) tk (by rfl) X.g_d_law_wrong_word X.F_d_law_wrong_word.kp (bd_d_law_wrong_word X) (an_cons (an_cons an_nil)) (ca_cons (ce_v 0) (ca_cons (ce_ix ix_seq ops_ix (ce_v 1) (ce_v 3) (fun _ _ => rfl)) (ca_nil)))) (ca_nil)))) (ce_sl sl_Z sls_Z (ce_v 1) (co_some (ce_op op_addA ops_add (ce_v 3) (ce_int))) (co_none))))))))))))))) :
      PSs _ _ (Ts _ _ _ b_d_law_spoilt))
noncomputable def bl_dates_from_1 : MS := sSeq (sAsg (gT 2 (gsC (gN 3) (gsC (gN 4) (gsN)))) (eCall m_stretch_from (aCons (eV 2) (aNil))))
  (sSeq (sIf (tV (e2 dIsNot (eV 4) (eC .non))) (sRet (eTup (aCons (eC .non) (aCons (eV 4) (aNil))))) (sNil))
  (sExpr (eMt "list" dAppend (eV 1) (aCons (eV 3) (aNil)))))
noncomputable def b_dates_from : MS := sSeq (sIf (tV (e2 dEq (eV 0) (eLst (aCons (eC (.str "never")) (aNil))))) (sRet (eTup (aCons (eTup (aNil)) (aCons (eC .non) (aNil))))) (sNil))
  (sSeq (sSet 1 (eLst (aNil)))
  (sSeq (sFor (iSeq (eCall m_parted_words (aCons (eV 0) (aCons (eC (.str "or")) (aNil))))) (gN 2) (bl_dates_from_1))
  (sRet (eTup (aCons (eCall m_make_dates (aCons (eV 1) (aNil))) (aCons (eC .non) (aNil)))))))
noncomputable def m_dates_from : List D → Store → R D := fnM 5 1 b_dates_from
theorem ok_dates_from (X : Fx K mg) : FnOk P w K mg base (L2.CX P w) 4 X.a_dates_from X.d_dates_from ["words"] (spM K mg 1 m_dates_from) :=
  okM (k := 3) X.F_dates_from sc_dates_from rfl fun cdv A outer s H E hr tk =>
    (css_cons (cs_if (ct_cmp (opA_eq hr.units) ops_eq (ce_v 0) (ce_lst (ca_cons (ce_str) (ca_nil))) (nomark _)) (css_one (cs_ret (ce_tup (ca_cons (ce_tup (ca_nil)) (ca_cons (ce_non) (ca_nil)))))) (css_nil))
    (css_cons (cs_set (j := 1) sc_dates_from.nd rfl (Or.inl rfl) (ce_lst (ca_nil)))
    (css_cons (cs_for (passes_of rfl) rfl (ci_seq (ce_call (n := 2) (ok_parted_words X) (hr.mono (by decide)) tk (by rfl) X.g_parted_words X.F_parted_words.kp (bd_parted_words X) (an_cons (an_cons an_nil)) (ca_cons (ce_v 0) (ca_cons (ce_str) (ca_nil))))) (cg_name (i := 2) sc_dates_from.nd rfl (by first | exact Or.inl rfl | exact Or.inr rfl)) (css_cons (cs_asg (ce_call (n := 1) (ok_stretch_from X) (hr.mono (by decide)) tk (by rfl) X.g_stretch_from X.F_stretch_from.kp (bd_stretch_from X) (an_cons an_nil) (ca_cons (ce_v 2) (ca_nil))) (cg_tup (n := 2) rfl (cgs_cons (us := [3, 4]) (cg_name (i := 3) sc_dates_from.nd rfl (by first | exact Or.inl rfl | exact Or.inr rfl)) (cgs_cons (us := [4]) (cg_name (i := 4) sc_dates_from.nd rfl (by first | exact Or.inl rfl | exact Or.inr rfl)) (cgs_nil (vs := []))))))
    (css_cons (cs_if (ct_cmp opA_isnot ops_isnot (ce_v 4) (ce_non) (nomark _)) (css_one (cs_ret (ce_tup (ca_cons (ce_non) (ca_cons (ce_v 4) (ca_nil)))))) (css_nil))
    (css_one (cs_expr (ce_bm PySem.F.plainAttrs_list PySem.F.slot_list_append PySem.F.type_list_append mt_append mts_append (ce_v 1) (ca_cons (ce_v 3) (ca_nil))))))))
    (css_one (cs_ret (ce_tup (ca_cons (ce_call (n := 1) (ok_make_dates X) (hr.mono (by decide)) tk (by rfl) X.g_make_dates X.F_make_dates.kp (bd_make_dates X) (an_cons an_nil) (ca_cons (ce_v 1) (ca_nil))) (ca_cons (ce_non) (ca_nil)))))))) :
      PSs _ _ (Ts _ _ _ b_dates_from))
noncomputable def bl_d_law_more_pairs_1 : MS := sSeq (sSet 4 (e2 dIx (eV 1) (eCall m_d_law_draw (aCons (eV 0) (aCons (eFn dLen (aCons (eV 1) (aNil))) (aNil))))))
  (sSeq (sSet 5 (e2 dAdd (e2 dIx (eV 4) (eC (.int 0))) (eCall m_d_law_often_end (aCons (eV 0) (aCons (e2 dSub (e2 dAdd (eC (.int 1)) (e2 dIx (eV 4) (eC (.int 1)))) (e2 dIx (eV 4) (eC (.int 0)))) (aNil))))))
  (sExpr (eMt "list" dAppend (eV 2) (aCons (eTup (aCons (eV 5) (aCons (e2 dAdd (eV 5) (eCall m_d_law_often_end (aCons (eV 0) (aCons (e2 dSub (e2 dAdd (eC (.int 1)) (e2 dIx (eV 4) (eC (.int 1)))) (eV 5)) (aNil))))) (aNil)))) (aNil)))))
noncomputable def b_d_law_more_pairs : MS := sSeq (sSet 2 (eFn dList (aCons (eV 1) (aNil))))
  (sSeq (sFor (iRange1 (aCons (eCall m_d_law_draw (aCons (eV 0) (aCons (eC (.int 4)) (aNil)))) (aNil))) (gN 3) (bl_d_law_more_pairs_1))
  (sRet (eCall m_d_law_shuffled (aCons (eV 0) (aCons (eV 2) (aNil))))))
noncomputable def m_d_law_more_pairs : List D → Store → R D := fnM 6 2 b_d_law_more_pairs
theorem ok_d_law_more_pairs (X : Fx K mg) : FnOk P w K mg base (L2.CX P w) 4 X.a_d_law_more_pairs X.d_d_law_more_pairs ["pool", "dates"] (spM K mg 2 m_d_law_more_pairs) :=
  okM (k := 3) X.F_d_law_more_pairs sc_d_law_more_pairs rfl fun cdv A outer s H E hr tk =>
    (css_cons (cs_set (j := 2) sc_d_law_more_pairs.nd rfl (Or.inl rfl) (ce_callTy call_list_of fns_list (by rfl) X.b_list (by decide +kernel) (ca_cons (ce_v 1) (ca_nil))))
    (css_cons (cs_for (passes_of rfl) rfl (ci_range1 (by rfl) X.b_range (ca_cons (ce_call (n := 2) (ok_d_law_draw X) (hr.mono (by decide)) tk (by rfl) X.g_d_law_draw X.F_d_law_draw.kp (bd_d_law_draw X) (an_cons (an_cons an_nil)) (ca_cons (ce_v 0) (ca_cons (ce_int) (ca_nil)))) (ca_nil))) (cg_name (i := 3) sc_d_law_more_pairs.nd rfl (by first | exact Or.inl rfl | exact Or.inr rfl)) (css_cons (cs_set (j := 4) sc_d_law_more_pairs.nd rfl (Or.inl rfl) (ce_ix ix_seq ops_ix (ce_v 1) (ce_call (n := 2) (ok_d_law_draw X) (hr.mono (by decide)) tk (by rfl) X.g_d_law_draw X.F_d_law_draw.kp (bd_d_law_draw X) (an_cons (an_cons an_nil)) (ca_cons (ce_v 0) (ca_cons (ce_callB call_len fns_len (by rfl) X.b_len (by decide +kernel) (ca_cons (ce_v 1) (ca_nil))) (ca_nil)))) (fun _ _ => rfl)))
    (css_cons (cs_set (j := 5) sc_d_law_more_pairs.nd rfl (Or.inl rfl) (ce_op op_addA ops_add (ce_ix ix_seq ops_ix (ce_v 4) (ce_int) (fun _ _ => rfl)) (ce_call (n := 2) (ok_d_law_often_end X) (hr.mono (by decide)) tk (by rfl) X.g_d_law_often_end X.F_d_law_often_end.kp (bd_d_law_often_end X) (an_cons (an_cons an_nil)) (ca_cons (ce_v 0) (ca_cons (ce_op op_sub ops_sub (ce_op op_addA ops_add (ce_int) (ce_ix ix_seq ops_ix (ce_v 4) (ce_int) (fun _ _ => rfl))) (ce_ix ix_seq ops_ix (ce_v 4) (ce_int) (fun _ _ => rfl))) (ca_nil))))))
    (css_one (cs_expr (ce_bm PySem.F.plainAttrs_list PySem.F.slot_list_append PySem.F.type_list_append mt_append mts_append (ce_v 2) (ca_cons (ce_tup (ca_cons (ce_v 5) (ca_cons (ce_op op_addA ops_add (ce_v 5) (ce_call (n := 2) (ok_d_law_often_end X) (hr.mono (by decide)) tk (by rfl) X.g_d_law_often_end X.F_d_law_often_end.kp (bd_d_law_often_end X) (an_cons (an_cons an_nil)) (ca_cons (ce_v 0) (ca_cons (ce_op op_sub ops_sub (ce_op op_addA ops_add (ce_int) (ce_ix ix_seq ops_ix (ce_v 4) (ce_int) (fun _ _ => rfl))) (ce_v 5)) (ca_nil))))) (ca_nil)))) (ca_nil))))))))
    (css_one (cs_ret (ce_call (n := 2) (ok_d_law_shuffled X) (hr.mono (by decide)) tk (by rfl) X.g_d_law_shuffled X.F_d_law_shuffled.kp (bd_d_law_shuffled X) (an_cons (an_cons an_nil)) (ca_cons (ce_v 0) (ca_cons (ce_v 2) (ca_nil))))))) :
      PSs _ _ (Ts _ _ _ b_d_law_more_pairs))
noncomputable def bl_d_law_wrong_lines_1 : MS := sSeq (sSet 5 (eCall m_d_law_often_end (aCons (eV 0) (aCons (eFn dLen (aCons (eV 2) (aNil))) (aNil)))))
  (sSeq (sSet 6 (e2 dAdd (e2 dAdd (eSl dSlZ (eV 2) (oNone) (oSome (eV 5))) (eLst (aCons (eCall m_d_law_spoilt (aCons (eV 0) (aCons (e2 dIx (eV 2) (eV 5)) (aNil)))) (aNil)))) (eSl dSlZ (eV 2) (oSome (e2 dAdd (eV 5) (eC (.int 1)))) (oNone))))
  (sSeq (sExpr (eMt "list" dAppend (eV 3) (aCons (eCall m_d_law_line (aCons (eV 0) (aCons (eV 6) (aNil)))) (aNil))))
  (sSeq (sSet 7 (eCall m_d_law_often_end (aCons (eV 0) (aCons (eFn dLen (aCons (eV 2) (aNil))) (aNil)))))
  (sIf (tV (e2 dNe (eV 7) (eV 5))) (sExpr (eMt "list" dAppend (eV 3) (aCons (eCall m_d_law_line (aCons (eV 0) (aCons (e2 dAdd (e2 dAdd (eSl dSlZ (eV 6) (oNone) (oSome (eV 7))) (eLst (aCons (eCall m_d_law_spoilt (aCons (eV 0) (aCons (e2 dAdd (e2 dIx (eV 6) (eV 7)) (eLst (aCons (eC (.str "AD")) (aNil)))) (aNil)))) (aNil)))) (eSl dSlZ (eV 6) (oSome (e2 dAdd (eV 7) (eC (.int 1)))) (oNone))) (aNil)))) (aNil)))) (sNil)))))
noncomputable def le_d_law_wrong_lines_2 : ME D := eCall m_d_law_stretch_words (aCons (eV 0) (aCons (eV 9) (aNil)))
noncomputable def b_d_law_wrong_lines : MS := sSeq (sSet 2 (eLc (iSeq (eV 1)) [9] (gN 9) (tT) (le_d_law_wrong_lines_2)))
  (sSeq (sSet 3 (eLst (aNil)))
  (sSeq (sFor (iRange1 (aCons (eC (.int 4)) (aNil))) (gN 4) (bl_d_law_wrong_lines_1))
  (sSeq (sSet 8 (eLst (aCons (eC (.str "")) (aCons (eC (.str " ")) (aCons (eC (.str "or")) (aCons (eC (.str "never or never")) (aCons (eC (.str "never never")) (aCons (eC (.str "Never")) (aCons (eC (.str "never or 1 AD")) (aCons (eC (.str "1 AD or never")) (aNil)))))))))))
  (sSeq (sExpr (eMt "list" dAppend (eV 3) (aCons (e2 dIx (eV 8) (eCall m_d_law_draw (aCons (eV 0) (aCons (eC (.int 8)) (aNil))))) (aNil))))
  (sSeq (sSet 5 (eCall m_d_law_often_end (aCons (eV 0) (aCons (e2 dAdd (eFn dLen (aCons (eV 2) (aNil))) (eC (.int 1))) (aNil)))))
  (sSeq (sExpr (eMt "list" dAppend (eV 3) (aCons (eCall m_d_law_line (aCons (eV 0) (aCons (e2 dAdd (e2 dAdd (eSl dSlZ (eV 2) (oNone) (oSome (eV 5))) (eLst (aCons (eLst (aNil)) (aNil)))) (eSl dSlZ (eV 2) (oSome (eV 5)) (oNone))) (aNil)))) (aNil))))
  (sSeq (sExpr (eMt "list" dAppend (eV 3) (aCons (eCall m_d_law_line (aCons (eV 0) (aCons (e2 dAdd (e2 dAdd (eSl dSlZ (eV 2) (oNone) (oSome (eV 5))) (eLst (aCons (eLst (aCons (eC (.str "5")) (aCons (eC (.str "AD")) (aCons (eC (.str "to")) (aCons (eC (.str "4")) (aCons (eC (.str "AD")) (aNil))))))) (aNil)))) (eSl dSlZ (eV 2) (oSome (eV 5)) (oNone))) (aNil)))) (aNil))))
  (sRet (eV 3)))))))))
noncomputable def m_d_law_wrong_lines : List D → Store → R D := fnM 10 2 b_d_law_wrong_lines
theorem ok_d_law_wrong_lines (X : Fx K mg) : FnOk P w K mg base (L2.CX P w) 4 X.a_d_law_wrong_lines X.d_d_law_wrong_lines ["pool", "pairs"] (spM K mg 2 m_d_law_wrong_lines) :=
  okM (k := 3) X.F_d_law_wrong_lines sc_d_law_wrong_lines rfl fun cdv A outer s H E hr tk =>
    (css_cons (cs_setLc (i := 2) (own := [("pair", 9)]) rfl sc_d_law_wrong_lines.nd rfl rfl (sw_true rfl rfl rfl (by decide +kernel)) (ci_seq (ce_v 1)) (blkOk_by (N := ["pool", "pairs", "rows", "lines", "lap", "at", "once", "other", "wrong", "pair"]) (sc := defScope s_d_law_wrong_lines) (by decide +kernel)) (fun _ _ _ _ _ => cg_name (i := 9) sc_d_law_wrong_lines.nd rfl (by first | exact Or.inl rfl | exact Or.inr rfl)) (fun _ _ _ _ _ => cts_nil) (fun _ _ _ _ _ => ce_call (n := 2) (ok_d_law_stretch_words X) (hr.mono (by decide)) takes0 (by rfl) X.g_d_law_stretch_words X.F_d_law_stretch_words.kp (bd_d_law_stretch_words X) (an_cons (an_cons an_nil)) (ca_cons (ce_v 0) (ca_cons (ce_v 9) (ca_nil)))))
    (css_cons (cs_set (j := 3) sc_d_law_wrong_lines.nd rfl (Or.inl rfl) (ce_lst (ca_nil)))
    (css_cons (cs_for (passes_of rfl) rfl (ci_range1 (by rfl) X.b_range (ca_cons (ce_int) (ca_nil))) (cg_name (i := 4) sc_d_law_wrong_lines.nd rfl (by first | exact Or.inl rfl | exact Or.inr rfl)) (css_cons (cs_set (j := 5) sc_d_law_wrong_lines.nd rfl (Or.inl rfl) (ce_call (n := 2) (ok_d_law_often_end X) (hr.mono (by decide)) tk (by rfl) X.g_d_law_often_end X.F_d_law_often_end.kp (bd_d_law_often_end X) (an_cons (an_cons an_nil)) (ca_cons (ce_v 0) (ca_cons (ce_callB call_len fns_len (by rfl) X.b_len (by decide +kernel) (ca_cons (ce_v 2) (ca_nil))) (ca_nil)))))
    (css_cons (cs_set (j := 6) sc_d_law_wrong_lines.nd rfl (Or.inl rfl) (ce_op op_addA ops_add (ce_op op_addA ops_add (ce_sl sl_Z sls_Z (ce_v 2) (co_none) (co_some (ce_v 5))) (ce_lst (ca_cons (ce_call (n := 2) (ok_d_law_spoilt X) (hr.mono (by decide)) tk (by rfl) X.g_d_law_spoilt X.F_d_law_spoilt.kp (bd_d_law_spoilt X) (an_cons (an_cons an_nil)) (ca_cons (ce_v 0) (ca_cons (ce_ix ix_seq ops_ix (ce_v 2) (ce_v 5) (fun _ _ => rfl)) (ca_nil)))) (ca_nil)))) (ce_sl sl_Z sls_Z (ce_v 2) (co_some (ce_op op_addA ops_add (ce_v 5) (ce_int))) (co_none))))
    (css_cons (cs_expr (ce_bm PySem.F.plainAttrs_list PySem.F.slot_list_append PySem.F.type_list_append mt_append mts_append (ce_v 3) (ca_cons (ce_call (n := 2) (ok_d_law_line X) (hr.mono (by decide)) tk (by rfl) X.g_d_law_line X.F_d_law_line.kp (bd_d_law_line X) (an_cons (an_cons an_nil)) (ca_cons (ce_v 0) (ca_cons (ce_v 6) (ca_nil)))) (ca_nil))))
    (css_cons (cs_set (j := 7) sc_d_law_wrong_lines.nd rfl (Or.inl rfl) (ce_call (n := 2) (ok_d_law_often_end X) (hr.mono (by decide)) tk (by rfl) X.g_d_law_often_end X.F_d_law_often_end.kp (bd_d_law_often_end X) (an_cons (an_cons an_nil)) (ca_cons (ce_v 0) (ca_cons (ce_callB call_len fns_len (by rfl) X.b_len (by decide +kernel) (ca_cons (ce_v 2) (ca_nil))) (ca_nil)))))
    (css_one (cs_if (ct_cmp (opA_ne hr.units) ops_ne (ce_v 7) (ce_v 5) (nomark _)) (css_one (cs_expr (ce_bm PySem.F.plainAttrs_list PySem.F.slot_list_append PySem.F.type_list_append mt_append mts_append (ce_v 3) (ca_cons (ce_call (n := 2) (ok_d_law_line X) (hr.mono (by decide)) tk (by rfl) X.g_d_law_line X.F_d_law_line.kp (bd_d_law_line X) (an_cons (an_cons an_nil)) (ca_cons (ce_v 0) (ca_cons (ce_op op_addA ops_add (ce_op op_addA ops_add (ce_sl sl_Z sls_Z (ce_v 6) (co_none) (co_some (ce_v 7))) (ce_lst (ca_cons (ce_call (n := 2) (ok_d_law_spoilt X) (hr.mono (by decide)) tk (by rfl) X.g_d_law_spoilt X.F_d_law_spoilt.kp (bd_d_law_spoilt X) (an_cons (an_cons an_nil)) (ca_cons (ce_v 0) (ca_cons (ce_op op_addA ops_add (ce_ix ix_seq ops_ix (ce_v 6) (ce_v 7) (fun _ _ => rfl)) (ce_lst (ca_cons (ce_str) (ca_nil)))) (ca_nil)))) (ca_nil)))) (ce_sl sl_Z sls_Z (ce_v 6) (co_some (ce_op op_addA ops_add (ce_v 7) (ce_int))) (co_none))) (ca_nil)))) (ca_nil))))) (css_nil))))))))
    (css_cons (cs_set (j := 8) sc_d_law_wrong_lines.nd rfl (Or.inl rfl) (ce_lst (ca_cons (ce_str) (ca_cons (ce_str) (ca_cons (ce_str) (ca_cons (ce_str) (ca_cons (ce_str) (ca_cons (ce_str) (ca_cons (ce_str) (ca_cons (ce_str) (ca_nil)))))))))))
    (css_cons (cs_expr (ce_bm PySem.F.plainAttrs_list PySem.F.slot_list_append PySem.F.type_list_append mt_append mts_append (ce_v 3) (ca_cons (ce_ix ix_seq ops_ix (ce_v 8) (ce_call (n := 2) (ok_d_law_draw X) (hr.mono (by decide)) tk (by rfl) X.g_d_law_draw X.F_d_law_draw.kp (bd_d_law_draw X) (an_cons (an_cons an_nil)) (ca_cons (ce_v 0) (ca_cons (ce_int) (ca_nil)))) (fun _ _ => rfl)) (ca_nil))))
    (css_cons (cs_set (j := 5) sc_d_law_wrong_lines.nd rfl (Or.inl rfl) (ce_call (n := 2) (ok_d_law_often_end X) (hr.mono (by decide)) tk (by rfl) X.g_d_law_often_end X.F_d_law_often_end.kp (bd_d_law_often_end X) (an_cons (an_cons an_nil)) (ca_cons (ce_v 0) (ca_cons (ce_op op_addA ops_add (ce_callB call_len fns_len (by rfl) X.b_len (by decide +kernel) (ca_cons (ce_v 2) (ca_nil))) (ce_int)) (ca_nil)))))
    (css_cons (cs_expr (ce_bm PySem.F.plainAttrs_list PySem.F.slot_list_append PySem.F.type_list_append mt_append mts_append (ce_v 3) (ca_cons (ce_call (n := 2) (ok_d_law_line X) (hr.mono (by decide)) tk (by rfl) X.g_d_law_line X.F_d_law_line.kp (bd_d_law_line X) (an_cons (an_cons an_nil)) (ca_cons (ce_v 0) (ca_cons (ce_op op_addA ops_add (ce_op op_addA ops_add (ce_sl sl_Z sls_Z (ce_v 2) (co_none) (co_some (ce_v 5))) (ce_lst (ca_cons (ce_lst (ca_nil)) (ca_nil)))) (ce_sl sl_Z sls_Z (ce_v 2) (co_some (ce_v 5)) (co_none))) (ca_nil)))) (ca_nil))))
    (css_cons (cs_expr (ce_bm PySem.F.plainAttrs_list PySem.F.slot_list_append PySem.F.type_list_append mt_append mts_append (ce_v 3) (ca_cons (ce_call (n := 2) (ok_d_law_line X) (hr.mono (by decide)) tk (by rfl) X.g_d_law_line X.F_d_law_line.kp (bd_d_law_line X) (an_cons (an_cons an_nil)) (ca_cons (ce_v 0) (ca_cons (ce_op op_addA ops_add (ce_op op_addA ops_add (ce_sl sl_Z sls_Z (ce_v 2) (co_none) (co_some (ce_v 5))) (ce_lst (ca_cons (ce_lst (ca_cons (ce_str) (ca_cons (ce_str) (ca_cons (ce_str) (ca_cons (ce_str) (ca_cons (ce_str) (ca_nil))))))) (ca_nil)))) (ce_sl sl_Z sls_Z (ce_v 2) (co_some (ce_v 5)) (co_none))) (ca_nil)))) (ca_nil))))
    (css_one (cs_ret (ce_v 3)))))))))) :
      PSs _ _ (Ts _ _ _ b_d_law_wrong_lines))
noncomputable def b_read_dates : MS := sSeq (sAsg (gT 2 (gsC (gN 1) (gsC (gN 2) (gsN)))) (eCall m_dates_from (aCons (eCall m_words_of (aCons (eV 0) (aNil))) (aNil))))
  (sSeq (sIf (tV (e2 dIsNot (eV 2) (eC .non))) (sRaise "BadText" ["line", "word"] (aCons (eC (.int 1)) (aCons (eV 2) (aNil)))) (sNil))
  (sRet (eV 1)))
noncomputable def m_read_dates : List D → Store → R D := fnM 3 1 b_read_dates
theorem ok_read_dates (X : Fx K mg) : FnOk P w K mg base (L2.CX P w) 5 X.a_read_dates X.d_read_dates ["text"] (spM K mg 1 m_read_dates) :=
  okM (k := 4) X.F_read_dates sc_read_dates rfl fun cdv A outer s H E hr tk =>
    (css_cons (cs_asg (ce_call (n := 1) (ok_dates_from X) (hr.mono (by decide)) tk (by rfl) X.g_dates_from X.F_dates_from.kp (bd_dates_from X) (an_cons an_nil) (ca_cons (ce_call (n := 1) (ok_words_of X) (hr.mono (by decide)) tk (by rfl) X.g_words_of X.F_words_of.kp (bd_words_of X) (an_cons an_nil) (ca_cons (ce_v 0) (ca_nil))) (ca_nil))) (cg_tup (n := 2) rfl (cgs_cons (us := [1, 2]) (cg_name (i := 1) sc_read_dates.nd rfl (by first | exact Or.inl rfl | exact Or.inr rfl)) (cgs_cons (us := [2]) (cg_name (i := 2) sc_read_dates.nd rfl (by first | exact Or.inl rfl | exact Or.inr rfl)) (cgs_nil (vs := []))))))
    (css_cons (cs_if (ct_cmp opA_isnot ops_isnot (ce_v 2) (ce_non) (nomark _)) (css_one (cs_raise2 rfl tk X.gc_BadText X.T_BadText X.iC_BadText X.tI_BadText (oi_BadText X) (hr.mono (by decide)) (bi_BadText X) (by rfl) (ca_cons (ce_int) (ca_cons (ce_v 2) (ca_nil))))) (css_nil))
    (css_one (cs_ret (ce_v 1)))) :
      PSs _ _ (Ts _ _ _ b_read_dates))
noncomputable def b_d_law_ask : MS := sSeq (sTryAs 2 ["BadText"] (sSet 1 (eCall m_read_dates (aCons (eV 0) (aNil)))) (fun g => sSeq (sIf (tOr (tNot (tTru (eIsE g 2 "BadText" true))) (tTru (eIsE g 2 "BadText" false))) (sRet (eLst (aCons (eC (.int 2)) (aNil)))) (sNil))
  (sRet (eLst (aCons (eC (.int 1)) (aCons (eFld g 2 "word") (aCons (eFld g 2 "line") (aNil))))))))
  (sRet (eLst (aCons (eC (.int 0)) (aCons (eV 1) (aNil)))))
noncomputable def m_d_law_ask : List D → Store → R D := fnM 3 1 b_d_law_ask
theorem ok_d_law_ask (X : Fx K mg) : FnOk P w K mg base (L2.CX P w) 6 X.a_d_law_ask X.d_d_law_ask ["text"] (spM K mg 1 m_d_law_ask) :=
  okM (k := 5) X.F_d_law_ask sc_d_law_ask rfl fun cdv A outer s H E hr tk =>
    (css_cons (cs_tryAsR (i := 2) (cs := ["BadText"]) rfl rfl sc_d_law_ask.nd rfl rfl ⟨by rfl, by decide, .inl X.gc_BadText⟩  (hcs1 X.gc_BadText X.te_BadText) (fun W pn xe tk => css_one (cs_set (j := 1) sc_d_law_ask.nd rfl (Or.inl rfl) (ce_call (n := 1) (ok_read_dates X) (hr.mono (by decide)) tk (by rfl) X.g_read_dates X.F_read_dates.kp (bd_read_dates X) (an_cons an_nil) (ca_cons (ce_v 0) (ca_nil))))) (fun a oe cls d pn g k hz hf h1 h2 h3 h4 => css_cons (cs_if (PW.pt (cw_or (ct_not (ct_tru (ce_isE1 (hcl1 X.gc_BadText h3 h4) X.EC_BadText hz hf h1 h2 (by rfl) X.b_isinstance (by rfl) X.gc_TextError X.ki_0 (pv 2)))) (cw_or1 (ct_tru (ce_isEm (Cs := [X.c_DataError, X.c_CallError, X.c_DeskError]) (hcl1 X.gc_BadText h3 h4) X.EC_BadText hz hf h1 h2 (by rfl) X.b_isinstance (pa_cons (pe_glob (v := .ref X.c_DataError) (by rfl) X.gc_DataError rfl) (pa_cons (pe_glob (v := .ref X.c_CallError) (by rfl) X.gc_CallError rfl) (pa_cons (pe_glob (v := .ref X.c_DeskError) (by rfl) X.gc_DeskError rfl) (pa_nil)))) (by simp) X.ki_1 (pv 2)))))) (css_one (cs_ret (ce_lst (ca_cons (ce_int) (ca_nil))))) (css_nil))
    (css_one (cs_ret (ce_lst (ca_cons (ce_int) (ca_cons (ce_fld (hxf1 X.gc_BadText X.xf_BadText X.no_BadText_word h3 h4) hz hf h1 h2 (pv 2)) (ca_cons (ce_fld (hxf1 X.gc_BadText X.xf_BadText X.no_BadText_line h3 h4) hz hf h1 h2 (pv 2)) (ca_nil)))))))))
    (css_one (cs_ret (ce_lst (ca_cons (ce_int) (ca_cons (ce_v 1) (ca_nil)))))) :
      PSs _ _ (Ts _ _ _ b_d_law_ask))
noncomputable def b_d_law_right : MS := sSeq (sSet 1 (eCall m_d_law_ask (aCons (eV 0) (aNil))))
  (sSeq (sSet 2 (eCall m_d_law_due (aCons (eV 0) (aNil))))
  (sSeq (sIf (tV (e2 dNe (e2 dIx (eV 1) (eC (.int 0))) (e2 dIx (eV 2) (eC (.int 0))))) (sRet (eC (.bl false))) (sNil))
  (sSeq (sIf (tV (e2 dEq (e2 dIx (eV 2) (eC (.int 0))) (eC (.int 0)))) (sRet (eCall m_d_law_same (aCons (e2 dIx (eV 1) (eC (.int 1))) (aCons (e2 dIx (eV 2) (eC (.int 1))) (aNil))))) (sNil))
  (sRet (eAnd (e1 (dIsi "str") (e2 dIx (eV 1) (eC (.int 1)))) (eAnd (e2 dEq (e2 dIx (eV 1) (eC (.int 1))) (e2 dIx (eV 2) (eC (.int 1)))) (eAnd (eCall m_d_law_is_integer (aCons (e2 dIx (eV 1) (eC (.int 2))) (aNil))) (e2 dEq (e2 dIx (eV 1) (eC (.int 2))) (eC (.int 1))))))))))
noncomputable def m_d_law_right : List D → Store → R D := fnM 3 1 b_d_law_right
theorem ok_d_law_right (X : Fx K mg) : FnOk P w K mg base (L2.CX P w) 7 X.a_d_law_right X.d_d_law_right ["text"] (spM K mg 1 m_d_law_right) :=
  okM (k := 6) X.F_d_law_right sc_d_law_right rfl fun cdv A outer s H E hr tk =>
    (css_cons (cs_set (j := 1) sc_d_law_right.nd rfl (Or.inl rfl) (ce_call (n := 1) (ok_d_law_ask X) (hr.mono (by decide)) tk (by rfl) X.g_d_law_ask X.F_d_law_ask.kp (bd_d_law_ask X) (an_cons an_nil) (ca_cons (ce_v 0) (ca_nil))))
    (css_cons (cs_set (j := 2) sc_d_law_right.nd rfl (Or.inl rfl) (ce_call (n := 1) (ok_d_law_due X) (hr.mono (by decide)) tk (by rfl) X.g_d_law_due X.F_d_law_due.kp (bd_d_law_due X) (an_cons an_nil) (ca_cons (ce_v 0) (ca_nil))))
    (css_cons (cs_if (ct_cmp (opA_ne hr.units) ops_ne (ce_ix ix_seq ops_ix (ce_v 1) (ce_int) (fun _ _ => rfl)) (ce_ix ix_seq ops_ix (ce_v 2) (ce_int) (fun _ _ => rfl)) (nomark _)) (css_one (cs_ret (ce_bl))) (css_nil))
    (css_cons (cs_if (ct_cmp (opA_eq hr.units) ops_eq (ce_ix ix_seq ops_ix (ce_v 2) (ce_int) (fun _ _ => rfl)) (ce_int) (nomark _)) (css_one (cs_ret (ce_call (n := 2) (ok_d_law_same X) (hr.mono (by decide)) tk (by rfl) X.g_d_law_same X.F_d_law_same.kp (bd_d_law_same X) (an_cons (an_cons an_nil)) (ca_cons (ce_ix ix_seq ops_ix (ce_v 1) (ce_int) (fun _ _ => rfl)) (ca_cons (ce_ix ix_seq ops_ix (ce_v 2) (ce_int) (fun _ _ => rfl)) (ca_nil)))))) (css_nil))
    (css_one (cs_ret (ce_and (ce_isi (T := "str") (by rfl) X.b_isinstance (by rfl) X.b_str (by decide +kernel) (ce_ix ix_seq ops_ix (ce_v 1) (ce_int) (fun _ _ => rfl))) (ce_and (ce_cmp (opA_eq hr.units) ops_eq (ce_ix ix_seq ops_ix (ce_v 1) (ce_int) (fun _ _ => rfl)) (ce_ix ix_seq ops_ix (ce_v 2) (ce_int) (fun _ _ => rfl)) (nomark _)) (ce_and (ce_call (n := 1) (ok_d_law_is_integer X) (hr.mono (by decide)) tk (by rfl) X.g_d_law_is_integer X.F_d_law_is_integer.kp (bd_d_law_is_integer X) (an_cons an_nil) (ca_cons (ce_ix ix_seq ops_ix (ce_v 1) (ce_int) (fun _ _ => rfl)) (ca_nil))) (ce_one (ce_cmp (opA_eq hr.units) ops_eq (ce_ix ix_seq ops_ix (ce_v 1) (ce_int) (fun _ _ => rfl)) (ce_int) (nomark _))))))))))) :
      PSs _ _ (Ts _ _ _ b_d_law_right))
noncomputable def bl_law_1 : MS := sSeq (sIf (tNot (tTru (eCall m_d_law_right (aCons (eV 7) (aNil))))) (sRet (eC (.bl false))) (sNil))
  (sSet 6 (e2 dAdd (eV 6) (e2 dIx (eCall m_d_law_due (aCons (eV 7) (aNil))) (eC (.int 0)))))
noncomputable def le_law_2 : ME D := eCall m_d_law_stretch_words (aCons (eV 1) (aCons (eV 8) (aNil)))
noncomputable def le_law_3 : ME D := eCall m_d_law_stretch_words (aCons (eV 1) (aCons (eV 8) (aNil)))
noncomputable def bl_law_4 : MS := sSeq (sSet 4 (eCall m_dates_text (aCons (eV 3) (aNil))))
  (sSeq (sIf (tOr (tNot (tTru (e1 (dIsi "str") (eV 4)))) (tOr (tV (e2 dNe (eV 4) (eCall m_d_law_text (aCons (eV 3) (aNil))))) (tNot (tTru (eCall m_d_law_right (aCons (eCall m_d_law_text (aCons (eV 3) (aNil))) (aNil))))))) (sRet (eC (.bl false))) (sNil))
  (sIf (tNot (tTru (eCall m_d_law_same (aCons (eCall m_read_dates (aCons (eCall m_d_law_text (aCons (eV 3) (aNil))) (aNil))) (aCons (eV 3) (aNil)))))) (sRet (eC (.bl false))) (sNil)))
noncomputable def b_law : MS := sSeq (sSet 1 (eCall m_d_law_pool (aCons (eV 0) (aNil))))
  (sSeq (sSet 2 (eCall m_d_law_dates (aCons (eV 1) (aCons (e2 dAdd (eC (.int 1)) (eCall m_d_law_often_end (aCons (eV 1) (aCons (eC (.int 12)) (aNil))))) (aNil)))))
  (sSeq (sFor (iSeq (eLst (aCons (eV 2) (aCons (eCall m_d_law_dates (aCons (eV 1) (aCons (eCall m_d_law_often_end (aCons (eV 1) (aCons (eC (.int 4)) (aNil)))) (aNil)))) (aCons (eTup (aNil)) (aNil)))))) (gN 3) (bl_law_4))
  (sSeq (sSet 5 (eCall m_d_law_line (aCons (eV 1) (aCons (eLc (iSeq (eCall m_d_law_more_pairs (aCons (eV 1) (aCons (eV 2) (aNil))))) [8] (gN 8) (tT) (le_law_3)) (aNil)))))
  (sSeq (sIf (tOr (tNot (tTru (eCall m_d_law_right (aCons (eV 5) (aNil))))) (tNot (tTru (eCall m_d_law_same (aCons (eCall m_read_dates (aCons (eV 5) (aNil))) (aCons (eV 2) (aNil))))))) (sRet (eC (.bl false))) (sNil))
  (sSeq (sIf (tNot (tTru (eCall m_d_law_right (aCons (eCall m_d_law_line (aCons (eV 1) (aCons (eLc (iSeq (eCall m_d_law_free_pairs (aCons (eV 1) (aNil)))) [8] (gN 8) (tT) (le_law_2)) (aNil)))) (aNil))))) (sRet (eC (.bl false))) (sNil))
  (sSeq (sSet 6 (eC (.int 0)))
  (sSeq (sFor (iSeq (eCall m_d_law_wrong_lines (aCons (eV 1) (aCons (eFn dList (aCons (eV 2) (aNil))) (aNil))))) (gN 7) (bl_law_1))
  (sRet (eAnd (e2 dGe (eV 6) (eC (.int 3))) (eAnd (eCall m_d_law_right (aCons (eC (.str "  never ")) (aNil))) (eCall m_d_law_right (aCons (eV 5) (aNil)))))))))))))
noncomputable def m_law : List D → Store → R D := fnM 9 1 b_law
theorem ok_law (X : Fx K mg) : FnOk P w K mg base (L2.CX P w) 8 X.a_law X.d_law ["script"] (spM K mg 1 m_law) :=
  okM (k := 7) X.F_law sc_law rfl fun cdv A outer s H E hr tk =>
    (css_cons (cs_set (j := 1) sc_law.nd rfl (Or.inr rfl) (ce_call (n := 1) (ok_d_law_pool X) (hr.mono (by decide)) tk (by rfl) X.g_d_law_pool X.F_d_law_pool.kp (bd_d_law_pool X) (an_cons an_nil) (ca_cons (ce_v 0) (ca_nil))))
    (css_cons (cs_set (j := 2) sc_law.nd rfl (Or.inl rfl) (ce_call (n := 2) (ok_d_law_dates X) (hr.mono (by decide)) tk (by rfl) X.g_d_law_dates X.F_d_law_dates.kp (bd_d_law_dates X) (an_cons (an_cons an_nil)) (ca_cons (ce_v 1) (ca_cons (ce_op op_addA ops_add (ce_int) (ce_call (n := 2) (ok_d_law_often_end X) (hr.mono (by decide)) tk (by rfl) X.g_d_law_often_end X.F_d_law_often_end.kp (bd_d_law_often_end X) (an_cons (an_cons an_nil)) (ca_cons (ce_v 1) (ca_cons (ce_int) (ca_nil))))) (ca_nil)))))
    (css_cons (cs_for (passes_of rfl) rfl (ci_seq (ce_lst (ca_cons (ce_v 2) (ca_cons (ce_call (n := 2) (ok_d_law_dates X) (hr.mono (by decide)) tk (by rfl) X.g_d_law_dates X.F_d_law_dates.kp (bd_d_law_dates X) (an_cons (an_cons an_nil)) (ca_cons (ce_v 1) (ca_cons (ce_call (n := 2) (ok_d_law_often_end X) (hr.mono (by decide)) tk (by rfl) X.g_d_law_often_end X.F_d_law_often_end.kp (bd_d_law_often_end X) (an_cons (an_cons an_nil)) (ca_cons (ce_v 1) (ca_cons (ce_int) (ca_nil)))) (ca_nil)))) (ca_cons (ce_tup (ca_nil)) (ca_nil)))))) (cg_name (i := 3) sc_law.nd rfl (by first | exact Or.inl rfl | exact Or.inr rfl)) (css_cons (cs_set (j := 4) sc_law.nd rfl (Or.inl rfl) (ce_call (n := 1) (ok_dates_text X) (hr.mono (by decide)) tk (by rfl) X.g_dates_text X.F_dates_text.kp (bd_dates_text X) (an_cons an_nil) (ca_cons (ce_v 3) (ca_nil))))
    (css_cons (cs_if (PW.pt (cw_or (ct_not (ct_tru (ce_isi (T := "str") (by rfl) X.b_isinstance (by rfl) X.b_str (by decide +kernel) (ce_v 4)))) (cw_or (ct_cmp (opA_ne hr.units) ops_ne (ce_v 4) (ce_call (n := 1) (ok_d_law_text X) (hr.mono (by decide)) tk (by rfl) X.g_d_law_text X.F_d_law_text.kp (bd_d_law_text X) (an_cons an_nil) (ca_cons (ce_v 3) (ca_nil))) (nomark _)) (cw_or1 (ct_not (ct_tru (ce_call (n := 1) (ok_d_law_right X) (hr.mono (by decide)) tk (by rfl) X.g_d_law_right X.F_d_law_right.kp (bd_d_law_right X) (an_cons an_nil) (ca_cons (ce_call (n := 1) (ok_d_law_text X) (hr.mono (by decide)) tk (by rfl) X.g_d_law_text X.F_d_law_text.kp (bd_d_law_text X) (an_cons an_nil) (ca_cons (ce_v 3) (ca_nil))) (ca_nil))))))))) (css_one (cs_ret (ce_bl))) (css_nil))
    (css_one (cs_if (ct_not (ct_tru (ce_call (n := 2) (ok_d_law_same X) (hr.mono (by decide)) tk (by rfl) X.g_d_law_same X.F_d_law_same.kp (bd_d_law_same X) (an_cons (an_cons an_nil)) (ca_cons (ce_call (n := 1) (ok_read_dates X) (hr.mono (by decide)) tk (by rfl) X.g_read_dates X.F_read_dates.kp (bd_read_dates X) (an_cons an_nil) (ca_cons (ce_call (n := 1) (ok_d_law_text X) (hr.mono (by decide)) tk (by rfl) X.g_d_law_text X.F_d_law_text.kp (bd_d_law_text X) (an_cons an_nil) (ca_cons (ce_v 3) (ca_nil))) (ca_nil))) (ca_cons (ce_v 3) (ca_nil)))))) (css_one (cs_ret (ce_bl))) (css_nil))))))
    (css_cons (cs_set (j := 5) sc_law.nd rfl (Or.inl rfl) (ce_call (n := 2) (ok_d_law_line X) (hr.mono (by decide)) tk (by rfl) X.g_d_law_line X.F_d_law_line.kp (bd_d_law_line X) (an_cons (an_cons an_nil)) (ca_cons (ce_v 1) (ca_cons (ce_lc (own := [("pair", 8)]) rfl sc_law.nd (ci_seq (ce_call (n := 2) (ok_d_law_more_pairs X) (hr.mono (by decide)) tk (by rfl) X.g_d_law_more_pairs X.F_d_law_more_pairs.kp (bd_d_law_more_pairs X) (an_cons (an_cons an_nil)) (ca_cons (ce_v 1) (ca_cons (ce_v 2) (ca_nil))))) (blkOk_by (N := ["script", "pool", "dates", "one", "told", "first", "refused", "line", "pair"]) (sc := defScope s_law) (by decide +kernel)) (fun _ _ _ _ _ => cg_name (i := 8) sc_law.nd rfl (by first | exact Or.inl rfl | exact Or.inr rfl)) (fun _ _ _ _ _ => cts_nil) (fun _ _ _ _ _ => ce_call (n := 2) (ok_d_law_stretch_words X) (hr.mono (by decide)) takes0 (by rfl) X.g_d_law_stretch_words X.F_d_law_stretch_words.kp (bd_d_law_stretch_words X) (an_cons (an_cons an_nil)) (ca_cons (ce_v 1) (ca_cons (ce_v 8) (ca_nil))))) (ca_nil)))))
    (css_cons (cs_if (PW.pt (cw_or (ct_not (ct_tru (ce_call (n := 1) (ok_d_law_right X) (hr.mono (by decide)) tk (by rfl) X.g_d_law_right X.F_d_law_right.kp (bd_d_law_right X) (an_cons an_nil) (ca_cons (ce_v 5) (ca_nil))))) (cw_or1 (ct_not (ct_tru (ce_call (n := 2) (ok_d_law_same X) (hr.mono (by decide)) tk (by rfl) X.g_d_law_same X.F_d_law_same.kp (bd_d_law_same X) (an_cons (an_cons an_nil)) (ca_cons (ce_call (n := 1) (ok_read_dates X) (hr.mono (by decide)) tk (by rfl) X.g_read_dates X.F_read_dates.kp (bd_read_dates X) (an_cons an_nil) (ca_cons (ce_v 5) (ca_nil))) (ca_cons (ce_v 2) (ca_nil))))))))) (css_one (cs_ret (ce_bl))) (css_nil))
    (css_cons (cs_if (ct_not (ct_tru (ce_call (n := 1) (ok_d_law_right X) (hr.mono (by decide)) tk (by rfl) X.g_d_law_right X.F_d_law_right.kp (bd_d_law_right X) (an_cons an_nil) (ca_cons (ce_call (n := 2) (ok_d_law_line X) (hr.mono (by decide)) tk (by rfl) X.g_d_law_line X.F_d_law_line.kp (bd_d_law_line X) (an_cons (an_cons an_nil)) (ca_cons (ce_v 1) (ca_cons (ce_lc (own := [("pair", 8)]) rfl sc_law.nd (ci_seq (ce_call (n := 1) (ok_d_law_free_pairs X) (hr.mono (by decide)) tk (by rfl) X.g_d_law_free_pairs X.F_d_law_free_pairs.kp (bd_d_law_free_pairs X) (an_cons an_nil) (ca_cons (ce_v 1) (ca_nil)))) (blkOk_by (N := ["script", "pool", "dates", "one", "told", "first", "refused", "line", "pair"]) (sc := defScope s_law) (by decide +kernel)) (fun _ _ _ _ _ => cg_name (i := 8) sc_law.nd rfl (by first | exact Or.inl rfl | exact Or.inr rfl)) (fun _ _ _ _ _ => cts_nil) (fun _ _ _ _ _ => ce_call (n := 2) (ok_d_law_stretch_words X) (hr.mono (by decide)) takes0 (by rfl) X.g_d_law_stretch_words X.F_d_law_stretch_words.kp (bd_d_law_stretch_words X) (an_cons (an_cons an_nil)) (ca_cons (ce_v 1) (ca_cons (ce_v 8) (ca_nil))))) (ca_nil)))) (ca_nil))))) (css_one (cs_ret (ce_bl))) (css_nil))
    (css_cons (cs_set (j := 6) sc_law.nd rfl (Or.inl rfl) (ce_int))
    (css_cons (cs_for (passes_of rfl) rfl (ci_seq (ce_call (n := 2) (ok_d_law_wrong_lines X) (hr.mono (by decide)) tk (by rfl) X.g_d_law_wrong_lines X.F_d_law_wrong_lines.kp (bd_d_law_wrong_lines X) (an_cons (an_cons an_nil)) (ca_cons (ce_v 1) (ca_cons (ce_callTy call_list_of fns_list (by rfl) X.b_list (by decide +kernel) (ca_cons (ce_v 2) (ca_nil))) (ca_nil))))) (cg_name (i := 7) sc_law.nd rfl (by first | exact Or.inl rfl | exact Or.inr rfl)) (css_cons (cs_if (ct_not (ct_tru (ce_call (n := 1) (ok_d_law_right X) (hr.mono (by decide)) tk (by rfl) X.g_d_law_right X.F_d_law_right.kp (bd_d_law_right X) (an_cons an_nil) (ca_cons (ce_v 7) (ca_nil))))) (css_one (cs_ret (ce_bl))) (css_nil))
    (css_one (cs_set (j := 6) sc_law.nd rfl (Or.inl rfl) (ce_op op_addA ops_add (ce_v 6) (ce_ix ix_seq ops_ix (ce_call (n := 1) (ok_d_law_due X) (hr.mono (by decide)) tk (by rfl) X.g_d_law_due X.F_d_law_due.kp (bd_d_law_due X) (an_cons an_nil) (ca_cons (ce_v 7) (ca_nil))) (ce_int) (fun _ _ => rfl)))))))
    (css_one (cs_ret (ce_and (ce_cmp opA_ge ops_ge (ce_v 6) (ce_int) (nomark _)) (ce_and (ce_call (n := 1) (ok_d_law_right X) (hr.mono (by decide)) tk (by rfl) X.g_d_law_right X.F_d_law_right.kp (bd_d_law_right X) (an_cons an_nil) (ca_cons (ce_str) (ca_nil))) (ce_one (ce_call (n := 1) (ok_d_law_right X) (hr.mono (by decide)) tk (by rfl) X.g_d_law_right X.F_d_law_right.kp (bd_d_law_right X) (an_cons an_nil) (ca_cons (ce_v 5) (ca_nil))))))))))))))) :
      PSs _ _ (Ts _ _ _ b_law))
end Law
namespace Law
open PySem PySem.Spec PyProof.Rows L2 Mi
/-- the pool: a list of ints, not empty -/
def Pool (p : Nat) (s : Store) : Prop := ∃ x xs, s[p]? = some (.lst (.int x :: xs)) ∧ Ints xs ∧ xs.length ≤ 100
theorem draw_spec {p : Nat} {s : Store} (h : Pool p s) {many : Int} (h0 : 0 < many) (h1 : many < 1073741824) :
    ∃ k s', m_d_law_draw [.loc p, .int many] s = .ok (.int k) s' ∧ 0 ≤ k ∧ k < many ∧ Pool p s' ∧ Kp p s s' := by
  obtain ⟨x, xs, hs, ⟨ns, hx⟩, hl⟩ := h
  cases hn : ns.reverse with
  | nil =>
    have e : ns = [] := by simpa using hn
    subst e
    subst hx
    have hs' : s[p]? = some (.lst [.int x]) := hs
    simp [m_d_law_draw, b_d_law_draw, dLen_loc hs, dIxZ_loc hs', dIx_loc hs', pList_zero hs', dIxZ_loc (get_set hs'), dIx_loc (get_set hs'), h0]
    exact ⟨_, _, ⟨rfl, rfl⟩, Int.emod_nonneg _ (by omega), Int.emod_lt_of_pos _ h0, ⟨_, [], get_set hs', ⟨[], rfl⟩, by simp⟩, Kp.set _ _ _⟩
  | cons y r =>
    have e : ns = r.reverse ++ [y] := by rw [← List.reverse_reverse ns, hn, List.reverse_cons]
    subst e
    obtain ⟨L, hL⟩ : ∃ L, L = D.int x :: r.reverse.map D.int := ⟨_, rfl⟩
    have hs' : s[p]? = some (.lst (L ++ [.int y])) := by rw [hs, hx, hL]; simp
    have hl2 : L.length ≤ 100 := by
      rw [hx] at hl
      rw [hL]
      simp at hl ⊢
      omega
    have h3 : (1 : Int) < L.length + 1 := by
      rw [hL]
      simp
      omega
    have w1 := dPop_loc hs'
    have g1 := get_set (c' := .lst L) hs'
    have w2 := dAppend_loc g1 (by omega)
    have fin : ∀ s', s'[p]? = some (.lst L) → Pool p s' := fun s' h => ⟨x, r.reverse.map D.int, by rw [h, hL], ⟨_, rfl⟩, by rw [hL] at hl2; simp at hl2 ⊢; omega⟩
    by_cases hy : many ≤ y
    · simp [m_d_law_draw, b_d_law_draw, dLen_loc hs', tyOk_list hs', w1, w2, tyOk_list g1, hy, h0, h1, h3]
      refine ⟨_, _, ⟨rfl, rfl⟩, Int.emod_nonneg _ (by omega), Int.emod_lt_of_pos _ h0, ⟨x, r.reverse.map D.int ++ [.int (y / many)], ?_, ⟨r.reverse ++ [y / many], by simp⟩, by rw [hL] at hl2; simp at hl2 ⊢; omega⟩, Kp.set _ _ _⟩
      rw [get_set hs', hL]
      rfl
    · simp [m_d_law_draw, b_d_law_draw, dLen_loc hs', tyOk_list hs', w1, hy, h0, h1, h3]
      exact ⟨_, _, ⟨rfl, rfl⟩, Int.emod_nonneg _ (by omega), Int.emod_lt_of_pos _ h0, fin _ (get_set hs'), Kp.set _ _ _⟩
theorem often_spec {p : Nat} {s : Store} (h : Pool p s) {many : Int} (h0 : 0 < many) (h1 : many < 1073741824) :
    ∃ k s', m_d_law_often_end [.loc p, .int many] s = .ok (.int k) s' ∧ 0 ≤ k ∧ k < many ∧ Pool p s' ∧ Kp p s s' := by
  obtain ⟨k, s1, e1, k0, k1, h', kp⟩ := draw_spec h (many := 6) (by omega) (by omega)
  obtain ⟨k2, s2, e2, k20, k21, h2, kp2⟩ := draw_spec h' h0 h1
  by_cases c0 : k = 0
  · simp [m_d_law_often_end, b_d_law_often_end, e1, c0]
    exact ⟨_, _, ⟨rfl, rfl⟩, by omega, h0, h', kp⟩
  · by_cases c1 : k = 1
    · simp [m_d_law_often_end, b_d_law_often_end, e1, c1]
      exact ⟨_, _, ⟨rfl, rfl⟩, by omega, by omega, h', kp⟩
    · simp [m_d_law_often_end, b_d_law_often_end, e1, c0, c1, e2]
      exact ⟨_, _, ⟨rfl, rfl⟩, k20, k21, h2, kp.trans kp2⟩
def PoolI (ns ms : List Int) (rest : List D) (env : Sl) (s : Store) : Prop := ∃ m o3 o4 gs, env = [some (.fl (ns.map D.int)), some (.int m), some (.loc 0), o3, o4] ∧ s = [.lst gs, .lst (ms.map D.int)] ∧ Ints gs ∧ gs.length + rest.length ≤ 63 ∧ Ints rest
theorem pool_spec (ns : List Int) (hn : ns.length ≤ 63) : ∃ p s, m_d_law_pool [.fl (ns.map D.int)] [] = .ok (.loc p) s ∧ Pool p s := by
  simp [m_d_law_pool, b_d_law_pool, dSl]
  have hc := cut_ints ⟨ns, rfl⟩ none (some 63)
  have hl := cut_len (ns.map D.int) none (some 63)
  generalize Mi.cutD (ns.map D.int) none (some 63) = cs at hc hl
  simp at hl
  obtain ⟨ms, rfl⟩ := hc
  simp at hl
  obtain ⟨env', s', e, m, o3, o4, gs, rfl, rfl, hg1, hg2, _⟩ := forL_thru (gd := fun s2 => s2[1]? = some (Cell.lst (ms.map D.int))) (g := gN 3) (b := bl_d_law_pool_1) (PoolI ns ms)
    (xs := ms.map D.int) (env := [some (.fl (ns.map D.int)), some (.int 40009), some (.loc 0), none, none]) (s := [.lst [], .lst (ms.map D.int)])
    (fun xs env s ⟨m, o3, o4, gs, h1, h2, _⟩ => by subst h2; rfl)
    (fun x xs env s ⟨m, o3, o4, gs, h1, h2, h3, h4, h5⟩ => by
      subst h1 h2
      obtain ⟨ks, hk⟩ := h5
      cases ks with
      | nil => cases hk
      | cons k ks =>
        obtain ⟨rfl, rfl⟩ := List.cons.inj hk
        obtain ⟨gn, rfl⟩ := h3
        simp at h4
        have w := dAppend_loc (s := [.lst (gn.map D.int), .lst (ms.map D.int)]) (l := 0) rfl (by simp; omega)
        have more : ∀ m o3 o4 z, PoolI ns ms (ks.map D.int) [some (.fl (ns.map D.int)), some (.int m), some (.loc 0), o3, o4] [.lst (gn.map D.int ++ [.int z]), .lst (ms.map D.int)] := fun m o3 o4 z =>
          ⟨_, _, _, _, rfl, rfl, ⟨gn ++ [z], by rw [List.map_append]; rfl⟩, by simp; omega, ⟨ks, rfl⟩⟩
        have same : ∀ m o3 o4, PoolI ns ms (ks.map D.int) [some (.fl (ns.map D.int)), some (.int m), some (.loc 0), o3, o4] [.lst (gn.map D.int), .lst (ms.map D.int)] := fun m o3 o4 =>
          ⟨_, _, _, _, rfl, rfl, ⟨gn, rfl⟩, by simp; omega, ⟨ks, rfl⟩⟩
        by_cases c1 : k < 0
        · by_cases c2 : (1000000000000000000 : Int) ≤ 9 - 2 * k <;> simp [bl_d_law_pool_1, c1, c2, tyOk, w, dMul_l, more, same]
        · by_cases c2 : (1000000000000000000 : Int) ≤ k <;> simp [bl_d_law_pool_1, c1, c2, tyOk, w, dMul_l, more, same])
    ⟨_, _, _, _, rfl, rfl, ⟨[], rfl⟩, by simp; omega, ⟨ms, rfl⟩⟩
  rw [e]
  obtain ⟨gn, rfl⟩ := hg1
  simp at hg2
  have w := dAdd_loc (s := [.lst (gn.map D.int), .lst (ms.map D.int), .lst [.int m]]) (l := 2) (k := 0) rfl rfl (by simp; omega)
  simp [w]
  exact ⟨_, _, ⟨rfl, rfl⟩, m, gn.map D.int, rfl, ⟨gn, rfl⟩, by simp; omega⟩
end Law
namespace Law
open PySem Mi
/-! ### words of a line -/
abbrev tl (z : Str) : List Nat := z.cps.toList
theorem tl_ext {x y : Str} (h : tl x = tl y) : x = y := TL.ext_tl h
theorem tl_app (x y : Str) : tl (x ++ y) = tl x ++ tl y := by
  show (x.cps ++ y.cps).toList = _
  simp
theorem tl_len (x : Str) : (tl x).length = x.length := by simp [tl, Str.length]
def cut (acc l : List Nat) : List (List Nat) := TL.spl [32] 0 acc l
theorem cut_nil (acc : List Nat) : cut acc [] = [acc] := TL.spl_nil _ _ _
theorem cut_cons (acc r : List Nat) (c : Nat) : cut acc (c :: r) = if c = 32 then acc :: cut [] r else cut (acc ++ [c]) r := by
  unfold cut
  rw [TL.spl]
  have : TL.pre [32] (c :: r) = decide (c = 32) := by
    unfold TL.pre
    simp [Bool.beq_eq_decide_eq]
  rw [this]
  by_cases h : c = 32 <;> simp [h]
def ne0 (l : List (List Nat)) : List (List Nat) := l.filter fun w => !w.isEmpty
def wla (acc l : List Nat) : List (List Nat) := ne0 (cut acc l)
theorem wla_sp : ∀ (l acc r : List Nat), wla acc (l ++ 32 :: r) = wla acc l ++ wla [] r
  | [], acc, r => by
    unfold wla ne0
    rw [List.nil_append, cut_cons, if_pos rfl, cut_nil, List.filter_cons]
    cases acc <;> simp
  | c :: l, acc, r => by
    have q1 := cut_cons acc (l ++ 32 :: r) c
    have q2 := cut_cons acc l c
    unfold wla
    rw [List.cons_append, q1, q2]
    by_cases h : c = 32
    · rw [if_pos h, if_pos h]
      have ih := wla_sp l [] r
      unfold wla ne0 at ih
      unfold ne0
      rw [List.filter_cons, List.filter_cons, ih]
      cases acc <;> simp
    · rw [if_neg h, if_neg h]
      exact wla_sp l (acc ++ [c]) r
theorem wla_w : ∀ (w acc : List Nat), 32 ∉ w → wla acc w = ne0 [acc ++ w]
  | [], acc, _ => by unfold wla; rw [cut_nil, List.append_nil]
  | c :: w, acc, h => by
    have h1 : c ≠ 32 := fun e => h (by rw [e]; exact List.mem_cons_self)
    unfold wla
    rw [cut_cons, if_neg h1]
    have := wla_w w (acc ++ [c]) (fun z => h (List.mem_cons_of_mem _ z))
    unfold wla at this
    rw [this, List.append_assoc]
    rfl
def W (l : List Nat) : List (List Nat) := wla [] l
theorem W_nil : W [] = [] := by rw [W, wla_w _ _ (by simp)]; rfl
theorem W_word {w : List Nat} (h : 32 ∉ w) : W w = ne0 [w] := by rw [W, wla_w _ _ h]; rfl
theorem W_sp (l r : List Nat) : W (l ++ 32 :: r) = W l ++ W r := wla_sp l [] r
theorem W_spaces (l : List Nat) : ∀ k, W (l ++ List.replicate k 32) = W l
  | 0 => by simp
  | k + 1 => by
    rw [List.replicate_succ', ← List.append_assoc, W_sp, W_nil, List.append_nil, W_spaces l k]
theorem W_next (l : List Nat) (k : Nat) {w : List Nat} (h : 32 ∉ w) : W (l ++ List.replicate (k + 1) 32 ++ w) = W l ++ ne0 [w] := by
  have e : l ++ List.replicate (k + 1) 32 ++ w = (l ++ List.replicate k 32) ++ 32 :: w := by rw [List.replicate_succ']; simp
  rw [e, W_sp, W_spaces, W_word h]
theorem W_first (k : Nat) {w : List Nat} (h : 32 ∉ w) : W (List.replicate k 32 ++ w) = ne0 [w] := by
  cases k with
  | zero => rw [List.replicate_zero, List.nil_append]; exact W_word h
  | succ k =>
    have := W_next [] k h
    rw [List.nil_append, W_nil] at this
    simpa using this
/-- every word is a word -/
theorem cut_mem : ∀ (l acc : List Nat), 32 ∉ acc → ∀ w ∈ cut acc l, 32 ∉ w ∧ w.length ≤ acc.length + l.length
  | [], acc, h, w, hw => by
    rw [cut_nil] at hw
    rw [List.mem_singleton.mp hw]
    exact ⟨h, by simp⟩
  | c :: l, acc, h, w, hw => by
    rw [cut_cons] at hw
    by_cases hc : c = 32
    · rw [if_pos hc] at hw
      rcases List.mem_cons.mp hw with rfl | hw
      · exact ⟨h, by simp⟩
      · have := cut_mem l [] (by simp) w hw
        exact ⟨this.1, by simp at this ⊢; omega⟩
    · rw [if_neg hc] at hw
      have := cut_mem l (acc ++ [c]) (by simp [h]; exact fun e => hc e.symm) w hw
      exact ⟨this.1, by simp at this ⊢; omega⟩
theorem cut_len : ∀ (l acc : List Nat), (cut acc l).length ≤ l.length + 1
  | [], acc => by rw [cut_nil]; simp
  | c :: l, acc => by
    rw [cut_cons]
    by_cases hc : c = 32
    · rw [if_pos hc, List.length_cons]; have := cut_len l []; simp; omega
    · rw [if_neg hc]; have := cut_len l (acc ++ [c]); simp; omega
def words (t : Str) : List Str := (Txt.split t " ").filter fun w => !decide (w = "")
theorem split_cut (t : Str) : (Txt.split t " ").map tl = cut [] (tl t) := by
  have := TL.split_spl t " " (by decide +kernel) (TL.kind_ok (by decide +kernel))
  have e : TL.tl (" " : Str) = [32] := by decide +kernel
  rw [e] at this
  exact this
theorem empty_iff (w : Str) : decide (w = "") = (tl w).isEmpty := by
  by_cases h : w = ""
  · subst h; decide +kernel
  · have : ¬ (tl w).isEmpty = true := fun z => h (tl_ext (by rw [List.isEmpty_iff.mp z]; decide +kernel))
    simp [h, this]
theorem words_W (t : Str) : (words t).map tl = W (tl t) := by
  unfold words W wla ne0
  rw [← split_cut, List.filter_map]
  refine congrArg (List.map tl) (List.filter_congr fun w _ => ?_)
  rw [empty_iff]
  rfl
theorem words_of_W {t : Str} {ws : List Str} (h : W (tl t) = ws.map tl) : words t = ws := by
  have e := (words_W t).trans h
  have inj : ∀ (a b : List Str), a.map tl = b.map tl → a = b := fun a => by
    induction a with
    | nil => intro b h; cases b with | nil => rfl | cons _ _ => cases h
    | cons x a ih =>
      intro b h
      cases b with
      | nil => cases h
      | cons y b =>
        simp only [List.map_cons, List.cons.injEq] at h
        rw [tl_ext h.1, ih b h.2]
  exact inj _ _ e
theorem words_mem {t w : Str} (h : w ∈ words t) : tl w ≠ [] ∧ 32 ∉ tl w ∧ w.length ≤ t.length := by
  have hm : tl w ∈ (words t).map tl := List.mem_map.mpr ⟨w, h, rfl⟩
  rw [words_W] at hm
  obtain ⟨h1, h2⟩ := List.mem_filter.mp hm
  have := cut_mem (tl t) [] (by simp) _ h1
  refine ⟨fun z => ?_, this.1, ?_⟩
  · rw [z] at h2; simp at h2
  · have q := this.2
    have a := tl_len w
    have b := tl_len t
    rw [List.length_nil, Nat.zero_add] at q
    omega
theorem split_len (t : Str) : (Txt.split t " ").length ≤ t.length + 1 := by
  have := cut_len (tl t) []
  rw [← split_cut, List.length_map, tl_len] at this
  exact this
/-! ### the mirrors' words -/
theorem fm_str (p : Str → Bool) (A : List Str) : (A.filterMap fun o => if p o = true then some (D.str o) else none) = (A.filter p).map D.str := by
  induction A with
  | nil => rfl
  | cons a A ih =>
    rw [List.filterMap_cons, List.filter_cons]
    by_cases c : p a = true
    · simp [c, ih]
    · simp [c, ih]
def nonE (w : Str) : Bool := !decide (w = "")
theorem wordsof_spec {t : Str} (h : t.length ≤ 100000) (s : Store) : ∃ s', m_words_of [.str t] s = .ok (.loc (s.length + 1)) s' ∧ s'[s.length + 1]? = some (.lst ((words t).map D.str)) ∧ Ext s s' := by
  have e1 := dSplit_str (a := t) (b := " ") (by decide +kernel) (by omega) s
  have g1 := get_new s (.lst ((Txt.split t " ").map D.str))
  have hl := split_len t
  have x1 := Ext.mk s [Cell.lst ((Txt.split t " ").map D.str)]
  obtain ⟨s1, hs1⟩ : ∃ s1, s1 = s ++ [Cell.lst ((Txt.split t " ").map D.str)] := ⟨_, rfl⟩
  have l1 : s1.length = s.length + 1 := by rw [hs1]; simp
  rw [← hs1] at e1 g1 x1
  have e2 := lcL_fm (gd := fun s2 => s2[s.length]? = some (Cell.lst ((Txt.split t " ").map D.str))) (g := gN 1) (t := lt_words_of_1) (e := le_words_of_2) (env := [some (.str t), none]) (s := s1) g1 D.str (fun o => if nonE o = true then some (D.str o) else none) (Txt.split t " ") [] (fun o _ => by
    by_cases c : o = "" <;> simp [lt_words_of_1, le_words_of_2, pick, c, nonE]) (by simp; omega)
  rw [fm_str, List.nil_append] at e2
  have ew : (Txt.split t " ").filter nonE = words t := rfl
  rw [ew] at e2
  refine ⟨s1 ++ [.lst ((words t).map D.str)], ?_, by rw [← l1]; exact get_new _ _, x1.trans (Ext.mk _ _)⟩
  rw [← l1]
  clear l1 hs1
  generalize (Txt.split t " ").map D.str = SP at *
  generalize (words t).map D.str = WS at *
  simp [m_words_of, b_words_of, e1, g1, e2]
end Law
namespace Law
open PySem Mi
/-! ### digits -/
def dg (c : Nat) : Bool := decide (48 ≤ c) && decide (c ≤ 57)
def digs (z : Str) : Bool := (tl z).all dg
theorem figs : tl ("0123456789" : Str) = [48, 49, 50, 51, 52, 53, 54, 55, 56, 57] := by decide +kernel
theorem in_figs (c : Nat) : decide (c ∈ tl ("0123456789" : Str)) = dg c := by
  rw [figs]
  unfold dg
  simp only [List.mem_cons, List.mem_nil_iff, or_false]
  by_cases h : 48 ≤ c ∧ c ≤ 57
  · have : c = 48 ∨ c = 49 ∨ c = 50 ∨ c = 51 ∨ c = 52 ∨ c = 53 ∨ c = 54 ∨ c = 55 ∨ c = 56 ∨ c = 57 := by omega
    simp [this, h.1, h.2]
  · have : ¬ (c = 48 ∨ c = 49 ∨ c = 50 ∨ c = 51 ∨ c = 52 ∨ c = 53 ∨ c = 54 ∨ c = 55 ∨ c = 56 ∨ c = 57) := by omega
    rw [decide_eq_false this]
    symm
    rw [Bool.and_eq_false_iff]
    by_cases h1 : 48 ≤ c
    · right; simp; omega
    · left; simp; omega
theorem notin_figs (c : Nat) (s : Store) : dNotIn (.str ⟨#[c]⟩) (.str "0123456789") s = some (.bl (!dg c), s) := by
  have e : dInB (.str ⟨#[c]⟩) (.str "0123456789") s = some (dg c) := by
    show some (!(Builtin.Str.occurrences ("0123456789" : Str) ⟨#[c]⟩ 0 ("0123456789" : Str).length 1).isEmpty) = _
    rw [PySem.StrLaws.found_one, ← in_figs]
  exact dNotIn_of e
theorem digs_all {l : List Nat} (h : l.all dg = true) : NumText.AllDigits l := fun c hc => by
  have := List.all_eq_true.mp h c hc
  unfold dg at this
  simpa using this
def nval (l : List Nat) : Nat := NumText.digitsVal l
theorem int_digs {z : Str} (h : digs z = true) (h0 : tl z ≠ []) (h1 : z.length ≤ 600) (s : Store) : dIntZ [.str z] s = some (.int (nval (tl z) : Nat), s) :=
  dIntZ_str (by omega) (intText_digits (digs_all h) h0 (by omega)) s
theorem int_neg {z : Str} {cs : List Nat} (e : tl z = 45 :: cs) (h : cs.all dg = true) (h0 : cs ≠ []) (h1 : z.length ≤ 600) (s : Store) : dIntZ [.str z] s = some (.int (-(nval cs : Nat)), s) :=
  dIntZ_str (by omega) (intText_neg e (digs_all h) h0 (by omega)) s
theorem nval_go : ∀ (l : List Nat) (a : Nat), 1 ≤ a → 1 ≤ l.foldl (fun acc c => acc * 10 + (c - 48)) a
  | [], a, h => h
  | c :: l, a, h => nval_go l _ (show 1 ≤ a * 10 + (c - 48) by omega)
theorem nval_pos {c : Nat} {l : List Nat} (h : 49 ≤ c) : 1 ≤ nval (c :: l) := by
  show 1 ≤ (c :: l).foldl (fun acc c => acc * 10 + (c - 48)) 0
  rw [List.foldl_cons]
  exact nval_go l _ (show 1 ≤ 0 * 10 + (c - 48) by omega)
/-! ### what is due -/
inductive Due where
  | bad (w : Str) | good (y : Int)
def due2 (n sg : Str) : Due := if 9 < n.length ∨ (tl n).head? = some 48 then .bad "number" else if digs n = false then .bad "number" else if sg ≠ "AD" ∧ sg ≠ "BC" then .bad "sign" else
  if (if sg = "BC" then 1 - (nval (tl n) : Int) else nval (tl n)) < -9999 ∨ (if sg = "BC" then 1 - (nval (tl n) : Int) else nval (tl n)) > 9999 then .bad "limit" else .good (if sg = "BC" then 1 - (nval (tl n) : Int) else nval (tl n))
def dueL : Due → List D
  | .bad w => [.int 1, .str w]
  | .good y => [.int 0, .int y]
theorem forL_two {α : Type} {gd : Store → Prop} {g : D → Sl → Option Sl} {b : MS} (f : α → D) (as : List α) (I : Sl → Prop) (s s2 : Store) (ok : α → Bool) (r : D) (hg : gd s)
    (hs : ∀ a ∈ as, ∀ env, I env → if ok a = true then ∃ env', turn g b (f a) env s = .nx env' s ∧ I env' else turn g b (f a) env s = .rt r s2) {env : Sl} (h : I env) :
    if as.all ok = true then ∃ env', forL gd g b (as.map f) env s = .nx env' s ∧ I env' else forL gd g b (as.map f) env s = .rt r s2 := by
  induction as generalizing env with
  | nil =>
    rw [List.map_nil, forL_nil env s gd hg]
    exact ⟨_, rfl, h⟩
  | cons a as ih =>
    have z := hs a List.mem_cons_self env h
    unfold turn at z
    rw [List.map_cons, forL_cons env s gd hg]
    cases eg : g (f a) env with
    | none =>
      rw [eg] at z
      by_cases c : ok a = true
      · rw [if_pos c] at z; obtain ⟨_, z, _⟩ := z; cases z
      · rw [if_neg c] at z; cases z
    | some env1 =>
      rw [eg] at z
      dsimp only at z ⊢
      by_cases c : ok a = true
      · rw [if_pos c] at z
        obtain ⟨env', z1, z2⟩ := z
        have q := ih (fun a' ha' => hs a' (List.mem_cons_of_mem _ ha')) z2
        rw [z1]
        simpa [c] using q
      · rw [if_neg c] at z
        have c' : ok a = false := by simpa using c
        rw [z]
        simp [c']
theorem zhead {z : Str} {c : Nat} {r : List Nat} (e : tl z = c :: r) (h : z.length ≤ 100000) (s : Store) : dIx (.str z) (.int 0) s = some (.str ⟨#[c]⟩, s) := by
  have hz : z.length ≤ sizeLine := by unfold sizeLine; omega
  show (if z.length ≤ sizeLine then (L2.atI (tl z) 0).map (fun c => (D.str ⟨#[c]⟩, s)) else none) = _
  rw [if_pos hz]
  have : L2.atI (tl z) ((0 : Nat) : Int) = some c := L2.atI_nat (by rw [e]; rfl)
  rw [show (0 : Int) = ((0 : Nat) : Int) from rfl, this]
  rfl
theorem one_zero (c : Nat) : ((⟨#[c]⟩ : Str) = "0") ↔ c = 48 := by
  have e : ("0" : Str) = ⟨#[48]⟩ := by decide +kernel
  rw [e]
  simp
theorem ydue_spec {n sg : Str} {c : Nat} {r : List Nat} (en : tl n = c :: r) (h : n.length ≤ 100000) (s2 : Store) : m_d_law_year_due [.str n, .str sg] s2 = .ok (.loc s2.length) (s2 ++ [Cell.lst (dueL (due2 n sg))]) := by
  have n1 : tl n ≠ [] := by rw [en]; simp
  have zh := zhead en (by omega) s2
  have ln : dLen [.str n] s2 = some (.int n.length, s2) := by
    have : n.length ≤ 16777216 := by omega
    simp [dLen, this]
  have c48 := one_zero c
  have hd : (tl n).head? = some c := by rw [en]; rfl
  by_cases c3 : 9 < n.length
  · have ed : due2 n sg = .bad "number" := by unfold due2; rw [if_pos (.inl c3)]
    rw [ed]
    have c3' : (9 : Int) < n.length := by omega
    simp [m_d_law_year_due, b_d_law_year_due, ln, c3, c3', dueL]
  have c3' : ¬ (9 : Int) < n.length := by omega
  by_cases c4 : c = 48
  · have ed : due2 n sg = .bad "number" := by unfold due2; rw [if_pos (.inr (by rw [hd, c4]))]
    rw [ed]
    simp [m_d_law_year_due, b_d_law_year_due, ln, c3', zh, c48, c4, (one_zero 48).mpr rfl, dueL]
  have cc : ¬ (9 < n.length ∨ (tl n).head? = some 48) := by
    rintro (z | z)
    · exact c3 z
    · rw [hd] at z; exact c4 (Option.some.inj z)
  have lp := forL_two (gd := always) (g := gN 2) (b := bl_d_law_year_due_1) (fun c => D.str ⟨#[c]⟩) (tl n) (fun env => ∃ o3, env = [some (.str n), some (.str sg), o3, none]) s2 (s2 ++ [Cell.lst (dueL (.bad "number"))]) dg (.loc s2.length) trivial (fun a _ env ⟨o3, he⟩ => by
    subst he
    have := notin_figs a s2
    by_cases ca : dg a = true
    · rw [if_pos ca]
      exact ⟨[some (.str n), some (.str sg), some (.str ⟨#[a]⟩), none], by simp [turn, bl_d_law_year_due_1, this, ca], _, rfl⟩
    · rw [if_neg ca]
      have ca' : dg a = false := by simpa using ca
      simp [turn, bl_d_law_year_due_1, this, ca', dueL]) (env := [some (.str n), some (.str sg), none, none]) ⟨none, rfl⟩
  by_cases c5 : digs n = true
  · have c5' : (tl n).all dg = true := c5
    rw [if_pos c5'] at lp
    obtain ⟨env', e5, o3, rfl⟩ := lp
    have e6 := int_digs c5 n1 (by omega) s2
    obtain ⟨k, hk⟩ : ∃ k, k = nval (tl n) := ⟨_, rfl⟩
    rw [← hk] at e6
    by_cases s1' : sg = "AD"
    · subst s1'
      have ne : ¬ (("AD" : Str) = "BC") := by decide +kernel
      have ed : due2 n "AD" = if (k : Int) > 9999 then .bad "limit" else .good k := by
        unfold due2
        rw [if_neg cc, if_neg (by rw [c5]; simp), if_neg (fun z => z.1 rfl), if_neg ne, ← hk]
        by_cases ck : (k : Int) > 9999
        · rw [if_pos (.inr ck), if_pos ck]
        · rw [if_neg (by omega), if_neg ck]
      rw [ed]
      have ck2 : ¬ (k : Int) < -9999 := by omega
      by_cases ck : (k : Int) > 9999
      · rw [if_pos ck]
        simp [m_d_law_year_due, b_d_law_year_due, ln, c3', zh, c48, c4, e5, ne, e6, ck, ck2, dueL]
      · rw [if_neg ck]
        simp [m_d_law_year_due, b_d_law_year_due, ln, c3', zh, c48, c4, e5, ne, e6, ck, ck2, dueL]
    · by_cases s2' : sg = "BC"
      · subst s2'
        have ne : ¬ (("BC" : Str) = "AD") := by decide +kernel
        have ed : due2 n "BC" = if (1 - (k : Int)) < -9999 then .bad "limit" else .good (1 - k) := by
          unfold due2
          rw [if_neg cc, if_neg (by rw [c5]; simp), if_neg (fun z => z.2 rfl), if_pos rfl, ← hk]
          by_cases ck : (1 - (k : Int)) < -9999
          · rw [if_pos (.inl ck), if_pos ck]
          · rw [if_neg (by omega), if_neg ck]
        rw [ed]
        have ck2 : ¬ (9999 : Int) < 1 - k := by omega
        by_cases ck : (1 - (k : Int)) < -9999
        · rw [if_pos ck]
          simp [m_d_law_year_due, b_d_law_year_due, ln, c3', zh, c48, c4, e5, ne, e6, ck, ck2, dueL]
        · rw [if_neg ck]
          simp [m_d_law_year_due, b_d_law_year_due, ln, c3', zh, c48, c4, e5, ne, e6, ck, ck2, dueL]
      · have ed : due2 n sg = .bad "sign" := by
          unfold due2
          rw [if_neg cc, if_neg (by rw [c5]; simp), if_pos ⟨s1', s2'⟩]
        rw [ed]
        simp [m_d_law_year_due, b_d_law_year_due, ln, c3', zh, c48, c4, e5, s1', s2', dueL]
  · have c5' : ¬ (tl n).all dg = true := c5
    rw [if_neg c5'] at lp
    have ed : due2 n sg = .bad "number" := by unfold due2; rw [if_neg cc, if_pos (by simpa using c5)]
    rw [ed]
    simp [m_d_law_year_due, b_d_law_year_due, ln, c3', zh, c48, c4, lp, dueL]
end Law
namespace Law
open PySem Mi L2
/-! ### the program's own reading -/
theorem of_tl {z : Str} {l : List Nat} (h : tl z = l) : z = ⟨l.toArray⟩ := tl_ext (by rw [h])
theorem starts_minus {z : Str} {c : Nat} {r : List Nat} (e : tl z = c :: r) : Txt.startswith z "-" = decide (c = 45) := by
  have hz := of_tl e
  have hm : ("-" : Str) = ⟨#[45]⟩ := by decide +kernel
  rw [hm, hz]
  unfold Txt.startswith Builtin.Str.subAt
  by_cases h : c = 45
  · subst h; simp [Str.length]
  · simp [Str.length, h]
theorem cut1 {z : Str} {c : Nat} {r : List Nat} (e : tl z = c :: r) : tl (cutS z (some 1) none) = r := by
  have hl : z.length = r.length + 1 := by rw [← tl_len, e]; rfl
  unfold cutS
  show ((tl z).drop (HT.sIx z.length 0 (some ((1 : Nat) : Int)))).take (HT.sIx z.length z.length none - HT.sIx z.length 0 (some ((1 : Nat) : Int))) = r
  rw [HT.sIx_nat, HT.sIx_none, e, hl]
  simp
def wi (z : Str) : Option Int := match tl z with
  | [] => none
  | c :: r => if c = 45 then (if r = [] ∨ 9 < z.length then none else if r.all dg = false then none else if r.head? = some 48 then none else some (-(nval r : Int)))
    else if 9 < z.length then none else if (c :: r).all dg = false then none else if c = 48 ∧ z ≠ "0" then none else some (nval (c :: r))
def wiD : Option Int → D
  | none => .non
  | some i => .int i
theorem wi_spec {z : Str} {c : Nat} {r : List Nat} (e : tl z = c :: r) (h : z.length ≤ 100000) (s : Store) : m_written_integer [.str z] s = .ok (wiD (wi z)) s := by
  have st := starts_minus e
  have ws : ∀ s, dStarts (.str z) [.str "-"] s = some (.bl (Txt.startswith z "-"), s) := fun s => rfl
  have ln : dLen [.str z] s = some (.int z.length, s) := by
    have : z.length ≤ 16777216 := by omega
    simp [dLen, this]
  have hz : z ≠ "" := fun q => by
    have t0 : tl ("" : Str) = [] := by decide +kernel
    rw [q, t0] at e
    cases e
  have loop : ∀ (fz : Str), tl fz ≠ [] → ∀ o2, if (tl fz).all dg = true then ∃ o3, forL always (gN 2) bl_written_integer_1 ((tl fz).map fun c => D.str ⟨#[c]⟩) [some (.str z), some (.str fz), o2] s = .nx [some (.str z), some (.str fz), o3] s else forL always (gN 2) bl_written_integer_1 ((tl fz).map fun c => D.str ⟨#[c]⟩) [some (.str z), some (.str fz), o2] s = .rt .non s := fun fz _ o2 => by
    have q := forL_two (gd := always) (g := gN 2) (b := bl_written_integer_1) (fun c => D.str ⟨#[c]⟩) (tl fz) (fun env => ∃ o2, env = [some (.str z), some (.str fz), o2]) s s dg .non trivial (fun a _ env ⟨o2, he⟩ => by
      subst he
      have := notin_figs a s
      by_cases ca : dg a = true
      · rw [if_pos ca]
        exact ⟨[some (.str z), some (.str fz), some (.str ⟨#[a]⟩)], by simp [turn, bl_written_integer_1, this, ca], _, rfl⟩
      · rw [if_neg ca]
        have ca' : dg a = false := by simpa using ca
        simp [turn, bl_written_integer_1, this, ca']) (env := [some (.str z), some (.str fz), o2]) ⟨o2, rfl⟩
    by_cases cc : (tl fz).all dg = true
    · rw [if_pos cc] at q ⊢
      obtain ⟨env', e1, o2', rfl⟩ := q
      exact ⟨o2', e1⟩
    · rw [if_neg cc] at q ⊢
      exact q
  by_cases c45 : c = 45
  · have sb : Txt.startswith z "-" = true := by rw [st]; simp [c45]
    rw [sb] at ws
    obtain ⟨fz, hfz⟩ : ∃ fz, fz = cutS z (some 1) none := ⟨_, rfl⟩
    have wc : ∀ s, dSlZ (.str z) (some 1) none s = some (.str fz, s) := fun s => by rw [dSlZ_str (by omega), hfz]
    have tf : tl fz = r := by rw [hfz]; exact cut1 e
    have ew : wi z = if r = [] ∨ 9 < z.length then none else if r.all dg = false then none else if r.head? = some 48 then none else some (-(nval r : Int)) := by
      unfold wi; rw [e]; simp only [if_pos c45]
    by_cases c1 : r = []
    · have f0 : fz = "" := tl_ext (by rw [tf, c1]; decide +kernel)
      rw [ew, if_pos (.inl c1)]
      simp [m_written_integer, b_written_integer, sb, wc, f0, wiD]
    have fne : fz ≠ "" := fun q => c1 (by rw [← tf, q]; decide +kernel)
    by_cases c2 : 9 < z.length
    · have c2' : (9 : Int) < z.length := by omega
      rw [ew, if_pos (.inr c2)]
      simp [m_written_integer, b_written_integer, sb, wc, fne, ln, c2', wiD]
    have c2' : ¬ (9 : Int) < z.length := by omega
    rw [ew, if_neg (fun q => q.elim c1 c2)]
    have lp := loop fz (by rw [tf]; exact c1) none
    rw [tf] at lp
    have hseq : fz.cps.toList = r := tf
    by_cases c3 : r.all dg = true
    · rw [if_pos c3] at lp
      obtain ⟨o2, lp⟩ := lp
      rw [if_neg (by simp [c3])]
      obtain ⟨c', r', er⟩ : ∃ c' r', r = c' :: r' := by
        cases r with
        | nil => exact absurd rfl c1
        | cons a b => exact ⟨a, b, rfl⟩
      have zh := zhead (tf.trans er) (by have := tl_len fz; have := tl_len z; rw [tf] at *; rw [e] at *; simp at *; omega) s
      have zne : z ≠ "0" := fun q => by
        have t0 : tl ("0" : Str) = [48] := by decide +kernel
        rw [q, t0] at e
        simp at e
        omega
      have hh : r.head? = some c' := by rw [er]; rfl
      rw [hh]
      by_cases c4 : c' = 48
      · rw [if_pos (by rw [c4])]
        subst c4
        simp [m_written_integer, b_written_integer, sb, wc, fne, ln, c2', hseq, lp, zh, (one_zero 48).mpr rfl, zne, wiD]
      · rw [if_neg (fun q => c4 (Option.some.inj q))]
        have oz := one_zero c'
        have ei := int_neg (by rw [e, c45]) c3 c1 (by omega) s
        simp [m_written_integer, b_written_integer, sb, wc, fne, ln, c2', hseq, lp, zh, oz, c4, ei, wiD]
    · rw [if_neg c3] at lp
      have c3' : r.all dg = false := by simpa using c3
      rw [if_pos c3']
      simp [m_written_integer, b_written_integer, sb, wc, fne, ln, c2', hseq, lp, wiD]
  · have sb : Txt.startswith z "-" = false := by rw [st]; simp [c45]
    rw [sb] at ws
    have ew : wi z = if 9 < z.length then none else if (c :: r).all dg = false then none else if c = 48 ∧ z ≠ "0" then none else (some ((nval (c :: r) : Nat) : Int) : Option Int) := by
      unfold wi; rw [e]; simp only [if_neg c45]
    by_cases c2 : 9 < z.length
    · have c2' : (9 : Int) < z.length := by omega
      rw [ew, if_pos c2]
      simp [m_written_integer, b_written_integer, sb, hz, ln, c2', wiD]
    have c2' : ¬ (9 : Int) < z.length := by omega
    rw [ew, if_neg c2]
    have lp := loop z (by rw [e]; simp) none
    have hseq : z.cps.toList = c :: r := e
    rw [e] at lp
    obtain ⟨cs, hcs⟩ : ∃ cs, cs = c :: r := ⟨_, rfl⟩
    rw [← hcs] at lp hseq ⊢
    by_cases c3 : cs.all dg = true
    · rw [if_pos c3] at lp
      obtain ⟨o2, lp⟩ := lp
      rw [if_neg (by simp [c3])]
      have zh := zhead e (by omega) s
      have ei := int_digs (z := z) (by unfold digs; rw [e, ← hcs]; exact c3) (by rw [e]; simp) (by omega) s
      rw [show tl z = cs from e.trans hcs.symm] at ei
      by_cases c4 : c = 48
      · have o0 : ({ cps := #[c] } : Str) = "0" := (one_zero c).mpr c4
        by_cases c5 : z = "0"
        · rw [if_neg (fun q => q.2 c5)]
          have ei2 := ei
          rw [c5] at ei2
          simp [m_written_integer, b_written_integer, sb, hz, ln, c2', hseq, lp, zh, o0, ei, wiD]
          rw [c5]
          simp [ei2]
        · rw [if_pos ⟨c4, c5⟩]
          simp [m_written_integer, b_written_integer, sb, hz, ln, c2', hseq, lp, zh, o0, c5, wiD]
      · rw [if_neg (fun q => c4 q.1)]
        have oz := one_zero c
        simp [m_written_integer, b_written_integer, sb, hz, ln, c2', hseq, lp, zh, oz, c4, ei, wiD]
    · rw [if_neg c3] at lp
      have c3' : cs.all dg = false := by simpa using c3
      rw [if_pos c3']
      simp [m_written_integer, b_written_integer, sb, hz, ln, c2', hseq, lp, wiD]
end Law
namespace Law
open PySem Mi
def yOf (sg : Str) (k : Int) : Int := if sg = "BC" then 1 - k else k
def due3 (sg : Str) (k : Int) : Due := if sg ≠ "AD" ∧ sg ≠ "BC" then .bad "sign" else if yOf sg k < -9999 ∨ yOf sg k > 9999 then .bad "limit" else .good (yOf sg k)
theorem wi_due {n : Str} {c : Nat} {r : List Nat} (e : tl n = c :: r) (sg : Str) : (due2 n sg = .bad "number" ∧ (wi n = none ∨ ∃ i, wi n = some i ∧ i < 1)) ∨ ∃ k, 1 ≤ k ∧ wi n = some k ∧ due2 n sg = due3 sg k := by
  have hd : (tl n).head? = some c := by rw [e]; rfl
  by_cases c45 : c = 45
  · left
    have dF : digs n = false := by unfold digs; rw [e, c45]; rfl
    refine ⟨?_, ?_⟩
    · unfold due2
      by_cases q : 9 < n.length ∨ (tl n).head? = some 48
      · rw [if_pos q]
      · rw [if_neg q, if_pos dF]
    · have ew : wi n = if r = [] ∨ 9 < n.length then none else if r.all dg = false then none else if r.head? = some 48 then none else some (-(nval r : Int)) := by
        unfold wi; rw [e]; simp only [if_pos c45]
      rw [ew]
      split
      · exact .inl rfl
      · split
        · exact .inl rfl
        · split
          · exact .inl rfl
          · exact .inr ⟨_, rfl, by omega⟩
  · have ew : wi n = if 9 < n.length then none else if (c :: r).all dg = false then none else if c = 48 ∧ n ≠ "0" then none else (some ((nval (c :: r) : Nat) : Int) : Option Int) := by
      unfold wi; rw [e]; simp only [if_neg c45]
    rw [ew]
    by_cases c9 : 9 < n.length
    · left
      exact ⟨by unfold due2; rw [if_pos (.inl c9)], .inl (by rw [if_pos c9])⟩
    rw [if_neg c9]
    by_cases cd : (c :: r).all dg = true
    · rw [if_neg (by rw [cd]; simp)]
      have dT : digs n = true := by unfold digs; rw [e]; exact cd
      by_cases c48 : c = 48
      · left
        refine ⟨by unfold due2; rw [if_pos (.inr (by rw [hd, c48]))], ?_⟩
        by_cases c0 : n = "0"
        · rw [if_neg (fun q => q.2 c0)]
          refine .inr ⟨_, rfl, ?_⟩
          have t0 : tl ("0" : Str) = [48] := by decide +kernel
          rw [c0, t0] at e
          rw [← e]
          decide
        · rw [if_pos ⟨c48, c0⟩]
          exact .inl rfl
      · right
        rw [if_neg (fun q => c48 q.1)]
        have h49 : 49 ≤ c := by
          have := digs_all cd c List.mem_cons_self
          omega
        have := nval_pos (l := r) h49
        refine ⟨_, by omega, rfl, ?_⟩
        unfold due2 due3 yOf
        rw [if_neg (fun q => q.elim c9 (fun q => c48 (Option.some.inj (hd.symm.trans q)))), if_neg (by rw [dT]; simp), e]
    · left
      have cd' : (c :: r).all dg = false := by simpa using cd
      rw [if_pos cd']
      refine ⟨?_, .inl rfl⟩
      unfold due2
      by_cases q : 9 < n.length ∨ (tl n).head? = some 48
      · rw [if_pos q]
      · rw [if_neg q, if_pos (by unfold digs; rw [e]; exact cd')]
def yfD : Due → D
  | .bad w => .tup [.non, .str w]
  | .good y => .tup [.int y, .non]
theorem ad_bc : ¬ (("AD" : Str) = "BC") := by decide +kernel
theorem bc_ad : ¬ (("BC" : Str) = "AD") := by decide +kernel
theorem yfrom_spec {n sg : Str} {c : Nat} {r : List Nat} (e : tl n = c :: r) (h : n.length ≤ 100000) {l : Nat} {s : Store} (g : s[l]? = some (.lst [.str n, .str sg])) : m_year_from [.loc l] s = .ok (yfD (due2 n sg)) s := by
  have i0 : dIx (.loc l) (.int 0) s = some (.str n, s) := by rw [dIx_loc g]; simp
  have i1 : dIx (.loc l) (.int 1) s = some (.str sg, s) := by rw [dIx_loc g]; simp
  have w := wi_spec e h s
  rcases wi_due e sg with ⟨ed, hw⟩ | ⟨k, k1, hw, ed⟩
  · rw [ed]
    rcases hw with hw | ⟨i, hw, hi⟩
    · rw [hw] at w
      simp only [wiD] at w
      simp [m_year_from, b_year_from, i0, w, yfD]
    · rw [hw] at w
      simp only [wiD] at w
      simp [m_year_from, b_year_from, i0, w, hi, yfD]
  · rw [hw] at w
    simp only [wiD] at w
    have k1' : ¬ k < 1 := by omega
    rw [ed]
    unfold due3
    by_cases sA : sg = "AD"
    · subst sA
      rw [if_neg (fun z => z.1 rfl)]
      have ey : yOf "AD" k = k := if_neg ad_bc
      rw [ey]
      have c1 : ¬ k < -9999 := by omega
      by_cases c2 : 9999 < k
      · rw [if_pos (.inr c2)]
        simp [m_year_from, b_year_from, i0, i1, w, k1', ad_bc, c1, c2, yfD]
      · rw [if_neg (by omega)]
        simp [m_year_from, b_year_from, i0, i1, w, k1', ad_bc, c1, c2, yfD]
    · by_cases sB : sg = "BC"
      · subst sB
        rw [if_neg (fun z => z.2 rfl)]
        have ey : yOf "BC" k = 1 - k := if_pos rfl
        rw [ey]
        have c2 : ¬ 9999 < 1 - k := by omega
        by_cases c1 : 1 - k < -9999
        · rw [if_pos (.inl c1)]
          simp [m_year_from, b_year_from, i0, i1, w, k1', bc_ad, c1, c2, yfD]
        · rw [if_neg (by omega)]
          simp [m_year_from, b_year_from, i0, i1, w, k1', bc_ad, c1, c2, yfD]
      · rw [if_pos ⟨sA, sB⟩]
        simp [m_year_from, b_year_from, i0, i1, w, k1', sA, sB, yfD]
def badEx (w : Str) : Ex := ⟨"BadText", [("word", .str w), ("line", .int 1)]⟩
end Law
namespace Law
open PySem Mi
/-! ### groups of words -/
theorem ext_setNew {s s' : Store} (x : Ext s s') {i : Nat} (h : s.length ≤ i) (c : Cell) : Ext s (s'.set i c) := by
  obtain ⟨r, rfl⟩ := x
  exact ⟨r.set (i - s.length) c, by rw [List.set_append_right _ _ h]⟩
def parts : List Str → List Str → List (List Str)
  | g, [] => [g]
  | g, w :: r => if w = "or" then g :: parts [] r else parts (g ++ [w]) r
def AtL (s : Store) : List Nat → List (List Str) → Prop
  | [], [] => True
  | l :: ls, g :: gs => s[l]? = some (.lst (g.map D.str)) ∧ AtL s ls gs
  | _, _ => False
theorem AtL.mono {s s' : Store} : ∀ {ls : List Nat} {gs : List (List Str)}, AtL s ls gs → (∀ l ∈ ls, s'[l]? = s[l]?) → AtL s' ls gs
  | [], [], _, _ => trivial
  | l :: ls, g :: gs, ⟨a, b⟩, h => ⟨by rw [h l List.mem_cons_self]; exact a, b.mono fun l' hl' => h l' (List.mem_cons_of_mem _ hl')⟩
  | [], _ :: _, h, _ => h.elim
  | _ :: _, [], h, _ => h.elim
theorem AtL.snoc {s : Store} {l : Nat} {g : List Str} (hl : s[l]? = some (.lst (g.map D.str))) : ∀ {ls : List Nat} {gs : List (List Str)}, AtL s ls gs → AtL s (ls ++ [l]) (gs ++ [g])
  | [], [], _ => ⟨hl, trivial⟩
  | _ :: ls, _ :: gs, ⟨a, b⟩ => ⟨a, b.snoc hl⟩
  | [], _ :: _, h => h.elim
  | _ :: _, [], h => h.elim
theorem AtL.lt {s : Store} : ∀ {ls : List Nat} {gs : List (List Str)}, AtL s ls gs → ∀ l ∈ ls, l < s.length
  | [], [], _, l, hl => by cases hl
  | a :: ls, g :: gs, ⟨h1, h2⟩, l, hl => by
    rcases List.mem_cons.mp hl with rfl | hl
    · exact (List.getElem?_eq_some_iff.mp h1).1
    · exact h2.lt l hl
  | [], _ :: _, h, _, _ => h.elim
  | _ :: _, [], h, _, _ => h.elim
theorem AtL.ext {s s' : Store} (x : Ext s s') {ls : List Nat} {gs : List (List Str)} (h : AtL s ls gs) : AtL s' ls gs := h.mono fun l hl => by
  obtain ⟨r, rfl⟩ := x
  exact List.getElem?_append_left (h.lt l hl)
theorem AtL.len {s : Store} : ∀ {ls : List Nat} {gs : List (List Str)}, AtL s ls gs → ls.length = gs.length
  | [], [], _ => rfl
  | a :: ls, g :: gs, ⟨h1, h2⟩ => by rw [List.length_cons, List.length_cons, h2.len]
  | [], _ :: _, h => h.elim
  | _ :: _, [], h => h.elim
structure Grp (s : Store) (f q : Nat) (E fs : List Nat) (G : List (List Str)) (g : List Str) (s' : Store) : Prop where
  x : Ext s s'
  hf : s'[f]? = some (.lst (E.map D.loc))
  hq : s'[q]? = some (.lst (g.map D.str))
  hG : AtL s' fs G
  ne : q ≠ f
  fr : ∀ l ∈ fs, l ≠ f ∧ l ≠ q ∧ s.length ≤ l
  nf : s.length ≤ f
  nq : s.length ≤ q
theorem Grp.add {s s' : Store} {f q : Nat} {E fs : List Nat} {G : List (List Str)} {g : List Str} (h : Grp s f q E fs G g s') (w : Str) : Grp s f q E fs G (g ++ [w]) (s'.set q (.lst (g.map D.str ++ [D.str w]))) :=
  ⟨ext_setNew h.x h.nq _, by rw [List.getElem?_set_ne h.ne]; exact h.hf, by rw [get_set h.hq, List.map_append]; rfl, h.hG.mono fun l hl => List.getElem?_set_ne (h.fr l hl).2.1.symm, h.ne, h.fr, h.nf, h.nq⟩
/-- the group is closed; a new one at the end -/
theorem Grp.close {s s' : Store} {f q : Nat} {E fs : List Nat} {G : List (List Str)} {g : List Str} (h : Grp s f q E fs G g s') (E' : List Nat) : Grp s f s'.length E' (fs ++ [q]) (G ++ [g]) [] (s'.set f (.lst (E'.map D.loc)) ++ [.lst []]) := by
  have lt : ∀ {l : Nat} {c : Cell}, s'[l]? = some c → l < s'.length := fun h => (List.getElem?_eq_some_iff.mp h).1
  have sl : (s'.set f (.lst (E'.map D.loc))).length = s'.length := List.length_set
  have k1 : ∀ l, l < s'.length → l ≠ f → (s'.set f (.lst (E'.map D.loc)) ++ [Cell.lst []])[l]? = s'[l]? := fun l hl hn => by
    rw [List.getElem?_append_left (by rw [sl]; exact hl), List.getElem?_set_ne hn.symm]
  refine ⟨(ext_setNew h.x h.nf _).trans (Ext.mk _ _), ?_, ?_, ?_, Nat.ne_of_gt (lt h.hf), fun l hl => ?_, h.nf, h.x.le⟩
  · rw [List.getElem?_append_left (by rw [sl]; exact lt h.hf)]
    exact get_set h.hf
  · have := get_new (s'.set f (.lst (E'.map D.loc))) (.lst [])
    rw [sl] at this
    exact this
  · exact AtL.snoc (by rw [k1 q (lt h.hq) h.ne]; exact h.hq) (h.hG.mono fun l hl => k1 l (h.hG.lt l hl) (h.fr l hl).1)
  · rcases List.mem_append.mp hl with hl | hl
    · exact ⟨(h.fr l hl).1, Nat.ne_of_lt (h.hG.lt l hl), (h.fr l hl).2.2⟩
    · rw [List.mem_singleton.mp hl]
      exact ⟨h.ne, Nat.ne_of_lt (lt h.hq), h.nq⟩
def PartI (l f : Nat) (ws : List Str) (s : Store) (rest : List D) (env : Sl) (s' : Store) : Prop := ∃ (r : List Str) (fs : List Nat) (q : Nat) (G : List (List Str)) (g : List Str) (o4 : Option D), rest = r.map D.str ∧
  env = [some (.loc l), some (.str "or"), some (.loc f), some (.loc q), o4] ∧ Grp s f q fs fs G g s' ∧ parts [] ws = G ++ parts g r ∧ fs.length + r.length ≤ ws.length ∧ g.length + r.length ≤ ws.length
theorem parted_spec {l : Nat} {ws : List Str} {s : Store} (gl : s[l]? = some (.lst (ws.map D.str))) (hl : ws.length ≤ 200000) : ∃ (f : Nat) (s' : Store) (fs : List Nat), m_parted_words [.loc l, .str "or"] s = .ok (.loc f) s' ∧ Ext s s' ∧ s'[f]? = some (.lst (fs.map D.loc)) ∧ AtL s' fs (parts [] ws) ∧ s.length ≤ f ∧ ∀ l ∈ fs, s.length ≤ l := by
  obtain ⟨env', s1, e, r, fs, q, G, g, o4, hr, rfl, h, hp, h1, h2⟩ := forL_thru (gd := fun s2 => s2[l]? = some (Cell.lst (ws.map D.str))) (g := gN 4) (b := bl_parted_words_1) (PartI l s.length ws s) (fun _ _ _ ⟨_, _, _, _, _, _, _, _, h, _⟩ => h.x.get gl)
    (xs := ws.map D.str) (env := [some (.loc l), some (.str "or"), some (.loc s.length), some (.loc (s.length + 1)), none]) (s := s ++ [.lst [], .lst []]) (fun x xs env s1 ⟨r, fs, q, G, g, o4, hr, he, h, hp, h1, h2⟩ => by
      subst he
      cases r with
      | nil => cases hr
      | cons w r =>
        obtain ⟨rfl, rfl⟩ := List.cons.inj hr
        rw [List.length_cons] at h1 h2
        by_cases c : w = "or"
        · rw [parts, if_pos c] at hp
          have a := dAppend_loc h.hf (by simp; omega) (.loc q)
          have t := tyOk_list h.hf
          have f := h.close (fs ++ [q])
          rw [List.map_append] at f
          have w := (⟨r, fs ++ [q], s1.length, G ++ [g], [], _, rfl, rfl, f, by rw [hp]; simp, by simp; omega, by simp; omega⟩ : PartI l s.length ws s (r.map D.str) [some (.loc l), some (.str "or"), some (.loc s.length), some (.loc s1.length), some (.str w)] _)
          subst c
          simp [bl_parted_words_1, a, t]
          exact w
        · rw [parts, if_neg c] at hp
          have a := dAppend_loc h.hq (by simp; omega) (.str w)
          have t := tyOk_list h.hq
          have f := h.add w
          have w := (⟨r, fs, q, G, g ++ [w], _, rfl, rfl, f, hp, by omega, by simp; omega⟩ : PartI l s.length ws s (r.map D.str) [some (.loc l), some (.str "or"), some (.loc s.length), some (.loc q), some (.str w)] _)
          simp [bl_parted_words_1, a, t, c]
          exact w)
    ⟨ws, [], s.length + 1, [], [], none, rfl, rfl, ⟨Ext.mk _ _, by simp, by simp, trivial, by omega, by simp, Nat.le_refl _, by omega⟩, rfl, by simp, by simp⟩
  cases r with
  | cons _ _ => cases hr
  | nil =>
    have a := dAppend_loc h.hf (by simp; omega) (.loc q)
    have t := tyOk_list h.hf
    have f := h.close (fs ++ [q])
    refine ⟨s.length, s1.set s.length (.lst ((fs ++ [q]).map D.loc)), fs ++ [q], ?_, ext_setNew h.x h.nf _, get_set h.hf, ?_, Nat.le_refl _, fun l hl => ?_⟩
    · rw [List.map_append]
      have g2 : (s ++ [Cell.lst [], Cell.lst []])[l]? = some (.lst (ws.map D.str)) := (Ext.mk _ _).get gl
      generalize ws.map D.str = W at *
      simp [m_parted_words, b_parted_words, g2, e, a, t]
    · rw [hp]
      refine AtL.snoc (by rw [List.getElem?_set_ne h.ne.symm]; exact h.hq) (h.hG.mono fun l hl => List.getElem?_set_ne (h.fr l hl).1.symm)
    · rcases List.mem_append.mp hl with hl | hl
      · exact (h.fr l hl).2.2
      · rw [List.mem_singleton.mp hl]; exact h.nq
/-- the law's own groups -/
def RowI (l f : Nat) (t : D) (ws : List Str) (s : Store) (rest : List D) (env : Sl) (s' : Store) : Prop := ∃ (r : List Str) (fs : List Nat) (q : Nat) (G : List (List Str)) (g : List Str) (o1 : Option D), rest = r.map D.str ∧
  env = [some t, o1, some (.loc l), some (.loc f), none, none, none, none, none, none] ∧ Grp s f q (fs ++ [q]) fs G g s' ∧ parts [] ws = G ++ parts g r ∧ fs.length + r.length ≤ ws.length ∧ g.length + r.length ≤ ws.length
theorem rows_spec {l : Nat} {ws : List Str} {s : Store} (gl : s[l]? = some (.lst (ws.map D.str))) (hl : ws.length ≤ 200000) (t : D) : ∃ (s' : Store) (fs : List Nat) (o1 : Option D), forL (fun s2 => s2[l]? = some (Cell.lst (ws.map D.str))) (gN 1) bl_d_law_due_3 (ws.map D.str) [some t, none, some (.loc l), some (.loc (s.length + 1)), none, none, none, none, none, none] (s ++ [.lst [], .lst [.loc s.length]]) = .nx [some t, o1, some (.loc l), some (.loc (s.length + 1)), none, none, none, none, none, none] s' ∧ Ext s s' ∧ s'[s.length + 1]? = some (.lst (fs.map D.loc)) ∧ AtL s' fs (parts [] ws) := by
  obtain ⟨env', s1, e, r, fs, q, G, g, o1, hr, rfl, h, hp, h1, h2⟩ := forL_thru (gd := fun s2 => s2[l]? = some (Cell.lst (ws.map D.str))) (g := gN 1) (b := bl_d_law_due_3) (RowI l (s.length + 1) t ws s) (fun _ _ _ ⟨_, _, _, _, _, _, _, _, h, _⟩ => h.x.get gl)
    (xs := ws.map D.str) (env := [some t, none, some (.loc l), some (.loc (s.length + 1)), none, none, none, none, none, none]) (s := s ++ [.lst [], .lst [.loc s.length]]) (fun x xs env s1 ⟨r, fs, q, G, g, o1, hr, he, h, hp, h1, h2⟩ => by
      subst he
      cases r with
      | nil => cases hr
      | cons w r =>
        obtain ⟨rfl, rfl⟩ := List.cons.inj hr
        rw [List.length_cons] at h1 h2
        by_cases c : w = "or"
        · rw [parts, if_pos c] at hp
          have g0 := get_new s1 (.lst [])
          have x0 := Ext.mk s1 [Cell.lst []]
          have a := dAppend_loc (x0.get h.hf) (by simp; omega) (.loc s1.length)
          have t1 := tyOk_list (x0.get h.hf)
          have f := h.close (fs ++ [q] ++ [s1.length])
          have lt := (List.getElem?_eq_some_iff.mp h.hf).1
          have es : (s1 ++ [Cell.lst []]).set (s.length + 1) (.lst ((fs ++ [q] ++ [s1.length]).map D.loc)) = s1.set (s.length + 1) (.lst ((fs ++ [q] ++ [s1.length]).map D.loc)) ++ [.lst []] := List.set_append_left _ _ lt
          rw [← es, List.map_append] at f
          have w := (⟨r, fs ++ [q], s1.length, G ++ [g], [], _, rfl, rfl, f, by rw [hp]; simp, by simp; omega, by simp; omega⟩ : RowI l (s.length + 1) t ws s (r.map D.str) [some t, some (.str w), some (.loc l), some (.loc (s.length + 1)), none, none, none, none, none, none] _)
          subst c
          have t0 := tyOk_list h.hf
          generalize (fs ++ [q]).map D.loc = A at *
          simp [bl_d_law_due_3, g0, a, t0, t1]
          exact w
        · rw [parts, if_neg c] at hp
          have a := dAppend_loc h.hq (by simp; omega) (.str w)
          have t1 := tyOk_list h.hq
          have f := h.add w
          have ln := dLen_loc h.hf
          have ix : dIx (.loc (s.length + 1)) (.int (fs.length : Nat)) s1 = some (.loc q, s1) := by
            rw [dIx_loc h.hf, L2.atI_nat (v := D.loc q) (by simp)]
            rfl
          have w := (⟨r, fs, q, G, g ++ [w], _, rfl, rfl, f, hp, by omega, by simp; omega⟩ : RowI l (s.length + 1) t ws s (r.map D.str) [some t, some (.str w), some (.loc l), some (.loc (s.length + 1)), none, none, none, none, none, none] _)
          simp at ln
          have e1 : (fs.length : Int) + 1 - 1 = fs.length := by omega
          simp [bl_d_law_due_3, ln, e1, ix, a, t1, c]
          exact w)
    ⟨ws, [], s.length, [], [], none, rfl, rfl, ⟨Ext.mk _ _, by simp, by simp, trivial, by omega, by simp, by omega, Nat.le_refl _⟩, rfl, by simp, by simp⟩
  cases r with
  | cons _ _ => cases hr
  | nil =>
    refine ⟨s1, fs ++ [q], o1, e, h.x, h.hf, ?_⟩
    rw [hp]
    exact h.hG.snoc h.hq
end Law
namespace Law
open PySem Mi
/-! ### a stretch told -/
inductive SD where
  | bad (w : Str) | good (a b : Int)
def sd2 (n sg : Str) : SD := match due2 n sg with | .bad w => .bad w | .good y => .good y y
def sd5 (n sg m sh : Str) : SD := match due2 n sg with | .bad w => .bad w | .good y => match due2 m sh with | .bad w => .bad w | .good z => if z < y then .bad "order" else .good y z
def sd : List Str → SD
  | [n, sg] => sd2 n sg
  | [n, sg, t, m, sh] => if t = "to" then sd5 n sg m sh else .bad "words"
  | _ => .bad "words"
def sfD : SD → D
  | .bad w => .tup [.non, .str w]
  | .good a b => .tup [.tup [.int a, .int b], .non]
def WW (w : Str) : Prop := tl w ≠ [] ∧ w.length ≤ 100000
theorem WW.cons {w : Str} (h : WW w) : ∃ c r, tl w = c :: r := by
  cases q : tl w with
  | nil => exact absurd q h.1
  | cons c r => exact ⟨c, r, rfl⟩
theorem sd_le {ws : List Str} {a b : Int} (h : sd ws = .good a b) : a ≤ b := by
  unfold sd at h
  split at h
  · unfold sd2 at h
    split at h
    · cases h
    · cases h; exact Int.le_refl _
  · split at h
    · unfold sd5 at h
      split at h
      · cases h
      · split at h
        · cases h
        · split at h
          · cases h
          · cases h; omega
    · cases h
  · cases h
theorem sl2 {l : Nat} {s : Store} {a b c d e : Str} (g : s[l]? = some (.lst [.str a, .str b, .str c, .str d, .str e])) : dSlZ (.loc l) none (some 2) s = some (.loc s.length, s ++ [.lst [.str a, .str b]]) := by
  simp [dSl]
  exact ⟨_, by simp [lstOf, g]; rfl, rfl⟩
theorem sl3 {l : Nat} {s : Store} {a b c d e : Str} (g : s[l]? = some (.lst [.str a, .str b, .str c, .str d, .str e])) : dSlZ (.loc l) (some 3) none s = some (.loc s.length, s ++ [.lst [.str d, .str e]]) := by
  simp [dSl]
  exact ⟨_, by simp [lstOf, g]; rfl, rfl⟩
theorem sfrom_spec {ws : List Str} (hw : ∀ w ∈ ws, WW w) (hl : ws.length ≤ 200000) {l : Nat} {s : Store} (g : s[l]? = some (.lst (ws.map D.str))) : ∃ s', m_stretch_from [.loc l] s = .ok (sfD (sd ws)) s' ∧ Ext s s' := by
  have wl := dLen_loc g
  rw [List.length_map] at wl
  by_cases c2 : ws.length = 2
  · obtain ⟨n, sg, rfl⟩ : ∃ n sg, ws = [n, sg] := by
      match ws, c2 with
      | [n, sg], _ => exact ⟨n, sg, rfl⟩
    obtain ⟨c, r, en⟩ := (hw n (by simp)).cons
    have y := yfrom_spec en (hw n (by simp)).2 g
    refine ⟨s, ?_, Ext.refl s⟩
    show _ = Mi.R.ok (sfD (sd2 n sg)) s
    simp at wl
    unfold sd2
    cases q : due2 n sg with
    | bad w =>
      rw [q] at y
      simp only [yfD] at y
      simp [m_stretch_from, b_stretch_from, wl, y, sfD]
    | good k =>
      rw [q] at y
      simp only [yfD] at y
      simp [m_stretch_from, b_stretch_from, wl, y, sfD]
  by_cases c5 : ws.length = 5
  · obtain ⟨n, sg, t, m, sh, rfl⟩ : ∃ n sg t m sh, ws = [n, sg, t, m, sh] := by
      match ws, c5 with
      | [n, sg, t, m, sh], _ => exact ⟨n, sg, t, m, sh, rfl⟩
    simp at wl
    have i2 : dIx (.loc l) (.int 2) s = some (.str t, s) := by rw [dIx_loc g]; simp
    by_cases ct : t = "to"
    · subst ct
      obtain ⟨c, r, en⟩ := (hw n (by simp)).cons
      obtain ⟨c', r', em⟩ := (hw m (by simp)).cons
      have e1 := sl2 g
      have g1 := get_new s (.lst [.str n, .str sg])
      have x1 := Ext.mk s [Cell.lst [.str n, .str sg]]
      obtain ⟨s1, hs1⟩ : ∃ s1, s1 = s ++ [Cell.lst [.str n, .str sg]] := ⟨_, rfl⟩
      rw [← hs1] at e1 g1 x1
      have y1 := yfrom_spec en (hw n (by simp)).2 g1
      have e2 := sl3 (x1.get g)
      have g2 := get_new s1 (.lst [.str m, .str sh])
      have x2 := Ext.mk s1 [Cell.lst [.str m, .str sh]]
      obtain ⟨s2, hs2⟩ : ∃ s2, s2 = s1 ++ [Cell.lst [.str m, .str sh]] := ⟨_, rfl⟩
      rw [← hs2] at e2 g2 x2
      have y2 := yfrom_spec em (hw m (by simp)).2 g2
      clear hs1 hs2
      show ∃ s', _ = Mi.R.ok (sfD (if ("to" : Str) = "to" then sd5 n sg m sh else .bad "words")) s' ∧ _
      rw [if_pos rfl]
      unfold sd5
      simp only [dSlZ_loc] at e1 e2
      cases q1 : due2 n sg with
      | bad w =>
        rw [q1] at y1
        simp only [yfD] at y1
        exact ⟨s1, by simp [m_stretch_from, b_stretch_from, wl, i2, e1, y1, sfD], x1⟩
      | good k =>
        rw [q1] at y1
        simp only [yfD] at y1
        cases q2 : due2 m sh with
        | bad w =>
          rw [q2] at y2
          simp only [yfD] at y2
          exact ⟨s2, by simp [m_stretch_from, b_stretch_from, wl, i2, e1, y1, e2, y2, sfD], x1.trans x2⟩
        | good j =>
          rw [q2] at y2
          simp only [yfD] at y2
          by_cases cj : j < k
          · exact ⟨s2, by simp [m_stretch_from, b_stretch_from, wl, i2, e1, y1, e2, y2, cj, sfD], x1.trans x2⟩
          · exact ⟨s2, by simp [m_stretch_from, b_stretch_from, wl, i2, e1, y1, e2, y2, cj, sfD], x1.trans x2⟩
    · refine ⟨s, ?_, Ext.refl s⟩
      show _ = Mi.R.ok (sfD (if t = "to" then sd5 n sg m sh else .bad "words")) s
      rw [if_neg ct]
      simp [m_stretch_from, b_stretch_from, wl, i2, ct, sfD]
  · have ed : sd ws = .bad "words" := by
      match ws, c2, c5 with
      | [], _, _ => rfl
      | [_], _, _ => rfl
      | [_, _, _], _, _ => rfl
      | [_, _, _, _], _, _ => rfl
      | _ :: _ :: _ :: _ :: _ :: _ :: _, _, _ => rfl
      | [_, _], c2, _ => exact absurd rfl c2
      | [_, _, _, _, _], _, c5 => exact absurd rfl c5
    have c2' : ¬ ((ws.length : Nat) : Int) = 2 := by omega
    have c5' : ¬ ((ws.length : Nat) : Int) = 5 := by omega
    rw [ed]
    refine ⟨s, ?_, Ext.refl s⟩
    simp [m_stretch_from, b_stretch_from, wl, c2, c5, c2', c5', sfD]
def SdL : SD → List D → Prop
  | .bad w, L => ∃ e, L = .int 1 :: .str w :: e
  | .good a b, L => L = [.int 0, .int a, .int b]
theorem dll (q : Due) : dueL q = match q with | .bad w => [.int 1, .str w] | .good y => [.int 0, .int y] := by cases q <;> rfl
theorem sdue_spec {ws : List Str} (hw : ∀ w ∈ ws, WW w) (hl : ws.length ≤ 200000) {l : Nat} {s : Store} (g : s[l]? = some (.lst (ws.map D.str))) : ∃ (k : Nat) (s' : Store) (L : List D), m_d_law_stretch_due [.loc l] s = .ok (.loc k) s' ∧ s'[k]? = some (.lst L) ∧ Ext s s' ∧ SdL (sd ws) L := by
  have wl := dLen_loc g
  rw [List.length_map] at wl
  by_cases c2 : ws.length = 2
  · obtain ⟨n, sg, rfl⟩ : ∃ n sg, ws = [n, sg] := by
      match ws, c2 with
      | [n, sg], _ => exact ⟨n, sg, rfl⟩
    obtain ⟨c, r, en⟩ := (hw n (by simp)).cons
    have y := ydue_spec (sg := sg) en (hw n (by simp)).2 s
    have g1 := get_new s (.lst (dueL (due2 n sg)))
    have i0 : dIx (.loc l) (.int 0) s = some (.str n, s) := by rw [dIx_loc g]; simp
    have i1 : dIx (.loc l) (.int 1) s = some (.str sg, s) := by rw [dIx_loc g]; simp
    have x1 := Ext.mk s [Cell.lst (dueL (due2 n sg))]
    obtain ⟨s1, hs1⟩ : ∃ s1, s1 = s ++ [Cell.lst (dueL (due2 n sg))] := ⟨_, rfl⟩
    rw [← hs1] at y g1 x1
    clear hs1
    have wl1 := dLen_loc (x1.get g)
    simp at wl wl1
    show ∃ (k : Nat) (s' : Store) (L : List D), _ ∧ _ ∧ _ ∧ SdL (sd2 n sg) L
    unfold sd2
    cases q : due2 n sg with
    | bad w =>
      rw [q] at g1
      simp only [dueL] at g1
      have j0 : dIx (.loc s.length) (.int 0) s1 = some (.int 1, s1) := by rw [dIx_loc g1]; simp
      have j1 : dIx (.loc s.length) (.int 1) s1 = some (.str w, s1) := by rw [dIx_loc g1]; simp
      have ad := dAdd_loc (s := s1 ++ [.lst [.str w]]) (l := s.length) (k := s1.length) ((Ext.mk _ _).get g1) (get_new _ _) (by simp)
      have gf := get_new (s1 ++ [.lst [.str w]]) (.lst ([.int 1, .str w] ++ [.str w]))
      refine ⟨_, _, _, ?_, gf, (x1.trans (Ext.mk _ _)).trans (Ext.mk _ _), [.str w], rfl⟩
      simp at ad
      simp [m_d_law_stretch_due, b_d_law_stretch_due, wl, i0, i1, y, j0, j1, wl1, ad]
    | good a =>
      rw [q] at g1
      simp only [dueL] at g1
      have j0 : dIx (.loc s.length) (.int 0) s1 = some (.int 0, s1) := by rw [dIx_loc g1]; simp
      have j1 : dIx (.loc s.length) (.int 1) s1 = some (.int a, s1) := by rw [dIx_loc g1]; simp
      have ad := dAdd_loc (s := s1 ++ [.lst [.int a]]) (l := s.length) (k := s1.length) ((Ext.mk _ _).get g1) (get_new _ _) (by simp)
      have gf := get_new (s1 ++ [.lst [.int a]]) (.lst ([.int 0, .int a] ++ [.int a]))
      refine ⟨_, _, _, ?_, gf, (x1.trans (Ext.mk _ _)).trans (Ext.mk _ _), rfl⟩
      simp at ad
      simp [m_d_law_stretch_due, b_d_law_stretch_due, wl, i0, i1, y, j0, j1, wl1, ad]
  by_cases c5 : ws.length = 5
  · obtain ⟨n, sg, t, m, sh, rfl⟩ : ∃ n sg t m sh, ws = [n, sg, t, m, sh] := by
      match ws, c5 with
      | [n, sg, t, m, sh], _ => exact ⟨n, sg, t, m, sh, rfl⟩
    simp at wl
    have i2 : dIx (.loc l) (.int 2) s = some (.str t, s) := by rw [dIx_loc g]; simp
    by_cases ct : t = "to"
    · subst ct
      obtain ⟨c, r, en⟩ := (hw n (by simp)).cons
      obtain ⟨c', r', em⟩ := (hw m (by simp)).cons
      have i0 : dIx (.loc l) (.int 0) s = some (.str n, s) := by rw [dIx_loc g]; simp
      have i1 : dIx (.loc l) (.int 1) s = some (.str sg, s) := by rw [dIx_loc g]; simp
      have y := ydue_spec (sg := sg) en (hw n (by simp)).2 s
      have g1 := get_new s (.lst (dueL (due2 n sg)))
      have x1 := Ext.mk s [Cell.lst (dueL (due2 n sg))]
      obtain ⟨s1, hs1⟩ : ∃ s1, s1 = s ++ [Cell.lst (dueL (due2 n sg))] := ⟨_, rfl⟩
      rw [← hs1] at y g1 x1
      clear hs1
      have gl1 := x1.get g
      have wl1 := dLen_loc gl1
      simp at wl1
      have i3 : dIx (.loc l) (.int 3) s1 = some (.str m, s1) := by rw [dIx_loc gl1]; simp
      have i4 : dIx (.loc l) (.int 4) s1 = some (.str sh, s1) := by rw [dIx_loc gl1]; rfl
      have y2 := ydue_spec (sg := sh) em (hw m (by simp)).2 s1
      have g2 := get_new s1 (.lst (dueL (due2 m sh)))
      have x2 := Ext.mk s1 [Cell.lst (dueL (due2 m sh))]
      obtain ⟨s2, hs2⟩ : ∃ s2, s2 = s1 ++ [Cell.lst (dueL (due2 m sh))] := ⟨_, rfl⟩
      rw [← hs2] at y2 g2 x2
      clear hs2
      show ∃ (k : Nat) (s' : Store) (L : List D), _ ∧ _ ∧ _ ∧ SdL (if ("to" : Str) = "to" then sd5 n sg m sh else .bad "words") L
      rw [if_pos rfl]
      unfold sd5
      cases q : due2 n sg with
      | bad w =>
        rw [q] at g1
        simp only [dueL] at g1
        have j0 : dIx (.loc s.length) (.int 0) s1 = some (.int 1, s1) := by rw [dIx_loc g1]; simp
        have j1 : dIx (.loc s.length) (.int 1) s1 = some (.str w, s1) := by rw [dIx_loc g1]; simp
        have ad := dAdd_loc (s := s1 ++ [.lst [.str w]]) (l := s.length) (k := s1.length) ((Ext.mk _ _).get g1) (get_new _ _) (by simp)
        have gf := get_new (s1 ++ [.lst [.str w]]) (.lst ([.int 1, .str w] ++ [.str w]))
        refine ⟨_, _, _, ?_, gf, (x1.trans (Ext.mk _ _)).trans (Ext.mk _ _), [.str w], rfl⟩
        simp at ad
        simp [m_d_law_stretch_due, b_d_law_stretch_due, wl, i2, i0, i1, y, j0, j1, wl1, ad]
      | good a =>
        rw [q] at g1
        simp only [dueL] at g1
        have j0 : dIx (.loc s.length) (.int 0) s1 = some (.int 0, s1) := by rw [dIx_loc g1]; simp
        have j1 : dIx (.loc s.length) (.int 1) s2 = some (.int a, s2) := by rw [dIx_loc (x2.get g1)]; simp
        cases q2 : due2 m sh with
        | bad w =>
          rw [q2] at g2
          simp only [dueL] at g2
          have k0 : dIx (.loc s1.length) (.int 0) s2 = some (.int 1, s2) := by rw [dIx_loc g2]; simp
          exact ⟨_, _, _, by simp [m_d_law_stretch_due, b_d_law_stretch_due, wl, i2, i0, i1, y, j0, j1, wl1, i3, i4, y2, k0], g2, x1.trans x2, [], rfl⟩
        | good b =>
          rw [q2] at g2
          simp only [dueL] at g2
          have k0 : dIx (.loc s1.length) (.int 0) s2 = some (.int 0, s2) := by rw [dIx_loc g2]; simp
          have k1 : dIx (.loc s1.length) (.int 1) s2 = some (.int b, s2) := by rw [dIx_loc g2]; simp
          by_cases cj : b < a
          · have gf := get_new s2 (.lst [.int 1, .str "order"])
            refine ⟨_, _, _, ?_, gf, (x1.trans x2).trans (Ext.mk _ _), ?_⟩
            · simp [m_d_law_stretch_due, b_d_law_stretch_due, wl, i2, i0, i1, y, j0, j1, wl1, i3, i4, y2, k0, k1, cj]
            · simp only [cj, if_true]
              exact ⟨[], rfl⟩
          · have gf := get_new s2 (.lst [.int 0, .int a, .int b])
            refine ⟨_, _, _, ?_, gf, (x1.trans x2).trans (Ext.mk _ _), ?_⟩
            · simp [m_d_law_stretch_due, b_d_law_stretch_due, wl, i2, i0, i1, y, j0, j1, wl1, i3, i4, y2, k0, k1, cj]
            · simp only [cj, if_false]
              rfl
    · have gf := get_new s (.lst [.int 1, .str "words"])
      refine ⟨_, _, _, ?_, gf, Ext.mk _ _, ?_⟩
      · simp [m_d_law_stretch_due, b_d_law_stretch_due, wl, i2, ct]
      · show SdL (if t = "to" then sd5 n sg m sh else .bad "words") _
        rw [if_neg ct]
        exact ⟨[], rfl⟩
  · have ed : sd ws = .bad "words" := by
      match ws, c2, c5 with
      | [], _, _ => rfl
      | [_], _, _ => rfl
      | [_, _, _], _, _ => rfl
      | [_, _, _, _], _, _ => rfl
      | _ :: _ :: _ :: _ :: _ :: _ :: _, _, _ => rfl
      | [_, _], c2, _ => exact absurd rfl c2
      | [_, _, _, _, _], _, c5 => exact absurd rfl c5
    have c2' : ¬ ((ws.length : Nat) : Int) = 2 := by omega
    have c5' : ¬ ((ws.length : Nat) : Int) = 5 := by omega
    rw [ed]
    have gf := get_new s (.lst [.int 1, .str "words"])
    refine ⟨_, _, _, ?_, gf, Ext.mk _ _, [], rfl⟩
    simp [m_d_law_stretch_due, b_d_law_stretch_due, wl, c2, c5, c2', c5']
end Law
namespace Law
open PySem Mi
/-! ### words whose signs are characters -/
theorem cut_sub : ∀ (l acc : List Nat), ∀ w ∈ cut acc l, ∀ c ∈ w, c ∈ acc ∨ c ∈ l
  | [], acc, w, hw, c, hc => by
    rw [cut_nil] at hw
    rw [List.mem_singleton.mp hw] at hc
    exact .inl hc
  | x :: l, acc, w, hw, c, hc => by
    rw [cut_cons] at hw
    by_cases hx : x = 32
    · rw [if_pos hx] at hw
      rcases List.mem_cons.mp hw with rfl | hw
      · exact .inl hc
      · rcases cut_sub l [] w hw c hc with h | h
        · cases h
        · exact .inr (List.mem_cons_of_mem _ h)
    · rw [if_neg hx] at hw
      rcases cut_sub l (acc ++ [x]) w hw c hc with h | h
      · rcases List.mem_append.mp h with h | h
        · exact .inl h
        · rw [List.mem_singleton.mp h]; exact .inr List.mem_cons_self
      · exact .inr (List.mem_cons_of_mem _ h)
def TOk (z : Str) : Prop := ∀ c ∈ tl z, c < 1000
theorem words_tok {t w : Str} (h : TOk t) (hw : w ∈ words t) : TOk w := fun c hc => by
  have hm : tl w ∈ (words t).map tl := List.mem_map.mpr ⟨w, hw, rfl⟩
  rw [words_W] at hm
  obtain ⟨h1, _⟩ := List.mem_filter.mp hm
  rcases cut_sub _ _ _ h1 c hc with z | z
  · cases z
  · exact h c z
theorem tok_ok {z : Str} (h : TOk z) : PyData.strOk z = true := by
  unfold PyData.strOk
  rw [← Array.all_toList]
  exact List.all_eq_true.mpr fun c hc => by
    have := h c hc
    simp
    omega
theorem pys_str : ∀ ws : List Str, pys0 (ws.map D.str) = some (ws.map PyData.str)
  | [] => rfl
  | x :: r => by rw [List.map_cons, pys0, py0, pys_str r]; rfl
theorem lay_str : ∀ ws : List Str, (∀ w ∈ ws, TOk w) → PyData.canLayAll0 (ws.map PyData.str) = true ∧ PyData.depthAll (ws.map PyData.str) = 0
  | [], _ => ⟨by simp [PyData.canLayAll0], by simp [PyData.depthAll]⟩
  | x :: r, h => by
    obtain ⟨a, b⟩ := lay_str r fun y hy => h y (by simp [hy])
    constructor
    · simp [PyData.canLayAll0, PyData.canLay0, tok_ok (h x (by simp)), a]
    · simp [PyData.depthAll, PyData.depth, b]
theorem eq_never {s : Store} {l k : Nat} {ws : List Str} (h : s[l]? = some (.lst (ws.map D.str))) (hw : ∀ w ∈ ws, TOk w) (h2 : s[k]? = some (.lst [.str "never"])) : dEq (.loc l) (.loc k) s = some (.bl (decide (ws = [("never" : Str)])), s) := by
  obtain ⟨a, b⟩ := lay_str ws hw
  have nv : ∀ w ∈ [("never" : Str)], TOk w := fun w h => by
    rw [List.mem_singleton.mp h]
    have : tl ("never" : Str) = [110, 101, 118, 101, 114] := by decide +kernel
    intro c hc
    rw [this] at hc
    simp at hc
    omega
  obtain ⟨a2, b2⟩ := lay_str _ nv
  have h1 : py1 s (.loc l) = some (.list (ws.map PyData.str)) := by simp [py1, h, pys_str]
  have h3 : py1 s (.loc k) = some (.list [PyData.str "never"]) := by simp [py1, h2, pys0, py0]
  have h4 : SeqAt.shaped (.list (ws.map PyData.str)) = true := by
    simp [SeqAt.shaped, PyData.canLay0, PyData.depth, a, b]
  have h5 : SeqAt.shaped (.list [PyData.str "never"]) = true := by
    have a2' : PyData.canLayAll0 [PyData.str "never"] = true := a2
    have b2' : PyData.depthAll [PyData.str "never"] = 0 := b2
    simp [SeqAt.shaped, PyData.canLay0, PyData.depth, a2', b2']
  have h6 : PyData.eqv (.list (ws.map PyData.str)) (.list [PyData.str "never"]) = decide (ws = [("never" : Str)]) := by
    match ws with
    | [] => simp [PyData.eqv, PyData.eqvAll]
    | [x] => simp [PyData.eqv, PyData.eqvAll, Bool.beq_eq_decide_eq]
    | _ :: _ :: _ => simp [PyData.eqv, PyData.eqvAll]
  have h7 : dScal (.loc l) (.loc k) = none := rfl
  simp [dEq, dEqB, h7, h1, h3, h4, h5, h6]
/-! ### the first wrong stretch, or all -/
def pr (x : Int × Int) : D := .tup [.int x.1, .int x.2]
inductive FD where
  | bad (w : Str) | good (L : List (Int × Int))
def fst : List (List Str) → FD
  | [] => .good []
  | g :: r => match sd g with | .bad w => .bad w | .good a b => match fst r with | .bad w => .bad w | .good L => .good ((a, b) :: L)
theorem fst_le : ∀ {gs : List (List Str)} {L : List (Int × Int)}, fst gs = .good L → (∀ x ∈ L, x.1 ≤ x.2) ∧ L.length = gs.length
  | [], L, h => by cases h; exact ⟨by simp, rfl⟩
  | g :: r, L, h => by
    rw [fst] at h
    cases q : sd g with
    | bad w => rw [q] at h; cases h
    | good a b =>
      rw [q] at h
      dsimp only at h
      cases q2 : fst r with
      | bad w => rw [q2] at h; cases h
      | good L' =>
        rw [q2] at h
        cases h
        obtain ⟨h1, h2⟩ := fst_le q2
        refine ⟨fun x hx => ?_, by simp [h2]⟩
        rcases List.mem_cons.mp hx with rfl | hx
        · exact sd_le q
        · exact h1 x hx
theorem pys_pr : ∀ fs : List (Int × Int), pys0 (fs.map pr) = some (fs.map fun x => PyData.tuple [.int x.1, .int x.2])
  | [] => rfl
  | x :: r => by rw [List.map_cons, pys0, pys_pr r]; rfl
theorem lay_pr : ∀ fs : List (Int × Int), PyData.canLayAll0 (fs.map fun x => PyData.tuple [.int x.1, .int x.2]) = true ∧ PyData.depthAll (fs.map fun x => PyData.tuple [.int x.1, .int x.2]) ≤ 10
  | [] => ⟨by simp [PyData.canLayAll0], by simp [PyData.depthAll]⟩
  | x :: r => by
    obtain ⟨a, b⟩ := lay_pr r
    constructor
    · simp [PyData.canLayAll0, PyData.canLay0]
      simpa using a
    · have e : PyData.depth (PyData.tuple [.int x.1, .int x.2]) ≤ 10 := by simp [PyData.depth, PyData.depthAll]
      simp only [List.map_cons, PyData.depthAll]
      omega
theorem ne_nilP {s : Store} {l k : Nat} {fs : List (Int × Int)} (h : s[l]? = some (.lst (fs.map pr))) (h2 : s[k]? = some (.lst [])) : dNe (.loc l) (.loc k) s = some (.bl (!fs.isEmpty), s) := by
  obtain ⟨a, b⟩ := lay_pr fs
  have h1 : py1 s (.loc l) = some (.list (fs.map fun x => PyData.tuple [.int x.1, .int x.2])) := by simp [py1, h, pys_pr]
  have h3 : py1 s (.loc k) = some (.list []) := by simp [py1, h2, pys0]
  have h4 : SeqAt.shaped (.list (fs.map fun x => PyData.tuple [.int x.1, .int x.2])) = true := by
    simp [SeqAt.shaped, PyData.canLay0, PyData.depth, a]
    omega
  have h5 : SeqAt.shaped (.list []) = true := by simp [SeqAt.shaped, PyData.canLay0, PyData.canLayAll0, PyData.depth, PyData.depthAll]
  have h6 : PyData.eqv (.list (fs.map fun x => PyData.tuple [.int x.1, .int x.2])) (.list []) = fs.isEmpty := by
    cases fs <;> simp [PyData.eqv, PyData.eqvAll]
  have h7 : dScal (.loc l) (.loc k) = none := rfl
  simp [dNe, dEqB, h7, h1, h3, h4, h5, h6]
/-! ### both loops over the groups -/
structure Lp (s0 s : Store) (f p : Nat) (LS : List D) (P : List (Int × Int)) (ls : List Nat) (gs : List (List Str)) : Prop where
  x : Ext s0 s
  hp : s0.length ≤ p
  gf : s[f]? = some (.lst LS)
  ne : f ≠ p
  gp : s[p]? = some (.lst (P.map pr))
  gl : AtL s ls gs
  nl : ∀ l ∈ ls, l ≠ p
  ok : ∀ g ∈ gs, (∀ w ∈ g, WW w) ∧ g.length ≤ 200000
  len : P.length + gs.length ≤ 400000
theorem Lp.next {s0 s s' : Store} {f p l : Nat} {LS : List D} {P : List (Int × Int)} {ls : List Nat} {g : List Str} {gs : List (List Str)} (h : Lp s0 s f p LS P (l :: ls) (g :: gs)) (x : Ext s s') (z : Int × Int) :
    Lp s0 (s'.set p (.lst (P.map pr ++ [pr z]))) f p LS (P ++ [z]) ls gs := by
  refine ⟨ext_setNew (h.x.trans x) h.hp _, h.hp, ?_, h.ne, ?_, ?_, fun l hl => h.nl l (List.mem_cons_of_mem _ hl), fun g hg => h.ok g (List.mem_cons_of_mem _ hg), ?_⟩
  · rw [List.getElem?_set_ne h.ne.symm]; exact x.get h.gf
  · rw [get_set (x.get h.gp), List.map_append]; rfl
  · exact (AtL.ext x h.gl.2).mono fun l hl => List.getElem?_set_ne (h.nl l (List.mem_cons_of_mem _ hl)).symm
  · have := h.len
    simp at this ⊢
    omega
theorem dfrom_loop {s0 : Store} {f p : Nat} {LS : List D} (a0 : Option D) : ∀ (ls : List Nat) (gs : List (List Str)) (P : List (Int × Int)) (s : Store) (o2 o3 o4 : Option D), Lp s0 s f p LS P ls gs →
    match fst gs with
    | .bad w => ∃ s', forL (fun s2 => s2[f]? = some (Cell.lst LS)) (gN 2) bl_dates_from_1 (ls.map D.loc) [a0, some (.loc p), o2, o3, o4] s = .rt (.tup [.non, .str w]) s' ∧ Ext s0 s'
    | .good L => ∃ o2' o3' o4' s', forL (fun s2 => s2[f]? = some (Cell.lst LS)) (gN 2) bl_dates_from_1 (ls.map D.loc) [a0, some (.loc p), o2, o3, o4] s = .nx [a0, some (.loc p), o2', o3', o4'] s' ∧ Ext s0 s' ∧ s'[p]? = some (.lst ((P ++ L).map pr))
  | [], [], P, s, o2, o3, o4, h => by
    show ∃ o2' o3' o4' s', _
    rw [List.map_nil, forL_nil _ _ (fun s2 => s2[f]? = some (Cell.lst LS)) h.gf]
    exact ⟨_, _, _, _, rfl, h.x, by rw [List.append_nil]; exact h.gp⟩
  | [], _ :: _, _, _, _, _, _, h => h.gl.elim
  | _ :: _, [], _, _, _, _, _, h => h.gl.elim
  | l :: ls, g :: gs, P, s, o2, o3, o4, h => by
    obtain ⟨ok1, ok2⟩ := h.ok g List.mem_cons_self
    obtain ⟨s1, e1, x1⟩ := sfrom_spec ok1 ok2 h.gl.1
    rw [List.map_cons, forL_cons _ _ (fun s2 => s2[f]? = some (Cell.lst LS)) h.gf]
    simp only [gN, List.set_cons_succ, List.set_cons_zero]
    rw [fst]
    cases q : sd g with
    | bad w =>
      rw [q] at e1
      simp only [sfD] at e1
      refine ⟨s1, ?_, h.x.trans x1⟩
      simp [bl_dates_from_1, e1]
    | good a b =>
      rw [q] at e1
      simp only [sfD] at e1
      have hl := h.len
      have ap := dAppend_loc (x1.get h.gp) (by simp at hl ⊢; omega) (.tup [.int a, .int b])
      have tk := tyOk_list (x1.get h.gp)
      have ih := dfrom_loop a0 ls gs (P ++ [(a, b)]) _ (some (.loc l)) (some (.tup [.int a, .int b])) (some .non) (h.next x1 (a, b))
      have tn : bl_dates_from_1 [a0, some (.loc p), some (.loc l), o3, o4] s = .nx [a0, some (.loc p), some (.loc l), some (.tup [.int a, .int b]), some .non] (s1.set p (.lst (P.map pr ++ [pr (a, b)]))) := by
        simp [bl_dates_from_1, e1, ap, tk]
        rfl
      rw [tn]
      dsimp only
      cases q2 : fst gs with
      | bad w => rw [q2] at ih; exact ih
      | good L =>
        rw [q2] at ih
        simp only [List.append_assoc, List.cons_append, List.nil_append] at ih
        exact ih
theorem ldue_loop {s0 : Store} {f p : Nat} {LS : List D} (a0 a1 a2 a3 : Option D) : ∀ (ls : List Nat) (gs : List (List Str)) (P : List (Int × Int)) (s : Store) (o5 o6 : Option D), Lp s0 s f p LS P ls gs →
    match fst gs with
    | .bad w => ∃ k s', forL (fun s2 => s2[f]? = some (Cell.lst LS)) (gN 5) bl_d_law_due_2 (ls.map D.loc) [a0, a1, a2, a3, some (.loc p), o5, o6, none, none, none] s = .rt (.loc k) s' ∧ Ext s0 s' ∧ s'[k]? = some (.lst [.int 1, .str w])
    | .good L => ∃ o5' o6' s', forL (fun s2 => s2[f]? = some (Cell.lst LS)) (gN 5) bl_d_law_due_2 (ls.map D.loc) [a0, a1, a2, a3, some (.loc p), o5, o6, none, none, none] s = .nx [a0, a1, a2, a3, some (.loc p), o5', o6', none, none, none] s' ∧ Ext s0 s' ∧ s'[p]? = some (.lst ((P ++ L).map pr))
  | [], [], P, s, o5, o6, h => by
    show ∃ o5' o6' s', _
    rw [List.map_nil, forL_nil _ _ (fun s2 => s2[f]? = some (Cell.lst LS)) h.gf]
    exact ⟨_, _, _, rfl, h.x, by rw [List.append_nil]; exact h.gp⟩
  | [], _ :: _, _, _, _, _, h => h.gl.elim
  | _ :: _, [], _, _, _, _, h => h.gl.elim
  | l :: ls, g :: gs, P, s, o5, o6, h => by
    obtain ⟨ok1, ok2⟩ := h.ok g List.mem_cons_self
    obtain ⟨k, s1, L1, e1, g1, x1, hL⟩ := sdue_spec ok1 ok2 h.gl.1
    rw [List.map_cons, forL_cons _ _ (fun s2 => s2[f]? = some (Cell.lst LS)) h.gf]
    simp only [gN, List.set_cons_succ, List.set_cons_zero]
    rw [fst]
    cases q : sd g with
    | bad w =>
      rw [q] at hL
      obtain ⟨e, rfl⟩ := hL
      have j0 : dIx (.loc k) (.int 0) s1 = some (.int 1, s1) := by rw [dIx_loc g1]; simp
      have j1 : dIx (.loc k) (.int 1) s1 = some (.str w, s1) := by rw [dIx_loc g1]; simp
      refine ⟨s1.length, s1 ++ [.lst [.int 1, .str w]], ?_, (h.x.trans x1).trans (Ext.mk _ _), get_new _ _⟩
      simp [bl_d_law_due_2, e1, j0, j1]
    | good a b =>
      rw [q] at hL
      have hL' : L1 = [.int 0, .int a, .int b] := hL
      subst hL'
      have j0 : dIx (.loc k) (.int 0) s1 = some (.int 0, s1) := by rw [dIx_loc g1]; simp
      have j1 : dIx (.loc k) (.int 1) s1 = some (.int a, s1) := by rw [dIx_loc g1]; simp
      have j2 : dIx (.loc k) (.int 2) s1 = some (.int b, s1) := by rw [dIx_loc g1]; simp
      have hl := h.len
      have ap := dAppend_loc (x1.get h.gp) (by simp at hl ⊢; omega) (.tup [.int a, .int b])
      have tk := tyOk_list (x1.get h.gp)
      have ih := ldue_loop a0 a1 a2 a3 ls gs (P ++ [(a, b)]) _ (some (.loc l)) (some (.loc k)) (h.next x1 (a, b))
      have tn : bl_d_law_due_2 [a0, a1, a2, a3, some (.loc p), some (.loc l), o6, none, none, none] s = .nx [a0, a1, a2, a3, some (.loc p), some (.loc l), some (.loc k), none, none, none] (s1.set p (.lst (P.map pr ++ [pr (a, b)]))) := by
        simp [bl_d_law_due_2, e1, j0, j1, j2, ap, tk]
        rfl
      rw [tn]
      dsimp only
      cases q2 : fst gs with
      | bad w => rw [q2] at ih; exact ih
      | good L =>
        rw [q2] at ih
        simp only [List.append_assoc, List.cons_append, List.nil_append] at ih
        exact ih
end Law
namespace Law
open PySem Mi
/-! ### stretches -/
/-- stretches, ascending behind lo, none touching -/
def Nrm : Int → List (Int × Int) → Prop
  | _, [] => True
  | lo, x :: r => lo + 2 ≤ x.1 ∧ x.1 ≤ x.2 ∧ Nrm x.2 r
def lastOf : Int → List (Int × Int) → Int
  | lo, [] => lo
  | _, x :: r => lastOf x.2 r
def mem (y : Int) (ps : List (Int × Int)) : Prop := ∃ x ∈ ps, x.1 ≤ y ∧ y ≤ x.2
@[simp] theorem mem_nil (y : Int) : ¬ mem y [] := fun ⟨_, h, _⟩ => by cases h
@[simp] theorem mem_cons {y : Int} {x : Int × Int} {r : List (Int × Int)} : mem y (x :: r) ↔ (x.1 ≤ y ∧ y ≤ x.2) ∨ mem y r := by
  constructor
  · rintro ⟨z, h, q⟩
    rcases List.mem_cons.mp h with e | h
    · exact .inl (e ▸ q)
    · exact .inr ⟨z, h, q⟩
  · rintro (h | ⟨z, h, q⟩)
    · exact ⟨x, by simp, h⟩
    · exact ⟨z, by simp [h], q⟩
@[simp] theorem mem_app {y : Int} {ps qs : List (Int × Int)} : mem y (ps ++ qs) ↔ mem y ps ∨ mem y qs := by
  constructor
  · rintro ⟨z, h, q⟩
    rcases List.mem_append.mp h with h | h
    · exact .inl ⟨z, h, q⟩
    · exact .inr ⟨z, h, q⟩
  · rintro (⟨z, h, q⟩ | ⟨z, h, q⟩)
    · exact ⟨z, by simp [h], q⟩
    · exact ⟨z, by simp [h], q⟩
theorem Nrm.ge : ∀ {ps : List (Int × Int)} {lo y : Int}, Nrm lo ps → mem y ps → lo + 2 ≤ y
  | [], _, _, _, h => (mem_nil _ h).elim
  | x :: r, lo, y, ⟨a, b, c⟩, h => by
    rcases mem_cons.mp h with h | h
    · omega
    · have := Nrm.ge c h
      omega
theorem Nrm.le {lo lo' : Int} {ps : List (Int × Int)} (h : Nrm lo ps) (e : lo' ≤ lo) : Nrm lo' ps := by
  cases ps with
  | nil => trivial
  | cons x r => exact ⟨by have := h.1; omega, h.2⟩
theorem uniq : ∀ {ps qs : List (Int × Int)} {lo lo' : Int}, Nrm lo ps → Nrm lo' qs → (∀ y, mem y ps ↔ mem y qs) → ps = qs
  | [], [], _, _, _, _, _ => rfl
  | [], q :: qs, _, _, _, hq, h => ((mem_nil _) ((h q.1).mpr (mem_cons.mpr (.inl ⟨Int.le_refl _, hq.2.1⟩)))).elim
  | x :: ps, [], _, _, hp, _, h => ((mem_nil _) ((h x.1).mp (mem_cons.mpr (.inl ⟨Int.le_refl _, hp.2.1⟩)))).elim
  | x :: ps, q :: qs, lo, lo', ⟨a1, a2, a3⟩, ⟨b1, b2, b3⟩, h => by
    have m1 := mem_cons.mp ((h x.1).mp (mem_cons.mpr (.inl ⟨Int.le_refl _, a2⟩)))
    have m2 := mem_cons.mp ((h q.1).mpr (mem_cons.mpr (.inl ⟨Int.le_refl _, b2⟩)))
    have g1 : q.1 ≤ x.1 := by
      rcases m1 with m | m
      · exact m.1
      · have := b3.ge m; omega
    have g2 : x.1 ≤ q.1 := by
      rcases m2 with m | m
      · exact m.1
      · have := a3.ge m; omega
    have e1 : x.1 = q.1 := by omega
    have e2 : x.2 = q.2 := by
      rcases (by omega : x.2 = q.2 ∨ x.2 < q.2 ∨ q.2 < x.2) with c | c | c
      · exact c
      · rcases mem_cons.mp ((h (x.2 + 1)).mpr (mem_cons.mpr (.inl ⟨by omega, by omega⟩))) with m | m
        · omega
        · have := a3.ge m; omega
      · rcases mem_cons.mp ((h (q.2 + 1)).mp (mem_cons.mpr (.inl ⟨by omega, by omega⟩))) with m | m
        · omega
        · have := b3.ge m; omega
    have e : x = q := Prod.ext e1 e2
    subst e
    refine congrArg (x :: ·) (uniq a3 b3 fun y => ?_)
    constructor
    · intro m
      have := a3.ge m
      rcases mem_cons.mp ((h y).mp (mem_cons.mpr (.inr m))) with z | z
      · omega
      · exact z
    · intro m
      have := b3.ge m
      rcases mem_cons.mp ((h y).mpr (mem_cons.mpr (.inr m))) with z | z
      · omega
      · exact z
/-- ascending, none above hi -/
def Asc (ps : List (Int × Int)) (hi : Int) : Prop := ∃ lo, Nrm lo ps ∧ lastOf lo ps ≤ hi
theorem Asc.nil (hi : Int) : Asc [] hi := ⟨hi, trivial, Int.le_refl _⟩
theorem Asc.mono {ps : List (Int × Int)} {hi hi' : Int} (h : Asc ps hi) (e : hi ≤ hi') : Asc ps hi' := let ⟨lo, a, b⟩ := h; ⟨lo, a, Int.le_trans b e⟩
theorem nrm_snoc {x : Int × Int} : ∀ {ps : List (Int × Int)} {lo : Int}, Nrm lo (ps ++ [x]) ↔ Nrm lo ps ∧ lastOf lo ps + 2 ≤ x.1 ∧ x.1 ≤ x.2
  | [], lo => ⟨fun ⟨a, b, _⟩ => ⟨trivial, a, b⟩, fun ⟨_, a, b⟩ => ⟨a, b, trivial⟩⟩
  | y :: r, lo => ⟨fun ⟨a, b, c⟩ => let ⟨d, e⟩ := nrm_snoc.mp c; ⟨⟨a, b, d⟩, e⟩, fun ⟨⟨a, b, c⟩, e⟩ => ⟨a, b, nrm_snoc.mpr ⟨c, e⟩⟩⟩
theorem last_snoc {x : Int × Int} : ∀ {ps : List (Int × Int)} {lo : Int}, lastOf lo (ps ++ [x]) = x.2
  | [], _ => rfl
  | _ :: r, _ => last_snoc (ps := r)
theorem Asc.snoc {ps : List (Int × Int)} {hi : Int} {x : Int × Int} (h : Asc ps hi) (e : hi + 2 ≤ x.1) (e2 : x.1 ≤ x.2) : Asc (ps ++ [x]) x.2 :=
  let ⟨lo, a, b⟩ := h
  ⟨lo, nrm_snoc.mpr ⟨a, by omega, e2⟩, by rw [last_snoc]; exact Int.le_refl _⟩
theorem Asc.front {ps : List (Int × Int)} {hi : Int} {x : Int × Int} (h : Asc (ps ++ [x]) hi) : Asc ps (x.1 - 2) ∧ x.1 ≤ x.2 ∧ x.2 ≤ hi :=
  let ⟨lo, a, b⟩ := h
  let ⟨c, d, e⟩ := nrm_snoc.mp a
  ⟨⟨lo, c, by omega⟩, e, by rw [last_snoc] at b; exact b⟩
theorem Asc.uniq {ps qs : List (Int × Int)} {hi hi' : Int} (h : Asc ps hi) (h2 : Asc qs hi') (e : ∀ y, mem y ps ↔ mem y qs) : ps = qs :=
  let ⟨_, a, _⟩ := h
  let ⟨_, b, _⟩ := h2
  Law.uniq a b e
theorem ix0 (a b : D) (s : Store) : dIx (.tup [a, b]) (.int 0) s = some (a, s) := rfl
theorem ix1 (a b : D) (s : Store) : dIx (.tup [a, b]) (.int 1) s = some (b, s) := rfl
/-! ### make_dates -/
theorem py_pr (x : Int × Int) : pyD (pr x) = .tuple [.int x.1, .int x.2] := rfl
theorem ok_pr (L : List (Int × Int)) : sortOk (L.map pr) := by
  refine ⟨fun d hd => ?_, ?_, ?_⟩
  · obtain ⟨x, _, rfl⟩ := List.mem_map.mp hd
    exact ⟨rfl, by rw [py_pr]; simp [PyData.depth, PyData.depthAll]⟩
  · rw [List.map_map]
    exact PySem.W.AllAlike.of (enc := fun x => pyD (pr x)) fun x y => by rw [py_pr, py_pr]; simp [PySem.W.alike, PySem.W.alikeAll]
  · rw [List.map_map]
    exact PySem.W.Sortable.tuples (enc := fun x => pyD (pr x)) fun x => ⟨_, _, py_pr x⟩
theorem sort_pr (L : List (Int × Int)) : ∃ M : List (Int × Int), sortD (L.map pr) = M.map pr ∧ M.Perm L ∧ M.Pairwise fun x y => x.1 ≤ y.1 := by
  have e : (fun x y : Int × Int => PySem.W.dataLe false pyD (pr x) (pr y)) = fun x y => decide (x.1 < y.1 ∨ (x.1 = y.1 ∧ x.2 ≤ y.2)) :=
    PySem.W.dataLe_ii (fun x : Int × Int => x.1) (fun x => x.2)
  refine ⟨L.mergeSort fun x y => decide (x.1 < y.1 ∨ (x.1 = y.1 ∧ x.2 ≤ y.2)), ?_, List.mergeSort_perm _ _, ?_⟩
  · unfold sortD
    rw [← e, List.map_mergeSort (r := fun x y : Int × Int => PySem.W.dataLe false pyD (pr x) (pr y)) (s := PySem.W.dataLe false pyD) fun _ _ _ _ => rfl]
  · have q := List.pairwise_mergeSort (le := fun x y : Int × Int => decide (x.1 < y.1 ∨ (x.1 = y.1 ∧ x.2 ≤ y.2))) (fun a b c h1 h2 => by simp at h1 h2 ⊢; omega) (fun a b => by simp; omega) L
    refine q.imp fun {a b} h => ?_
    simp at h
    omega
def MakeI (d : D) (M : List (Int × Int)) (s0 : Store) (rest : List D) (env : Sl) (s : Store) : Prop := ∃ (P R fs : List (Int × Int)) (o2 o3 : Option D), rest = R.map pr ∧ M = P ++ R ∧
  env = [some d, some (.loc s0.length), o2, o3] ∧ s = s0 ++ ([.lst (fs.map pr)] ++ [.lst (M.map pr)]) ∧ fs.length ≤ P.length ∧ R.Pairwise (fun x y => x.1 ≤ y.1) ∧ (∀ x ∈ R, x.1 ≤ x.2) ∧
  ((P = [] ∧ fs = []) ∨ ∃ F z, fs = F ++ [z] ∧ Asc (F ++ [z]) z.2 ∧ ∀ x ∈ R, z.1 ≤ x.1) ∧ ∀ y, mem y fs ↔ mem y P
theorem make_spec {l0 : Nat} (L : List (Int × Int)) (hv : ∀ x ∈ L, x.1 ≤ x.2) (hz : L.length ≤ 400000) (s : Store) (g0 : s[l0]? = some (.lst (L.map pr))) :
    ∃ fs hi r, m_make_dates [.loc l0] s = .ok (.tup (fs.map pr)) (s ++ r) ∧ Asc fs hi ∧ fs.length ≤ L.length ∧ ∀ y, mem y fs ↔ mem y L := by
  obtain ⟨M, e1, pm, sm⟩ := sort_pr L
  have w0 : dSorted [.loc l0] (s ++ [.lst []]) = some (.loc (s.length + 1), s ++ ([.lst []] ++ [.lst (M.map pr)])) := by
    have q := ok_pr L
    have g0' := (Ext.mk s [Cell.lst []]).get g0
    simp [dSorted, seqOf, lstOf, g0', q, e1]
  have hm : ∀ y, mem y M ↔ mem y L := fun y => ⟨fun ⟨x, h, q⟩ => ⟨x, pm.mem_iff.mp h, q⟩, fun ⟨x, h, q⟩ => ⟨x, pm.mem_iff.mpr h, q⟩⟩
  have lM : M.length ≤ 400000 := by rw [pm.length_eq]; exact hz
  have gM : ∀ fs : List (Int × Int), (s ++ ([Cell.lst (fs.map pr)] ++ [Cell.lst (M.map pr)]))[s.length + 1]? = some (.lst (M.map pr)) := fun fs => by simp
  have gF : ∀ fs : List (Int × Int), (s ++ ([Cell.lst (fs.map pr)] ++ [Cell.lst (M.map pr)]))[s.length]? = some (.lst (fs.map pr)) := fun fs => by simp
  have sF : ∀ (fs : List (Int × Int)) c, (s ++ ([Cell.lst (fs.map pr)] ++ [Cell.lst (M.map pr)])).set s.length c = s ++ ([c] ++ [Cell.lst (M.map pr)]) := fun fs c => by simp
  obtain ⟨env', s', e, P, R, fs, o2, o3, hr, hPR, rfl, rfl, hfl, _, _, hF, hy⟩ := forL_thru (gd := fun s2 => s2[s.length + 1]? = some (Cell.lst (M.map pr))) (g := gT 2 (gsC (gN 2) (gsC (gN 3) gsN))) (b := bl_make_dates_1) (MakeI (.loc l0) M s)
    (fun _ _ _ ⟨P, R, fs, o2, o3, _, _, _, h, _⟩ => by subst h; exact gM fs) (xs := M.map pr) (env := [some (.loc l0), some (.loc s.length), none, none]) (s := s ++ ([.lst ([].map pr)] ++ [.lst (M.map pr)])) (fun x xs env s1 ⟨P, R, fs, o2, o3, hr, hPR, he, hs, hl, hsort, hval, hF, hy⟩ => by
      subst he hs
      cases R with
      | nil => cases hr
      | cons a R =>
        obtain ⟨rfl, rfl⟩ := List.cons.inj hr
        have hPl : P.length < M.length := by rw [hPR]; simp
        have ha := hval a (by simp)
        obtain ⟨sa, sR⟩ := List.pairwise_cons.mp hsort
        have fin : ∀ F z, Asc (F ++ [z]) z.2 → (∀ x ∈ R, z.1 ≤ x.1) → (F ++ [z]).length ≤ P.length + 1 → (∀ y, mem y (F ++ [z]) ↔ mem y P ∨ (a.1 ≤ y ∧ y ≤ a.2)) →
            MakeI (.loc l0) M s (R.map pr) [some (.loc l0), some (.loc s.length), some (.int a.1), some (.int a.2)] (s ++ ([.lst ((F ++ [z]).map pr)] ++ [.lst (M.map pr)])) := fun F z h1 h2 h3 h4 =>
          ⟨P ++ [a], R, F ++ [z], _, _, rfl, by rw [hPR]; simp, rfl, rfl, by simpa using h3, sR, fun x hx => hval x (by simp [hx]), .inr ⟨F, z, rfl, h1, h2⟩, fun y => by rw [h4 y]; simp⟩
        have t1 := tyOk_list (gF fs)
        have tr := dTru_loc (gF fs)
        rcases hF with ⟨rfl, rfl⟩ | ⟨F, z, rfl, asc, zs⟩
        · have w1 := dAppend_loc (gF []) (by simp) (.tup [.int a.1, .int a.2])
          rw [sF] at w1
          have f := fin [] a ((Asc.nil (a.1 - 2)).snoc (by omega) ha) sa (by simp) (fun y => by simp)
          simp at tr t1 w1
          simp [pr, bl_make_dates_1, tr, t1, w1]
          simpa [pr] using f
        · obtain ⟨af, az, _⟩ := asc.front
          have za := zs a (by simp)
          have gl := gF (F ++ [z])
          rw [List.map_append] at gl
          have lx : dIx (.loc s.length) (.int (-1)) (s ++ ([Cell.lst ((F ++ [z]).map pr)] ++ [Cell.lst (M.map pr)])) = some (.tup [.int z.1, .int z.2], s ++ ([Cell.lst ((F ++ [z]).map pr)] ++ [Cell.lst (M.map pr)])) := by
            rw [dIx_loc (gF (F ++ [z])), List.map_append]
            have q := atI_neg1 (F.map pr) (pr z)
            rw [show [z].map pr = [pr z] from rfl, q]
            rfl
          have tr' : dTru (s ++ ([Cell.lst ((F ++ [z]).map pr)] ++ [Cell.lst (M.map pr)])) (.loc s.length) = some true := by rw [tr]; simp
          simp only [List.length_append, List.length_cons, List.length_nil] at hl
          have rest : ∀ S, S = s ++ ([Cell.lst ((F ++ [z]).map pr)] ++ [Cell.lst (M.map pr)]) → tyOk "list" S (.loc s.length) = true → dTru S (.loc s.length) = some true → dIx (.loc s.length) (.int (-1)) S = some (.tup [.int z.1, .int z.2], S) →
              Turns (MakeI (.loc l0) M s (R.map pr)) (fun _ => False) (turn (gT 2 (gsC (gN 2) (gsC (gN 3) gsN))) bl_make_dates_1 (pr a) [some (.loc l0), some (.loc s.length), o2, o3] S) := fun S hS t1 tr' lx => by
            by_cases c : z.2 + 1 < a.1
            · have w1 := dAppend_loc (gF (F ++ [z])) (by simp; omega) (.tup [.int a.1, .int a.2])
              rw [sF, ← hS] at w1
              have f := fin (F ++ [z]) a (asc.snoc (by omega) ha) sa (by simp; omega) (fun y => by rw [mem_app, hy y]; simp)
              simp [pr, bl_make_dates_1, tr', t1, lx, w1, c, ix0, ix1]
              simpa [pr] using f
            · by_cases c2 : z.2 < a.2
              · have w2 := pList_last (s := S) (l := s.length) (xs := F.map pr) (y := pr z) (by rw [hS]; simp) (.tup [.int z.1, .int a.2])
                rw [show S.set s.length (Cell.lst (F.map pr ++ [.tup [.int z.1, .int a.2]])) = s ++ ([Cell.lst (F.map pr ++ [.tup [.int z.1, .int a.2]])] ++ [Cell.lst (M.map pr)]) by rw [hS, sF]] at w2
                have f := fin F (z.1, a.2) (af.snoc (x := (z.1, a.2)) (by show z.1 - 2 + 2 ≤ z.1; omega) (by show z.1 ≤ a.2; omega)) (fun x hx => zs x (by simp [hx])) (by simp; omega) (fun y => by
                  have q := hy y
                  rw [mem_app, mem_cons] at q ⊢
                  simp only [mem_nil, or_false] at q ⊢
                  rw [← q]
                  constructor
                  · rintro (m | ⟨m1, m2⟩)
                    · exact .inl (.inl m)
                    · by_cases c3 : y ≤ z.2
                      · exact .inl (.inr ⟨m1, c3⟩)
                      · exact .inr (by omega)
                  · rintro ((m | ⟨m1, m2⟩) | ⟨m1, m2⟩)
                    · exact .inl m
                    · exact .inr ⟨m1, by omega⟩
                    · exact .inr ⟨by omega, m2⟩)
                simp [pr, bl_make_dates_1, tr', t1, lx, c, c2, ix0, ix1, w2]
                simpa [pr] using f
              · have f := fin F z asc (fun x hx => zs x (by simp [hx])) (by simp; omega) (fun y => by
                  have q := hy y
                  rw [mem_app, mem_cons] at q ⊢
                  simp only [mem_nil, or_false] at q ⊢
                  rw [← q]
                  constructor
                  · rintro m
                    exact .inl m
                  · rintro (m | ⟨m1, m2⟩)
                    · exact m
                    · exact .inr ⟨by omega, by omega⟩)
                rw [← hS] at f
                simp [pr, bl_make_dates_1, tr', t1, lx, c, c2, ix0, ix1]
                exact f
          exact rest _ rfl t1 tr' lx)
    ⟨[], M, [], none, none, rfl, rfl, rfl, rfl, by simp, sm, fun x hx => hv x (pm.mem_iff.mp hx), .inl ⟨rfl, rfl⟩, fun y => Iff.rfl⟩
  have hR : R = [] := by
    cases R with
    | nil => rfl
    | cons _ _ => cases hr
  subst hR
  rw [List.append_nil] at hPR
  rw [← hPR] at hy hfl
  rw [pm.length_eq] at hfl
  have asc : ∃ hi, Asc fs hi := by
    rcases hF with ⟨_, rfl⟩ | ⟨F, z, rfl, q, _⟩
    · exact ⟨0, Asc.nil _⟩
    · exact ⟨_, q⟩
  obtain ⟨hi, asc⟩ := asc
  have g1 := gM []
  have g2 := dTuple_loc (gF fs)
  refine ⟨fs, hi, [.lst (fs.map pr)] ++ [.lst (M.map pr)], ?_, asc, hfl, fun y => (hy y).trans (hm y)⟩
  clear hPR hF hr gF sF
  generalize M.map pr = ms at *
  generalize fs.map pr = gs at *
  simp only [List.map_nil] at e g1
  simp only [List.cons_append, List.nil_append] at *
  simp [m_make_dates, b_make_dates, w0, g1, e, g2]
/-! ### the law's own joining -/
def JoinI (t o1 l2 l3 l4 o5 o6 : Option D) (j m : Nat) (M : List (Int × Int)) (s0 : Store) (rest : List D) (env : Sl) (s : Store) : Prop := ∃ (P R fs : List (Int × Int)) (o8 o9 : Option D), rest = R.map pr ∧ M = P ++ R ∧
  env = [t, o1, l2, l3, l4, o5, o6, some (.loc j), o8, o9] ∧ Ext s0 s ∧ s[j]? = some (.lst (fs.map pr)) ∧ s[m]? = some (.lst (M.map pr)) ∧ fs.length ≤ P.length ∧ R.Pairwise (fun x y => x.1 ≤ y.1) ∧ (∀ x ∈ R, x.1 ≤ x.2) ∧
  ((P = [] ∧ fs = []) ∨ ∃ F z, fs = F ++ [z] ∧ Asc (F ++ [z]) z.2 ∧ ∀ x ∈ R, z.1 ≤ x.1) ∧ ∀ y, mem y fs ↔ mem y P
theorem join_loop (t o1 l2 l3 l4 o5 o6 : Option D) {j m : Nat} {M : List (Int × Int)} {s0 s : Store} (hj : s0.length ≤ j) (hjm : j ≠ m) (x0 : Ext s0 s) (gj : s[j]? = some (.lst [])) (gm : s[m]? = some (.lst (M.map pr))) (hM : M.length ≤ 400000) (sm : M.Pairwise fun x y => x.1 ≤ y.1) (hv : ∀ x ∈ M, x.1 ≤ x.2) :
    ∃ (fs : List (Int × Int)) (hi : Int) (o8 o9 : Option D) (s' : Store), forL (fun s2 => s2[m]? = some (Cell.lst (M.map pr))) (gN 8) bl_d_law_due_1 (M.map pr) [t, o1, l2, l3, l4, o5, o6, some (.loc j), none, none] s = .nx [t, o1, l2, l3, l4, o5, o6, some (.loc j), o8, o9] s' ∧ Ext s0 s' ∧ s'[j]? = some (.lst (fs.map pr)) ∧ Asc fs hi ∧ fs.length ≤ M.length ∧ ∀ y, mem y fs ↔ mem y M := by
  obtain ⟨env', s', e, P, R, fs, o8, o9, hr, hPR, rfl, hx, hgj, _, hfl, _, _, hF, hy⟩ := forL_thru (gd := fun s2 => s2[m]? = some (Cell.lst (M.map pr))) (g := gN 8) (b := bl_d_law_due_1) (JoinI t o1 l2 l3 l4 o5 o6 j m M s0)
    (fun _ _ _ ⟨P, R, fs, _, _, _, _, _, _, _, h, _⟩ => h) (xs := M.map pr) (env := [t, o1, l2, l3, l4, o5, o6, some (.loc j), none, none]) (s := s) (fun x xs env s1 ⟨P, R, fs, o8, o9, hr, hPR, he, hx, hgj, hgm, hl, hsort, hval, hF, hy⟩ => by
      subst he
      cases R with
      | nil => cases hr
      | cons a R =>
        obtain ⟨rfl, rfl⟩ := List.cons.inj hr
        have hPl : P.length < M.length := by rw [hPR]; simp
        have ha := hval a (by simp)
        obtain ⟨sa, sR⟩ := List.pairwise_cons.mp hsort
        have x1 := Ext.mk s1 [Cell.lst []]
        have g1 := get_new s1 (.lst [])
        have q0 := ne_nilP (x1.get hgj) g1
        have tk := tyOk_list (x1.get hgj)
        have gj1 := x1.get hgj
        have gm1 := x1.get hgm
        obtain ⟨S, hS⟩ : ∃ S, S = s1 ++ [Cell.lst []] := ⟨_, rfl⟩
        rw [← hS] at x1 g1 q0 tk gj1 gm1
        have fin : ∀ (S2 : Store) F z o9, Ext s0 S2 → S2[j]? = some (.lst ((F ++ [z]).map pr)) → S2[m]? = some (.lst (M.map pr)) → Asc (F ++ [z]) z.2 → (∀ x ∈ R, z.1 ≤ x.1) → (F ++ [z]).length ≤ P.length + 1 → (∀ y, mem y (F ++ [z]) ↔ mem y P ∨ (a.1 ≤ y ∧ y ≤ a.2)) →
            JoinI t o1 l2 l3 l4 o5 o6 j m M s0 (R.map pr) [t, o1, l2, l3, l4, o5, o6, some (.loc j), some (pr a), o9] S2 := fun S2 F z o9 xx a1 a2 h1 h2 h3 h4 =>
          ⟨P ++ [a], R, F ++ [z], _, _, rfl, by rw [hPR]; simp, rfl, xx, a1, a2, by simpa using h3, sR, fun x hx => hval x (by simp [hx]), .inr ⟨F, z, rfl, h1, h2⟩, fun y => by rw [h4 y]; simp⟩
        have xS : ∀ c, Ext s0 (S.set j c) := fun c => ext_setNew (hx.trans x1) hj c
        have mS : ∀ c, (S.set j c)[m]? = some (.lst (M.map pr)) := fun c => by rw [List.getElem?_set_ne hjm]; exact gm1
        rcases hF with ⟨rfl, rfl⟩ | ⟨F, z, rfl, asc, zs⟩
        · have w1 := dAppend_loc gj1 (by simp) (pr a)
          have f := fin _ [] a o9 (xS (.lst ([].map pr ++ [pr a]))) (get_set gj1) (mS _) ((Asc.nil (a.1 - 2)).snoc (by omega) ha) sa (by simp) (fun y => by simp)
          simp at q0 w1
          generalize pr a = da at *
          simp [bl_d_law_due_1, ← hS, q0, tk, w1]
          exact f
        · obtain ⟨af, az, _⟩ := asc.front
          have za := zs a (by simp)
          have ln := dLen_loc gj1
          rw [List.length_map, List.length_append, List.length_singleton] at ln
          have e1 : ((F.length + 1 : Nat) : Int) - 1 = (F.length : Nat) := by omega
          have lx : dIx (.loc j) (.int (F.length : Nat)) S = some (.tup [.int z.1, .int z.2], S) := by
            rw [dIx_loc gj1, L2.atI_nat (v := pr z) (by simp)]
            rfl
          have q0' : dNe (.loc j) (.loc s1.length) S = some (.bl true, S) := by rw [q0]; simp
          simp only [List.length_append, List.length_cons, List.length_nil] at hl
          by_cases c : a.1 ≤ z.2 + 1
          · have gj2 : S[j]? = some (.lst (F.map pr ++ [pr z])) := by rw [gj1, List.map_append]; rfl
            have w1 := dPop_loc gj2
            have gp := get_set (c' := .lst (F.map pr)) gj1
            have w2 := dAppend_loc gp (by simp; omega) (.tup [.int z.1, .int (max z.2 a.2)])
            have tk2 := tyOk_list gp
            rw [List.set_set] at w2
            have f := fin (S.set j (.lst (F.map pr ++ [.tup [.int z.1, .int (max z.2 a.2)]]))) F (z.1, max z.2 a.2) (some (.tup [.int z.1, .int z.2])) (xS _) (by rw [get_set gj1, List.map_append]; rfl) (mS _) (af.snoc (x := (z.1, max z.2 a.2)) (by show z.1 - 2 + 2 ≤ z.1; omega) (by show z.1 ≤ max z.2 a.2; omega)) (fun x hx => zs x (by simp [hx])) (by simp; omega) (fun y => by
              have q := hy y
              rw [mem_app, mem_cons] at q ⊢
              simp only [mem_nil, or_false] at q ⊢
              rw [← q]
              constructor
              · rintro (m | ⟨m1, m2⟩)
                · exact .inl (.inl m)
                · by_cases c3 : y ≤ z.2
                  · exact .inl (.inr ⟨m1, c3⟩)
                  · exact .inr (by omega)
              · rintro ((m | ⟨m1, m2⟩) | ⟨m1, m2⟩)
                · exact .inl m
                · exact .inr ⟨m1, by omega⟩
                · exact .inr ⟨by omega, by omega⟩)
            have w1' : dPop (.loc j) [] S = some (.tup [.int z.1, .int z.2], S.set j (.lst (F.map pr))) := w1
            simp [pr, bl_d_law_due_1, ← hS, q0', ln, e1, lx, ix0, ix1, c, tk, w1', tk2, w2]
            exact f
          · have w1 := dAppend_loc gj1 (by simp; omega) (pr a)
            have f := fin (S.set j (.lst ((F ++ [z]).map pr ++ [pr a]))) (F ++ [z]) a o9 (xS _) (by rw [get_set gj1]; simp) (mS _) (asc.snoc (by omega) ha) sa (by simp; omega) (fun y => by rw [mem_app, hy y]; simp)
            obtain ⟨ZZ, hZZ⟩ : ∃ ZZ, ZZ = (F ++ [z]).map pr := ⟨_, rfl⟩
            rw [← hZZ] at w1 f
            simp only [pr] at w1 f
            simp [pr, bl_d_law_due_1, ← hS, q0', ln, e1, lx, ix0, ix1, c, tk, w1]
            exact f)
    ⟨[], M, [], none, none, rfl, rfl, rfl, x0, gj, gm, by simp, sm, hv, .inl ⟨rfl, rfl⟩, fun y => Iff.rfl⟩
  have hR : R = [] := by
    cases R with
    | nil => rfl
    | cons _ _ => cases hr
  subst hR
  rw [List.append_nil] at hPR
  rw [← hPR] at hy hfl
  have asc : ∃ hi, Asc fs hi := by
    rcases hF with ⟨_, rfl⟩ | ⟨F, z, rfl, q, _⟩
    · exact ⟨0, Asc.nil _⟩
    · exact ⟨_, q⟩
  obtain ⟨hi, asc⟩ := asc
  exact ⟨fs, hi, o8, o9, s', e, hx, hgj, asc, hfl, hy⟩
end Law
namespace Law
open PySem Mi
theorem parts_ok {P : Str → Prop} : ∀ (ws g : List Str), (∀ w ∈ g, P w) → (∀ w ∈ ws, P w) → (parts g ws).length ≤ ws.length + 1 ∧ ∀ x ∈ parts g ws, (∀ w ∈ x, P w) ∧ x.length ≤ g.length + ws.length
  | [], g, hg, _ => ⟨by simp [parts], fun x hx => by
      rw [parts] at hx
      rw [List.mem_singleton.mp hx]
      exact ⟨hg, by simp⟩⟩
  | w :: r, g, hg, hr => by
    have hr' : ∀ w ∈ r, P w := fun w hw => hr w (List.mem_cons_of_mem _ hw)
    rw [parts]
    by_cases c : w = "or"
    · rw [if_pos c]
      obtain ⟨a, b⟩ := parts_ok r [] (by simp) hr'
      refine ⟨by simp; omega, fun x hx => ?_⟩
      rcases List.mem_cons.mp hx with rfl | hx
      · exact ⟨hg, by simp⟩
      · obtain ⟨b1, b2⟩ := b x hx
        exact ⟨b1, by simp at b2 ⊢; omega⟩
    · rw [if_neg c]
      obtain ⟨a, b⟩ := parts_ok r (g ++ [w]) (fun z hz => by
        rcases List.mem_append.mp hz with hz | hz
        · exact hg z hz
        · rw [List.mem_singleton.mp hz]; exact hr w List.mem_cons_self) hr'
      refine ⟨by simp; omega, fun x hx => ?_⟩
      obtain ⟨b1, b2⟩ := b x hx
      exact ⟨b1, by simp at b2 ⊢; omega⟩
def verd (ws : List Str) : FD := if ws = [("never" : Str)] then .good [] else fst (parts [] ws)
def Norm (L fs : List (Int × Int)) : Prop := (∃ hi, Asc fs hi) ∧ ∀ y, mem y fs ↔ mem y L
theorem Norm.uniq {L fs gs : List (Int × Int)} (h : Norm L fs) (k : Norm L gs) : fs = gs := by
  obtain ⟨_, a⟩ := h.1
  obtain ⟨_, b⟩ := k.1
  exact a.uniq b fun y => (h.2 y).trans (k.2 y).symm
theorem Norm.nil : Norm [] [] := ⟨⟨0, Asc.nil 0⟩, fun _ => Iff.rfl⟩
theorem lp_start {s0 s : Store} {f p : Nat} {ls : List Nat} {ws : List Str} (x : Ext s0 s) (hp : s0.length ≤ p) (gf : s[f]? = some (.lst (ls.map D.loc))) (ne : f ≠ p) (gp : s[p]? = some (.lst [])) (gl : AtL s ls (parts [] ws)) (nl : ∀ l ∈ ls, l ≠ p) (hw : ∀ w ∈ ws, WW w) (hl : ws.length ≤ 200000) : Lp s0 s f p (ls.map D.loc) [] ls (parts [] ws) := by
  obtain ⟨a, b⟩ := parts_ok ws [] (by simp) hw
  exact ⟨x, hp, gf, ne, gp, gl, nl, fun g hg => ⟨(b g hg).1, by have := (b g hg).2; simp at this; omega⟩, by simp; omega⟩
theorem dfrom_spec {l : Nat} {ws : List Str} {s : Store} (gl : s[l]? = some (.lst (ws.map D.str))) (hw : ∀ w ∈ ws, WW w) (ht : ∀ w ∈ ws, TOk w) (hl : ws.length ≤ 200000) :
    ∃ s', Ext s s' ∧ match verd ws with
      | .bad w => m_dates_from [.loc l] s = .ok (.tup [.non, .str w]) s'
      | .good L => ∃ fs, Norm L fs ∧ fs.length ≤ 300000 ∧ m_dates_from [.loc l] s = .ok (.tup [.tup (fs.map pr), .non]) s' := by
  have x1 := Ext.mk s [Cell.lst [D.str "never"]]
  have g1 := get_new s (.lst [.str "never"])
  obtain ⟨s1, hs1⟩ : ∃ s1, s1 = s ++ [Cell.lst [D.str "never"]] := ⟨_, rfl⟩
  rw [← hs1] at x1 g1
  have q := eq_never (x1.get gl) ht g1
  unfold verd
  by_cases c : ws = [("never" : Str)]
  · rw [if_pos c]
    have q' : dEq (.loc l) (.loc s.length) s1 = some (.bl true, s1) := by rw [q, decide_eq_true c]
    refine ⟨s1, x1, [], Norm.nil, by simp, ?_⟩
    simp [m_dates_from, b_dates_from, ← hs1, q']
  · rw [if_neg c]
    have q' : dEq (.loc l) (.loc s.length) s1 = some (.bl false, s1) := by rw [q, decide_eq_false c]
    have x2 := Ext.mk s1 [Cell.lst []]
    have g2 := get_new s1 (.lst [])
    obtain ⟨s2, hs2⟩ : ∃ s2, s2 = s1 ++ [Cell.lst []] := ⟨_, rfl⟩
    have l2 : s2.length = s1.length + 1 := by rw [hs2]; simp
    rw [← hs2] at x2 g2
    obtain ⟨f, s3, ls, e3, x3, gf, gL, hf, hls⟩ := parted_spec ((x1.trans x2).get gl) hl
    have lp := lp_start (s0 := s1) (x2.trans x3) (Nat.le_refl _) gf (by omega) (x3.get g2) gL (fun l hl => by have := hls l hl; omega) hw hl
    have e4 := dfrom_loop (some (.loc l)) ls _ [] s3 none none none lp
    have hlen := fun L => fst_le (gs := parts [] ws) (L := L)
    have pl := (parts_ok (P := fun _ => True) ws [] (by simp) (by simp)).1
    cases qf : fst (parts [] ws) with
    | bad w =>
      rw [qf] at e4
      obtain ⟨s', e4, x4⟩ := e4
      refine ⟨s', x1.trans x4, ?_⟩
      simp [m_dates_from, b_dates_from, ← hs1, q', ← hs2, e3, gf, e4]
    | good L =>
      rw [qf] at e4
      obtain ⟨o2, o3, o4, s4, e4, x4, gp⟩ := e4
      obtain ⟨hv, hL⟩ := hlen L qf
      rw [List.nil_append] at gp
      obtain ⟨fs, hi, r, e5, asc, hfl, hm⟩ := make_spec L hv (by omega) s4 gp
      refine ⟨s4 ++ r, (x1.trans x4).trans (Ext.mk _ _), fs, ⟨⟨hi, asc⟩, hm⟩, by omega, ?_⟩
      generalize fs.map pr = FS at *
      generalize s4 ++ r = s5 at *
      simp [m_dates_from, b_dates_from, ← hs1, q', ← hs2, e3, gf, e4, e5]
theorem rdates_spec {t : Str} (h : t.length ≤ 100000) (ht : TOk t) (s : Store) : ∃ s', Ext s s' ∧ match verd (words t) with
    | .bad w => m_read_dates [.str t] s = .ex (badEx w) s'
    | .good L => ∃ fs, Norm L fs ∧ fs.length ≤ 300000 ∧ m_read_dates [.str t] s = .ok (.tup (fs.map pr)) s' := by
  obtain ⟨s1, e1, g1, x1⟩ := wordsof_spec h s
  have hl : (words t).length ≤ 200000 := by
    have a := split_len t
    have b : (words t).length ≤ (Txt.split t " ").length := List.length_filter_le ..
    omega
  obtain ⟨s2, x2, q⟩ := dfrom_spec g1 (fun w hw => ⟨(words_mem hw).1, by have := (words_mem hw).2.2; omega⟩) (fun w hw => words_tok ht hw) hl
  refine ⟨s2, x1.trans x2, ?_⟩
  cases e : verd (words t) with
  | bad w =>
    rw [e] at q
    simp only at q
    simp [m_read_dates, b_read_dates, e1, q, sRaise, badEx]
  | good L =>
    rw [e] at q
    obtain ⟨fs, hn, hfl, q⟩ := q
    refine ⟨fs, hn, hfl, ?_⟩
    simp [m_read_dates, b_read_dates, e1, q]
end Law
namespace Law
open PySem Mi
theorem get_pr {ps : List (Int × Int)} {i : Nat} (h : i < ps.length) : (ps.map pr)[i]? = some (pr ps[i]) := by simp [h]
def SameI (ps : List (Int × Int)) (d : D) (s0 : Store) (_ : Nat) (env : Sl) (s : Store) : Prop := ∃ o2 o3, env = [some (.tup (ps.map pr)), some d, o2, o3] ∧ s = s0
theorem same_tup (ps : List (Int × Int)) (hz : ps.length ≤ 1000000) (s : Store) : m_d_law_same [.tup (ps.map pr), .tup (ps.map pr)] s = .ok (.bl true) s := by
  obtain ⟨env', s', e, o2, o3, rfl, rfl⟩ := forL_rangeT (gd := always) (g := gN 2) (b := bl_d_law_same_1) ps.length (SameI ps (.tup (ps.map pr)) s) (fun _ _ _ _ _ => trivial) (env := [some (.tup (ps.map pr)), some (.tup (ps.map pr)), none, none]) (s := s) (fun i env s1 hi ⟨o2, o3, e, e2⟩ => by
      subst e e2
      have z1 : dIx (.tup (ps.map pr)) (.int (i : Nat)) s1 = some (pr ps[i], s1) := by rw [dIx_tup, atI_ofNat _ _ _ (get_pr hi)]; rfl
      generalize ps[i] = x at z1
      simp [bl_d_law_same_1, z1, pr, ix0, ix1, m_d_law_is_integer, b_d_law_is_integer]
      exact ⟨_, _, rfl, rfl⟩) ⟨none, none, rfl, rfl⟩
  have w := rangeOf_int s' (ps.length : Int) (by omega) (by omega)
  simp at w
  have hl : dLen [.tup (ps.map pr)] s' = some (.int ps.length, s') := by simp
  have hd : dIsi "tuple" (.tup (ps.map pr)) s' = some (.bl true, s') := rfl
  generalize ps.map pr = PS at *
  simp [m_d_law_same, b_d_law_same, hl, hd, w, e]
theorem ldue_spec {t : Str} (h : t.length ≤ 100000) (s : Store) : ∃ (k : Nat) (s' : Store), m_d_law_due [.str t] s = .ok (.loc k) s' ∧ Ext s s' ∧ match verd (words t) with
    | .bad w => s'[k]? = some (.lst [.int 1, .str w])
    | .good L => ∃ fs, Norm L fs ∧ s'[k]? = some (.lst [.int 0, .tup (fs.map pr)]) := by
  have e1 := dSplit_str (a := t) (b := " ") (by decide +kernel) (by omega) s
  have g1 := get_new s (.lst ((Txt.split t " ").map D.str))
  have hl := split_len t
  have x1 := Ext.mk s [Cell.lst ((Txt.split t " ").map D.str)]
  obtain ⟨s1, hs1⟩ : ∃ s1, s1 = s ++ [Cell.lst ((Txt.split t " ").map D.str)] := ⟨_, rfl⟩
  rw [← hs1] at e1 g1 x1
  clear hs1
  have e2 := lcL_fm (gd := fun s2 => s2[s.length]? = some (Cell.lst ((Txt.split t " ").map D.str))) (g := gN 1) (t := lt_d_law_due_4) (e := le_d_law_due_5) (env := [some (.str t), none, none, none, none, none, none, none, none, none]) (s := s1) g1 D.str (fun o => if nonE o = true then some (D.str o) else none) (Txt.split t " ") [] (fun o _ => by
    by_cases c : o = "" <;> simp [lt_d_law_due_4, le_d_law_due_5, pick, c, nonE]) (by simp; omega)
  rw [fm_str, List.nil_append] at e2
  have ew : (Txt.split t " ").filter nonE = words t := rfl
  rw [ew] at e2
  have hwl : (words t).length ≤ 200000 := by
    have b : (words t).length ≤ (Txt.split t " ").length := List.length_filter_le ..
    omega
  have x2 := x1.trans (Ext.mk s1 [Cell.lst ((words t).map D.str)])
  have g2 := get_new s1 (.lst ((words t).map D.str))
  have wl := dLen_loc g2
  rw [List.length_map] at wl
  have hw : ∀ w ∈ words t, WW w := fun w hw => ⟨(words_mem hw).1, by have := (words_mem hw).2.2; omega⟩
  obtain ⟨l2, hl2⟩ : ∃ l2, l2 = s1.length := ⟨_, rfl⟩
  generalize (Txt.split t " ").map D.str = SP at *
  generalize words t = ws at *
  obtain ⟨s2, hs2⟩ : ∃ s2, s2 = s1 ++ [Cell.lst (ws.map D.str)] := ⟨_, rfl⟩
  rw [← hs2] at g2 wl x2
  rw [← hl2] at g2 wl
  by_cases c1 : ws = [("never" : Str)]
  · have i0 : dIx (.loc l2) (.int 0) s2 = some (.str "never", s2) := by rw [dIx_loc g2, c1]; simp
    have wl' : dLen [.loc l2] s2 = some (.int 1, s2) := by rw [wl, c1]; rfl
    unfold verd
    rw [if_pos c1]
    refine ⟨s2.length, s2 ++ [.lst [.int 0, .tup []]], ?_, x2.trans (Ext.mk _ _), [], Norm.nil, get_new _ _⟩
    generalize ws.map D.str = W2 at *
    simp [m_d_law_due, b_d_law_due, e1, g1, e2, ← hs2, ← hl2, wl', i0]
  have first : (∃ n : Int, dLen [.loc l2] s2 = some (.int n, s2) ∧ ¬ n = 1) ∨ (dLen [.loc l2] s2 = some (.int 1, s2) ∧ ∃ w : Str, dIx (.loc l2) (.int 0) s2 = some (.str w, s2) ∧ ¬ w = "never") := by
    by_cases c2 : ws.length = 1
    · obtain ⟨w, rfl⟩ : ∃ w, ws = [w] := by
        match ws, c2 with
        | [w], _ => exact ⟨w, rfl⟩
      exact .inr ⟨wl, w, by rw [dIx_loc g2]; simp, fun z => c1 (by rw [z])⟩
    · exact .inl ⟨_, wl, by omega⟩
  unfold verd
  rw [if_neg c1]
  obtain ⟨s3, ls, o1, e3, x3, gf, gL⟩ := rows_spec g2 hwl (.str t)
  have x4 := Ext.mk s3 [Cell.lst []]
  have g4 := get_new s3 (.lst [])
  obtain ⟨s4, hs4⟩ : ∃ s4, s4 = s3 ++ [Cell.lst []] := ⟨_, rfl⟩
  rw [← hs4] at x4 g4
  have flt := (List.getElem?_eq_some_iff.mp gf).1
  have lp := lp_start (s0 := s3) x4 (Nat.le_refl _) (x4.get gf) (Nat.ne_of_lt flt) g4 (AtL.ext x4 gL) (fun l hl => Nat.ne_of_lt (gL.lt l hl)) hw hwl
  have e5 := ldue_loop (some (.str t)) o1 (some (.loc l2)) (some (.loc (s2.length + 1))) ls _ [] s4 none none lp
  have hlen := fun L => fst_le (gs := parts [] ws) (L := L)
  have pl := (parts_ok (P := fun _ => True) ws [] (by simp) (by simp)).1
  have gW : (s2 ++ [Cell.lst [], Cell.lst [D.loc s2.length]])[l2]? = some (.lst (ws.map D.str)) := (Ext.mk _ _).get g2
  have en : [some (D.str t), none, some (D.loc l2), none, none, none, none, none, none, none].set 3 (some (D.loc (s2.length + 1))) = [some (D.str t), none, some (D.loc l2), some (D.loc (s2.length + 1)), none, none, none, none, none, none] := rfl
  generalize ws.map D.str = W2 at *
  have gf4 := x4.get gf
  cases qf : fst (parts [] ws) with
  | bad w =>
    rw [qf] at e5
    obtain ⟨k, s5, e5, x5, gk⟩ := e5
    refine ⟨k, s5, ?_, (x2.trans x3).trans x5, gk⟩
    rcases first with ⟨n, n1, n2⟩ | ⟨n1, w, n2, n3⟩
    · simp [m_d_law_due, b_d_law_due, e1, g1, e2, ← hs2, ← hl2, n1, n2, gW, e3, ← hs4, gf4, e5]
    · simp [m_d_law_due, b_d_law_due, e1, g1, e2, ← hs2, ← hl2, n1, n2, n3, gW, e3, ← hs4, gf4, e5]
  | good L =>
    rw [qf] at e5
    obtain ⟨o5, o6, s5, e5, x5, gp⟩ := e5
    obtain ⟨hv, hL⟩ := hlen L qf
    rw [List.nil_append] at gp
    obtain ⟨M, em, pm, sm⟩ := sort_pr L
    have x6 := Ext.mk s5 [Cell.lst []]
    have g6 := get_new s5 (.lst [])
    obtain ⟨s6, hs6⟩ : ∃ s6, s6 = s5 ++ [Cell.lst []] := ⟨_, rfl⟩
    rw [← hs6] at x6 g6
    have w0 : dSorted [.loc s3.length] s6 = some (.loc s6.length, s6 ++ [.lst (M.map pr)]) := by
      have q := ok_pr L
      simp [dSorted, seqOf, lstOf, x6.get gp, q, em]
    have x7 := Ext.mk s6 [Cell.lst (M.map pr)]
    have g7 := get_new s6 (.lst (M.map pr))
    obtain ⟨s7, hs7⟩ : ∃ s7, s7 = s6 ++ [Cell.lst (M.map pr)] := ⟨_, rfl⟩
    rw [← hs7] at w0 x7 g7
    have ljm : s5.length ≠ s6.length := by rw [hs6]; simp
    obtain ⟨fs, hi, o8, o9, s8, e8, x8, g8, asc, hfl, hm⟩ := join_loop (some (.str t)) o1 (some (.loc l2)) (some (.loc (s2.length + 1))) (some (.loc s3.length)) o5 o6 (s0 := s5) (Nat.le_refl _) ljm (x6.trans x7) (x7.get g6) g7 (by rw [pm.length_eq]; omega) sm (fun x hx => hv x (pm.mem_iff.mp hx))
    have tp := dTuple_loc g8
    have gf' := get_new s8 (.lst [.int 0, .tup (fs.map pr)])
    refine ⟨_, _, ?_, (((x2.trans x3).trans x5).trans x8).trans (Ext.mk _ _), fs, ⟨⟨hi, asc⟩, fun y => (hm y).trans ⟨fun ⟨x, h, q⟩ => ⟨x, pm.mem_iff.mp h, q⟩, fun ⟨x, h, q⟩ => ⟨x, pm.mem_iff.mpr h, q⟩⟩⟩, gf'⟩
    generalize fs.map pr = FS at *
    generalize M.map pr = MS at *
    rcases first with ⟨n, n1, n2⟩ | ⟨n1, w, n2, n3⟩
    · simp [m_d_law_due, b_d_law_due, e1, g1, e2, ← hs2, ← hl2, n1, n2, gW, e3, ← hs4, gf4, e5, ← hs6, w0, g7, e8, tp]
    · simp [m_d_law_due, b_d_law_due, e1, g1, e2, ← hs2, ← hl2, n1, n2, n3, gW, e3, ← hs4, gf4, e5, ← hs6, w0, g7, e8, tp]
end Law
namespace Law
open PySem Mi
theorem ask_spec {t : Str} (h : t.length ≤ 100000) (ht : TOk t) (s : Store) : ∃ (l : Nat) (s' : Store), m_d_law_ask [.str t] s = .ok (.loc l) s' ∧ Ext s s' ∧ match verd (words t) with
    | .bad w => s'[l]? = some (.lst [.int 1, .str w, .int 1])
    | .good L => ∃ fs, Norm L fs ∧ fs.length ≤ 300000 ∧ s'[l]? = some (.lst [.int 0, .tup (fs.map pr)]) := by
  obtain ⟨s1, x1, q⟩ := rdates_spec h ht s
  cases e : verd (words t) with
  | good L =>
    rw [e] at q
    obtain ⟨fs, hn, hl, q⟩ := q
    refine ⟨s1.length, s1 ++ [.lst [.int 0, .tup (fs.map pr)]], ?_, x1.trans (Ext.mk _ _), fs, hn, hl, get_new _ _⟩
    generalize fs.map pr = FS at *
    simp [m_d_law_ask, b_d_law_ask, sTryAs, q]
  | bad w =>
    rw [e] at q
    refine ⟨s1.length, s1 ++ [.lst [.int 1, .str w, .int 1]], ?_, x1.trans (Ext.mk _ _), get_new _ _⟩
    simp only [badEx] at q
    have w1 : ∀ g : Nat × Nat, (sSeq (sIf (tOr (tNot (tTru (eIsE g 2 "BadText" true))) (tTru (eIsE g 2 "BadText" false))) (sRet (eLst (aCons (eC (.int 2)) (aNil)))) (sNil)) (sRet (eLst (aCons (eC (.int 1)) (aCons (eFld g 2 "word") (aCons (eFld g 2 "line") (aNil))))))) [some (.str t), none, some (.exv g.1 g.2 "BadText" [("word", .str w), ("line", .int 1)])] s1 = .rt (.loc s1.length) (s1 ++ [.lst [.int 1, .str w, .int 1]]) := fun g => by
      have l1 : List.lookup ("word" : Str) [(("word" : Str), D.str w), ("line", .int 1)] = some (.str w) := by
        rw [List.lookup_cons_self]
      have nl : (("line" : Str) == "word") = false := by decide +kernel
      have l2 : List.lookup ("line" : Str) [(("word" : Str), D.str w), ("line", .int 1)] = some (.int 1) := by
        rw [List.lookup_cons, nl]
        simp [List.lookup_cons_self]
      simp [eIsE, eFld, l1, l2]
    have tr : sTryAs 2 ["BadText"] (sSet 1 (eCall m_read_dates (aCons (eV 0) (aNil)))) (fun g => sSeq (sIf (tOr (tNot (tTru (eIsE g 2 "BadText" true))) (tTru (eIsE g 2 "BadText" false))) (sRet (eLst (aCons (eC (.int 2)) (aNil)))) (sNil)) (sRet (eLst (aCons (eC (.int 1)) (aCons (eFld g 2 "word") (aCons (eFld g 2 "line") (aNil))))))) [some (.str t), none, none] s = .rt (.loc s1.length) (s1 ++ [.lst [.int 1, .str w, .int 1]]) := by
      refine tryAs_ex (e := ⟨"BadText", [("word", .str w), ("line", .int 1)]⟩) (env2 := [some (.str t), none, none]) (s2 := s1) (by simp [q]) (by simp) (by simp) fun g => ?_
      simp only [List.set_cons_succ, List.set_cons_zero, w1]
      rfl
    unfold m_d_law_ask b_d_law_ask
    rw [fnM_eq]
    show (match RS.bind (sTryAs 2 ["BadText"] (sSet 1 (eCall m_read_dates (aCons (eV 0) (aNil)))) (fun g => sSeq (sIf (tOr (tNot (tTru (eIsE g 2 "BadText" true))) (tTru (eIsE g 2 "BadText" false))) (sRet (eLst (aCons (eC (.int 2)) (aNil)))) (sNil)) (sRet (eLst (aCons (eC (.int 1)) (aCons (eFld g 2 "word") (aCons (eFld g 2 "line") (aNil))))))) [some (.str t), none, none] s) _ with | .rt d s => Mi.R.ok d s | .nx _ s => .ok .non s | .ex e _ s => .ex e s | _ => .no) = _
    rw [tr]
    rfl
/-- it says True of any text -/
theorem right_spec {t : Str} (h : t.length ≤ 100000) (ht : TOk t) (s : Store) : ∃ s', m_d_law_right [.str t] s = .ok (.bl true) s' ∧ Ext s s' := by
  obtain ⟨l, s1, e1, x1, q1⟩ := ask_spec h ht s
  obtain ⟨k, s2, e2, x2, q2⟩ := ldue_spec h s1
  refine ⟨s2, ?_, x1.trans x2⟩
  have isI : ∀ i s, m_d_law_is_integer [.int i] s = .ok (.bl true) s := fun i s => by simp [m_d_law_is_integer, b_d_law_is_integer, dIsi]
  cases q : verd (words t) with
  | good L =>
    rw [q] at q1 q2
    obtain ⟨fs, hn, hl, g1⟩ := q1
    obtain ⟨gs, hn2, g2⟩ := q2
    have eq := hn.uniq hn2
    subst eq
    have g1' := x2.get g1
    have sm := same_tup fs (by omega) s2
    generalize fs.map pr = FS at *
    have a0 : dIx (.loc l) (.int 0) s2 = some (.int 0, s2) := by rw [dIx_loc g1']; simp
    have a1 : dIx (.loc l) (.int 1) s2 = some (.tup FS, s2) := by rw [dIx_loc g1']; simp
    have b0 : dIx (.loc k) (.int 0) s2 = some (.int 0, s2) := by rw [dIx_loc g2]; simp
    have b1 : dIx (.loc k) (.int 1) s2 = some (.tup FS, s2) := by rw [dIx_loc g2]; simp
    simp [m_d_law_right, b_d_law_right, e1, e2, a0, a1, b0, b1, sm]
  | bad w =>
    rw [q] at q1 q2
    have g1' := x2.get q1
    have a0 : dIx (.loc l) (.int 0) s2 = some (.int 1, s2) := by rw [dIx_loc g1']; simp
    have a1 : dIx (.loc l) (.int 1) s2 = some (.str w, s2) := by rw [dIx_loc g1']; simp
    have a2 : dIx (.loc l) (.int 2) s2 = some (.int 1, s2) := by rw [dIx_loc g1']; simp
    have b0 : dIx (.loc k) (.int 0) s2 = some (.int 1, s2) := by rw [dIx_loc q2]; simp
    have b1 : dIx (.loc k) (.int 1) s2 = some (.str w, s2) := by rw [dIx_loc q2]; simp
    simp [m_d_law_right, b_d_law_right, e1, e2, a0, a1, a2, b0, b1, isI, dIsi]
end Law
namespace Law
open PySem Mi
/-! ### draws -/
theorem Pool.app {p : Nat} {s : Store} (h : Pool p s) (r : Store) : Pool p (s ++ r) := by
  obtain ⟨x, xs, h1, h2⟩ := h
  exact ⟨x, xs, by rw [List.getElem?_append_left (lt_of_get h1)]; exact h1, h2⟩
theorem Pool.lt {p : Nat} {s : Store} (h : Pool p s) : p < s.length := let ⟨_, _, h1, _⟩ := h; lt_of_get h1
theorem Pool.set {p l : Nat} {s : Store} (h : Pool p s) (n : l ≠ p) (x : Cell) : Pool p (s.set l x) := by
  obtain ⟨y, xs, h1, h2⟩ := h
  exact ⟨y, xs, by rw [List.getElem?_set_ne n]; exact h1, h2⟩
theorem Kp.get {p : Nat} {s s' : Store} (a : Kp p s s') {l : Nat} {x : Cell} (h : s[l]? = some x) (n : l ≠ p) : s'[l]? = some x := by
  rw [a.2 l (lt_of_get h) n]
  exact h
theorem Kp.ext {p : Nat} {s s' : Store} (x : Ext s s') : Kp p s s' := by
  obtain ⟨r, rfl⟩ := x
  exact Kp.app _ _ _
theorem Pool.ext {p : Nat} {s s' : Store} (h : Pool p s) (x : Ext s s') : Pool p s' := by
  obtain ⟨r, rfl⟩ := x
  exact h.app r
theorem Kp.setNew {p l : Nat} {s s' : Store} (k : Kp p s s') (h : s.length ≤ l) (x : Cell) : Kp p s (s'.set l x) :=
  ⟨by rw [List.length_set]; exact k.1, fun i hi a => by rw [List.getElem?_set_ne (by omega)]; exact k.2 i hi a⟩
theorem zmem {s : Store} {l : Nat} {xs : List D} (h : s[l]? = some (.lst xs)) {i : Int} (h0 : 0 ≤ i) (h1 : i < xs.length) : ∃ a, a ∈ xs ∧ dIx (.loc l) (.int i) s = some (a, s) := by
  obtain ⟨a, ha, e⟩ := ixL_mem h h0 h1
  exact ⟨a, ha, e⟩
/-- a list laid new, an item of it drawn -/
theorem drawn {p : Nat} {s : Store} (hp : Pool p s) {L : List D} {n : Nat} (hn : L.length = n) (h0 : 0 < n) (h1 : n ≤ 100) : ∃ (j : Int) (s1 : Store) (d : D), m_d_law_draw [.loc p, .int n] (s ++ [.lst L]) = .ok (.int j) s1 ∧ d ∈ L ∧ dIx (.loc s.length) (.int j) s1 = some (d, s1) ∧ Pool p s1 ∧ Kp p s s1 := by
  obtain ⟨j, s1, e1, j0, j1, p1, k1⟩ := draw_spec (hp.app [.lst L]) (many := n) (by omega) (by omega)
  have g := Kp.get k1 (get_new s (.lst L)) (Nat.ne_of_gt hp.lt)
  obtain ⟨d, hd, wd⟩ := zmem g (i := j) j0 (by omega)
  exact ⟨j, s1, d, e1, hd, wd, p1, (Kp.app p s _).trans k1⟩
/-! ### numerals -/
def num (k : Nat) : Str := toString (k : Int)
theorem tl_numeral (k : Nat) : tl (num k) = TL.numL k := TL.tl_num k
theorem str_num {k : Nat} (h : k < 2000000000) (s : Store) : dStr [.int (k : Int)] s = some (.str (num k), s) := by
  have g : ((k : Int)).natAbs.log2 < 1920 := by
    rw [Int.natAbs_natCast]
    by_cases k0 : k = 0
    · subst k0; decide
    · have : k.log2 < 31 := (Nat.log2_lt k0).mpr (by omega)
      omega
  simp only [dStr]
  rw [if_pos g]
  rfl
/-! ### the words of a year -/
def NoSp (z : Str) : Prop := 32 ∉ tl z
def WOk (z : Str) : Prop := NoSp z ∧ z.length ≤ 40
theorem wok_lit {z : Str} (h : (!(tl z).contains 32 && decide (z.length ≤ 40)) = true) : WOk z := by
  rw [Bool.and_eq_true] at h
  refine ⟨fun q => ?_, by simpa using h.2⟩
  have : (tl z).contains 32 = true := by simpa using q
  rw [this] at h
  simp at h
theorem num_len {k : Nat} (h : k < 2000000000) : (num k).length ≤ 10 := by
  rw [← tl_len, tl_numeral]
  exact TL.numL_len (by omega) (by omega)
theorem num_ok {k : Nat} (h : k < 2000000000) : WOk (num k) := ⟨by
  unfold NoSp
  rw [tl_numeral]
  exact TL.numL_free (.inl (by omega)), by have := num_len h; omega⟩
theorem num_digs (k : Nat) : digs (num k) = true := by
  unfold digs
  rw [tl_numeral]
  refine List.all_eq_true.mpr fun c hc => ?_
  have := TL.numL_digits k c hc
  simp [dg, this.1, this.2]
theorem num_val (k : Nat) : nval (tl (num k)) = k := by rw [tl_numeral]; exact TL.numL_val k
theorem num_ne (k : Nat) : tl (num k) ≠ [] := by rw [tl_numeral]; exact TL.numL_ne k
theorem num_head {k : Nat} (h : 1 ≤ k) : (tl (num k)).head? ≠ some 48 := by
  rw [tl_numeral]
  induction k using Nat.strongRecOn with
  | ind k ih =>
    by_cases hk : k < 10
    · rw [TL.numL_lt hk]
      simp
      omega
    · rw [TL.numL_step (by omega)]
      have q := ih (k / 10) (by omega) (by omega)
      have ne := TL.numL_ne (k / 10)
      cases e : TL.numL (k / 10) with
      | nil => exact absurd e ne
      | cons a r => rw [e] at q; simpa using q
def yn (y : Int) : Nat := if 1 ≤ y then y.toNat else (1 - y).toNat
def ys (y : Int) : Str := if 1 ≤ y then "AD" else "BC"
theorem yn_pos {y : Int} (h0 : -9999 ≤ y) (h1 : y ≤ 9999) : 1 ≤ yn y ∧ yn y ≤ 10000 := by unfold yn; split <;> omega
theorem ys_ok (y : Int) : WOk (ys y) ∧ tl (ys y) ≠ [] := by
  unfold ys
  split <;> exact ⟨wok_lit (by decide +kernel), by decide +kernel⟩
theorem wordsof_year {y : Int} (h0 : -9999 ≤ y) (h1 : y ≤ 9999) (s : Store) : m_d_law_year_words [.int y] s = .ok (.loc s.length) (s ++ [.lst ([num (yn y), ys y].map D.str)]) := by
  have hy := yn_pos h0 h1
  have w := str_num (k := yn y) (by omega) s
  by_cases c : 1 ≤ y
  · have e : ((yn y : Nat) : Int) = y := by unfold yn; rw [if_pos c]; omega
    have e2 : ys y = "AD" := if_pos c
    rw [e] at w
    simp [m_d_law_year_words, b_d_law_year_words, c, w, e2]
  · have e : ((yn y : Nat) : Int) = 1 - y := by unfold yn; rw [if_neg c]; omega
    have e2 : ys y = "BC" := if_neg c
    rw [e] at w
    simp [m_d_law_year_words, b_d_law_year_words, c, w, e2]
theorem due_year {y : Int} (h0 : -9999 ≤ y) (h1 : y ≤ 9999) : due2 (num (yn y)) (ys y) = .good y := by
  have hy := yn_pos h0 h1
  have hl : (num (yn y)).length ≤ 5 := by
    rw [← tl_len, tl_numeral]
    exact TL.numL_len (by omega) (by omega)
  have hh := num_head hy.1
  unfold due2
  rw [if_neg (fun q => q.elim (by omega) hh), if_neg (by rw [num_digs]; simp), num_val]
  unfold ys
  by_cases c : 1 ≤ y
  · have e : ((yn y : Nat) : Int) = y := by unfold yn; rw [if_pos c]; omega
    rw [if_pos c, if_neg (fun z => z.1 rfl), if_neg ad_bc, e, if_neg (by omega)]
  · have e : ((yn y : Nat) : Int) = 1 - y := by unfold yn; rw [if_neg c]; omega
    rw [if_neg c, if_neg (fun z => z.2 rfl), if_pos rfl, e, show 1 - (1 - y) = y by omega, if_neg (by omega)]
theorem ytext_spec {y : Int} (h0 : -9999 ≤ y) (h1 : y ≤ 9999) (s : Store) : m_year_text [.int y] s = .ok (.str (num (yn y) ++ " " ++ ys y)) s := by
  have hy := yn_pos h0 h1
  have nl := num_len (k := yn y) (by omega)
  have w := str_num (k := yn y) (by omega) s
  have em : ∀ z : Str, Str.empty ++ z = z := fun z => tl_ext (by rw [tl_app]; rfl)
  have as : ∀ a b c : Str, a ++ b ++ c = a ++ (b ++ c) := fun a b c => tl_ext (by rw [tl_app, tl_app, tl_app, tl_app, List.append_assoc])
  have ld : ∀ i : Int, i = (yn y : Nat) → i.natAbs.log2 < 1920 := fun i hi => by
    subst hi
    rw [Int.natAbs_natCast]
    by_cases k0 : yn y = 0
    · omega
    · have : (yn y).log2 < 31 := (Nat.log2_lt k0).mpr (by omega)
      omega
  have lz : ∀ z : Str, (num (yn y) ++ z).length = (num (yn y)).length + z.length := fun z => PySem.Str.length_append _ _
  by_cases c : 1 ≤ y
  · have e : ((yn y : Nat) : Int) = y := by unfold yn; rw [if_pos c]; omega
    have e2 : ys y = "AD" := if_pos c
    have l3 : (" AD" : Str).length = 3 := by decide +kernel
    have e3 : (" AD" : Str) = " " ++ "AD" := by decide +kernel
    have en : Str.ofString (Int.repr y) = num (yn y) := by unfold num; rw [e]; rfl
    have c' : 0 < y := by omega
    have l4 := lz " AD"
    simp only [m_year_text, b_year_text]
    rw [fnM_eq, e2, as, ← e3]
    generalize num (yn y) = z at *
    have z1 : z.length ≤ 1000000 := by omega
    have z2 : (z ++ " AD").length ≤ 1000000 := by omega
    simp [c', ld y e.symm, en, em, z1, z2]
  · have e : ((yn y : Nat) : Int) = 1 - y := by unfold yn; rw [if_neg c]; omega
    have e2 : ys y = "BC" := if_neg c
    have l3 : (" BC" : Str).length = 3 := by decide +kernel
    have e3 : (" BC" : Str) = " " ++ "BC" := by decide +kernel
    have en : Str.ofString (Int.repr (1 - y)) = num (yn y) := by unfold num; rw [e]; rfl
    have c' : ¬ 0 < y := by omega
    have l4 := lz " BC"
    simp only [m_year_text, b_year_text]
    rw [fnM_eq, e2, as, ← e3]
    generalize num (yn y) = z at *
    have z1 : z.length ≤ 1000000 := by omega
    have z2 : (z ++ " BC").length ≤ 1000000 := by omega
    simp [c', ld (1 - y) e.symm, en, em, z1, z2]
end Law
namespace Law
open PySem Mi
theorem sum_bd : ∀ {ns : List Int}, (∀ x ∈ ns, 0 ≤ x ∧ x ≤ 701) → 0 ≤ ns.sum ∧ ns.sum ≤ 701 * ns.length
  | [], _ => by simp
  | x :: r, h => by
    have a := h x (by simp)
    have b := sum_bd (ns := r) fun y hy => h y (by simp [hy])
    simp
    omega
theorem drop_sum {ns : List Int} {i : Nat} (h : i < ns.length) : (ns.drop i).sum = ns[i] + (ns.drop (i + 1)).sum := by
  rw [List.drop_eq_getElem_cons h, List.sum_cons]
theorem sizes_lc {p : Nat} {s : Store} (h : Pool p s) {w : Int} (w0 : 0 < w) (w1 : w ≤ 700) (n : Nat) (hn : n ≤ 12) (a1 a4 a5 a6 a7 a8 a9 a10 : Option D) : ∃ (ns : List Int) (s' : Store), lcL always (gN 3) tT le_d_law_dates_3 [some (.loc p), a1, some (.int w), none, a4, a5, a6, a7, a8, a9, a10] (rng n) [] s = .ok (ns.map D.int) s' ∧ ns.length = n ∧ (∀ x ∈ ns, 0 ≤ x ∧ x ≤ 701) ∧ Pool p s' ∧ Kp p s s' := by
  obtain ⟨acc, s', e, ns, rfl, hl, hx, p', k'⟩ := lcL_at (gd := always) (g := gN 3) (t := tT) (e := le_d_law_dates_3) (env := [some (.loc p), a1, some (.int w), none, a4, a5, a6, a7, a8, a9, a10]) (rng n)
    (fun k acc s' => ∃ ns : List Int, acc = ns.map D.int ∧ ns.length = k ∧ (∀ x ∈ ns, 0 ≤ x ∧ x ≤ 701) ∧ Pool p s' ∧ Kp p s s') (fun _ _ _ _ => trivial) (fun k d acc s1 hk ⟨ns, ha, hl, hx, p1, k1⟩ => by
      subst ha
      obtain ⟨hk', _⟩ := rng_get hk
      obtain ⟨v, s2, e2, v0, v1, p2, k2⟩ := often_spec p1 (many := w) w0 (by omega)
      simp [le_d_law_dates_3, pick, e2]
      refine ⟨by omega, ns ++ [v], by simp, by simp [hl], fun x hx' => ?_, p2, k1.trans k2⟩
      rcases List.mem_append.mp hx' with hx' | hx'
      · exact hx x hx'
      · rw [List.mem_singleton.mp hx']; omega) (acc := []) (s := s) ⟨[], rfl, rfl, by simp, h, Kp.refl p s⟩
  exact ⟨ns, s', e, by rw [hl, rng_len], hx, p', k'⟩
theorem holes_lc {p : Nat} {s : Store} (h : Pool p s) {w : Int} (w0 : 0 < w) (w1 : w ≤ 700) (n : Nat) (hn : n ≤ 12) (a1 a4 a5 a6 a7 a8 a9 a10 : Option D) : ∃ (ns : List Int) (s' : Store), lcL always (gN 3) tT le_d_law_dates_2 [some (.loc p), a1, some (.int w), none, a4, a5, a6, a7, a8, a9, a10] (rng n) [] s = .ok (ns.map D.int) s' ∧ ns.length = n ∧ (∀ x ∈ ns, 2 ≤ x ∧ x ≤ 701) ∧ Pool p s' ∧ Kp p s s' := by
  obtain ⟨acc, s', e, ns, rfl, hl, hx, p', k'⟩ := lcL_at (gd := always) (g := gN 3) (t := tT) (e := le_d_law_dates_2) (env := [some (.loc p), a1, some (.int w), none, a4, a5, a6, a7, a8, a9, a10]) (rng n)
    (fun k acc s' => ∃ ns : List Int, acc = ns.map D.int ∧ ns.length = k ∧ (∀ x ∈ ns, 2 ≤ x ∧ x ≤ 701) ∧ Pool p s' ∧ Kp p s s') (fun _ _ _ _ => trivial) (fun k d acc s1 hk ⟨ns, ha, hl, hx, p1, k1⟩ => by
      subst ha
      obtain ⟨hk', _⟩ := rng_get hk
      obtain ⟨v, s2, e2, v0, v1, p2, k2⟩ := often_spec p1 (many := w) w0 (by omega)
      simp [le_d_law_dates_2, pick, e2]
      refine ⟨by omega, ns ++ [2 + v], by simp, by simp [hl], fun x hx' => ?_, p2, k1.trans k2⟩
      rcases List.mem_append.mp hx' with hx' | hx'
      · exact hx x hx'
      · rw [List.mem_singleton.mp hx']; omega) (acc := []) (s := s) ⟨[], rfl, rfl, by simp, h, Kp.refl p s⟩
  exact ⟨ns, s', e, by rw [hl, rng_len], hx, p', k'⟩
/-- dates that a book may hold -/
structure DOk (fs : List (Int × Int)) : Prop where
  asc : ∃ hi, Asc fs hi
  bd : ∀ x ∈ fs, -9999 ≤ x.1 ∧ x.1 ≤ x.2 ∧ x.2 ≤ 9999
  len : fs.length ≤ 12
theorem int_at {s : Store} {l : Nat} {ns : List Int} (g : s[l]? = some (.lst (ns.map D.int))) {i : Nat} (h : i < ns.length) : dIx (.loc l) (.int (i : Nat)) s = some (.int ns[i], s) := by
  rw [dIx_loc g, L2.atI_nat (v := D.int ns[i]) (by simp [h])]
  rfl
noncomputable def bt_dates : MS := sSeq (sSet 10 (eLst (aNil)))
  (sSeq (sFor (iRange1 (aCons (eV 1) (aNil))) (gN 3) (bl_d_law_dates_1))
  (sRet (eFn dTuple (aCons (eV 10) (aNil)))))
def DI (p n ls lh : Nat) (a2 a6 a8 a9 : Option D) (ns hs : List Int) (s : Store) (i : Nat) (env : Sl) (s' : Store) : Prop := ∃ (fs : List (Int × Int)) (y : Int) (o3 : Option D), env = [some (.loc p), some (.int (n : Nat)), a2, o3, some (.loc ls), some (.loc lh), a6, some (.int y), a8, a9, some (.loc s.length)] ∧ Ext s s' ∧ s'[s.length]? = some (.lst (fs.map pr)) ∧ fs.length = i ∧ -9999 ≤ y ∧ y + (ns.drop i).sum + (hs.drop (max i 1)).sum ≤ 9999 ∧ Asc fs (if i = 0 then y - 2 else y) ∧ ∀ x ∈ fs, -9999 ≤ x.1 ∧ x.1 ≤ x.2 ∧ x.2 ≤ 9999
theorem dates_tail {p ls lh : Nat} {s : Store} (h : Pool p s) {n : Nat} (hn : n ≤ 12) {ns hs : List Int} (gs : s[ls]? = some (.lst (ns.map D.int))) (gh : s[lh]? = some (.lst (hs.map D.int))) (nl : ns.length = n) (hl : hs.length = n) (hns : ∀ x ∈ ns, 0 ≤ x ∧ x ≤ 701) (hhs : ∀ x ∈ hs, 2 ≤ x ∧ x ≤ 701) {y : Int} (y0 : -9999 ≤ y) (y1 : 0 < n → y + ns.sum + (hs.drop 1).sum ≤ 9999) (a2 a3 a6 a8 a9 : Option D) :
    ∃ (fs : List (Int × Int)) (s' : Store), bt_dates [some (.loc p), some (.int (n : Nat)), a2, a3, some (.loc ls), some (.loc lh), a6, some (.int y), a8, a9, none] s = .rt (.tup (fs.map pr)) s' ∧ DOk fs ∧ fs.length = n ∧ Pool p s' ∧ Kp p s s' := by
  have er := rangeOf_int (s ++ [.lst []]) (n : Int) (by omega) (by omega)
  rw [Int.toNat_natCast] at er
  by_cases c0 : n = 0
  · subst c0
    have tp := dTuple_loc (get_new s (.lst []))
    refine ⟨[], s ++ [.lst []], ?_, ⟨⟨0, Asc.nil 0⟩, by simp, by simp⟩, rfl, h.app _, Kp.app _ _ _⟩
    have r0 : rng 0 = [] := rfl
    simp at er
    simp [bt_dates, er, r0, tp]
  obtain ⟨env', s1, e, fs, y', o3, rfl, x1, gf, hfl, hy0, hy1, hasc, hbd⟩ := forL_atT (gd := always) (g := gN 3) (b := bl_d_law_dates_1) (rng n) (DI p n ls lh a2 a6 a8 a9 ns hs s) (fun _ _ _ _ => trivial)
    (env := [some (.loc p), some (.int (n : Nat)), a2, a3, some (.loc ls), some (.loc lh), a6, some (.int y), a8, a9, some (.loc s.length)]) (s := s ++ [.lst []]) (fun i x env s2 hx ⟨fs, y, o3, he, x2, gf, hfl, hy0, hy1, hasc, hbd⟩ => by
      subst he
      obtain ⟨hi, rfl⟩ := rng_get hx
      have iS := int_at (x2.get gs) (i := i) (by omega)
      have iH := int_at (x2.get gh) (i := i) (by omega)
      have iS2 : ∀ c, dIx (.loc ls) (.int (i : Nat)) (s2.set s.length c) = some (.int ns[i], s2.set s.length c) := fun c => int_at (by rw [List.getElem?_set_ne (by have := lt_of_get gs; omega)]; exact x2.get gs) (by omega)
      have bS := hns ns[i] (List.getElem_mem _)
      have bH := hhs hs[i] (List.getElem_mem _)
      have dS := drop_sum (ns := ns) (i := i) (by omega)
      have dH := drop_sum (ns := hs) (i := i) (by omega)
      have rS := sum_bd (ns := ns.drop (i + 1)) fun x hx => hns x (List.mem_of_mem_drop hx)
      have rH := sum_bd (ns := hs.drop (i + 1)) fun x hx => by have := hhs x (List.mem_of_mem_drop hx); omega
      have tk := tyOk_list gf
      generalize ns[i] = sz at *
      generalize hs[i] = ho at *
      have more : ∀ (y2 : Int), -9999 ≤ y2 → y2 + sz + (ns.drop (i + 1)).sum + (hs.drop (i + 1)).sum ≤ 9999 → (if i = 0 then y - 2 else y) + 2 ≤ y2 → DI p n ls lh a2 a6 a8 a9 ns hs s (i + 1) [some (.loc p), some (.int (n : Nat)), a2, some (.int (i : Nat)), some (.loc ls), some (.loc lh), a6, some (.int (y2 + sz)), a8, a9, some (.loc s.length)] (s2.set s.length (.lst (fs.map pr ++ [.tup [.int y2, .int (y2 + sz)]]))) := fun y2 h1 h2 h3 =>
        ⟨fs ++ [(y2, y2 + sz)], y2 + sz, _, rfl, ext_setNew x2 (Nat.le_refl _) _, by rw [get_set gf, List.map_append]; rfl, by simp [hfl], by omega, by rw [show max (i + 1) 1 = i + 1 by omega]; exact h2, by
          rw [if_neg (by omega)]
          exact hasc.snoc (x := (y2, y2 + sz)) h3 (by show y2 ≤ y2 + sz; omega), fun x hx => by
          rcases List.mem_append.mp hx with hx | hx
          · exact hbd x hx
          · rw [List.mem_singleton.mp hx]
            exact ⟨h1, by show y2 ≤ y2 + sz; omega, by show y2 + sz ≤ 9999; omega⟩⟩
      have ap := fun y2 : Int => dAppend_loc gf (by simp; omega) (.tup [.int y2, .int (y2 + sz)])
      by_cases c : i = 0
      · have f := more y hy0 (by subst c; rw [dS] at hy1; simpa [Int.add_assoc] using hy1) (by rw [if_pos c]; omega)
        have ap' := ap y
        generalize fs.map pr = FS at *
        have ci : ¬ 0 < (i : Int) := by omega
        subst c
        have iS3 : dIx (.loc ls) (.int 0) s2 = some (.int sz, s2) := iS
        have iS4 : ∀ c, dIx (.loc ls) (.int 0) (s2.set s.length c) = some (.int sz, s2.set s.length c) := iS2
        simp [bl_d_law_dates_1, tk, ap', iS3, iS4]
        exact f
      · rw [show max i 1 = i by omega, dS, dH] at hy1
        have f := more (y + ho) (by omega) (by omega) (by rw [if_neg c]; omega)
        have ap' := ap (y + ho)
        generalize fs.map pr = FS at *
        have ci : 0 < (i : Int) := by omega
        have ci' : 0 < i := by omega
        simp [bl_d_law_dates_1, ci, ci', iH, tk, ap', iS, iS2]
        exact f) ⟨[], y, a3, rfl, Ext.mk _ _, get_new _ _, rfl, y0, by simpa using y1 (by omega), Asc.nil _, by simp⟩
  have tp := dTuple_loc gf
  rw [rng_len] at hfl
  refine ⟨fs, s1, ?_, ⟨⟨_, hasc⟩, hbd, by omega⟩, hfl, h.ext x1, Kp.ext x1⟩
  generalize fs.map pr = FS at *
  simp [bt_dates, er, e, tp]
theorem sum_cut {l : Nat} {s : Store} {ns : List Int} (g : s[l]? = some (.lst (ns.map D.int))) (lo hi : Option Int) : ∃ (k : Nat) (v : Int) (c : List D), dSl (.loc l) lo hi s = some (.loc s.length, s ++ [.lst c]) ∧ dSum [.loc s.length] (s ++ [.lst c]) = some (.int v, s ++ [.lst c]) := by
  obtain ⟨ms, hm⟩ := cut_ints ⟨ns, rfl⟩ lo hi
  exact ⟨0, ms.sum, ms.map D.int, by simp [dSl, lstOf, g, hm], dSum_loc (get_new _ _)⟩
theorem dates_spec {p : Nat} {s : Store} (h : Pool p s) {n : Nat} (hn : n ≤ 12) : ∃ (fs : List (Int × Int)) (s' : Store), m_d_law_dates [.loc p, .int (n : Nat)] s = .ok (.tup (fs.map pr)) s' ∧ DOk fs ∧ fs.length = n ∧ Pool p s' ∧ Kp p s s' := by
  obtain ⟨j, s1, d, e1, hd, w1, p1, k1⟩ := drawn h (L := [.int 1, .int 2, .int 9, .int 700]) (n := 4) rfl (by omega) (by omega)
  obtain ⟨w, rfl, hw⟩ : ∃ w : Int, d = .int w ∧ 0 < w ∧ w ≤ 700 := by
    simp only [List.mem_cons, List.mem_nil_iff, or_false] at hd
    rcases hd with rfl | rfl | rfl | rfl <;> exact ⟨_, rfl, by omega, by omega⟩
  simp at e1
  have er : ∀ s, rangeOf [.int (n : Int)] s = .ok (Itm.mk (rng n) always) s := fun s => by
    have := rangeOf_int s (n : Int) (by omega) (by omega)
    rw [Int.toNat_natCast] at this
    exact this
  obtain ⟨ns, s2, e2, nl, hns, p2, k2⟩ := sizes_lc p1 hw.1 hw.2 n hn (some (.int (n : Nat))) none none none none none none none
  have g2 := get_new s2 (.lst (ns.map D.int))
  have p2' := p2.app [Cell.lst (ns.map D.int)]
  have ne2 : s2.length ≠ p := Nat.ne_of_gt p2.lt
  obtain ⟨s3, hs3⟩ : ∃ s3, s3 = s2 ++ [Cell.lst (ns.map D.int)] := ⟨_, rfl⟩
  rw [← hs3] at g2 p2'
  have k3 : Kp p s s3 := by rw [hs3]; exact (k1.trans k2).trans (Kp.app p s2 _)
  obtain ⟨hs, s4, e4, hl, hhs, p4, k4⟩ := holes_lc p2' hw.1 hw.2 n hn (some (.int (n : Nat))) (some (.loc s2.length)) none none none none none none
  have g4 := get_new s4 (.lst (hs.map D.int))
  have p4' := p4.app [Cell.lst (hs.map D.int)]
  have ne4 : s4.length ≠ p := Nat.ne_of_gt p4.lt
  obtain ⟨s5, hs5⟩ : ∃ s5, s5 = s4 ++ [Cell.lst (hs.map D.int)] := ⟨_, rfl⟩
  rw [← hs5] at g4 p4'
  have k5 : Kp p s3 s5 := by rw [hs5]; exact k4.trans (Kp.app p s4 _)
  have gs5 := Kp.get k5 g2 ne2
  have sm1 := dSum_loc gs5
  have sm2 := dSum_loc g4
  have bS := sum_bd hns
  have bH := sum_bd fun x hx => (⟨by have := hhs x hx; omega, (hhs x hx).2⟩ : 0 ≤ x ∧ x ≤ 701)
  rw [nl] at bS
  rw [hl] at bH
  obtain ⟨room, hroom⟩ : ∃ room, room = 9999 - ns.sum - hs.sum := ⟨_, rfl⟩
  have hD : 0 < n → ∃ h0, hs[0]? = some h0 ∧ 2 ≤ h0 ∧ h0 ≤ 701 ∧ hs.sum = h0 + (hs.drop 1).sum := fun hn => by
    have := drop_sum (ns := hs) (i := 0) (by omega)
    exact ⟨hs[0]'(by omega), by simp, (hhs _ (List.getElem_mem _)).1, (hhs _ (List.getElem_mem _)).2, by simpa using this⟩
  obtain ⟨v, s6, e6, v0, v1, p6, k6⟩ := often_spec p4' (many := 9999 + room) (by omega) (by omega)
  obtain ⟨t, s7, e7, t0, t1, p7, k7⟩ := draw_spec p6 (many := 4) (by omega) (by omega)
  have gs7 := Kp.get (k6.trans k7) gs5 ne2
  have gh7 := Kp.get (k6.trans k7) g4 ne4
  have kk := ((k3.trans k5).trans k6).trans k7
  have fin := fun (s : Store) (q : Pool p s) gs gh (y : Int) => dates_tail (s := s) q hn (ls := s2.length) (lh := s4.length) gs gh nl hl hns hhs (y := y)
  unfold bt_dates at fin
  obtain ⟨T, hT⟩ : ∃ T, T = sSeq (sSet 10 (eLst (aNil))) (sSeq (sFor (iRange1 (aCons (eV 1) (aNil))) (gN 3) (bl_d_law_dates_1)) (sRet (eFn dTuple (aCons (eV 10) (aNil))))) := ⟨_, rfl⟩
  rw [← hT] at fin
  simp only [m_d_law_dates, b_d_law_dates]
  rw [fnM_eq, ← hT]
  clear hT
  by_cases c0 : n = 0
  · obtain ⟨fs, s', ef, df, fl, pf, kf⟩ := fin s7 p7 gs7 gh7 (-9999 + v) (by omega) (by omega) (some (.int w)) none (some (.int room)) (some (.int t)) none
    refine ⟨fs, s', ?_, df, fl, pf, kk.trans kf⟩
    have cn : ¬ 0 < (n : Int) := by omega
    have cn' : ¬ 0 < n := by omega
    generalize ns.map D.int = NS at *
    generalize hs.map D.int = HS at *
    generalize fs.map pr = FS at *
    simp [e1, w1, er, e2, ← hs3, e4, ← hs5, sm1, sm2, ← hroom, e6, e7, cn, cn', ef]
  obtain ⟨h0, hh0, h01, h02, hsum⟩ := hD (by omega)
  by_cases ct : t = 0
  · obtain ⟨fs, s', ef, df, fl, pf, kf⟩ := fin s7 p7 gs7 gh7 (room + h0) (by omega) (by omega) (some (.int w)) none (some (.int room)) (some (.int t)) none
    refine ⟨fs, s', ?_, df, fl, pf, kk.trans kf⟩
    have cn : 0 < (n : Int) := by omega
    have cn' : 0 < n := by omega
    have i0 : dIx (.loc s4.length) (.int 0) s7 = some (.int h0, s7) := by
      have := int_at gh7 (i := 0) (by omega)
      rw [List.getElem?_eq_getElem (by omega)] at hh0
      rw [Option.some.inj hh0] at this
      exact this
    generalize ns.map D.int = NS at *
    generalize hs.map D.int = HS at *
    generalize fs.map pr = FS at *
    subst ct
    simp [e1, w1, er, e2, ← hs3, e4, ← hs5, sm1, sm2, ← hroom, e6, e7, cn, cn', i0, ef]
  · by_cases c1 : 1 < t
    · obtain ⟨k, s8, e8, k0, k1', p8, k8⟩ := draw_spec p7 (many := (n : Int)) (by omega) (by omega)
      obtain ⟨kn, rfl⟩ := Int.eq_ofNat_of_zero_le k0
      have gs8 := Kp.get k8 gs7 ne2
      have gh8 := Kp.get k8 gh7 ne4
      obtain ⟨_, u1, c1', ec1, es1⟩ := sum_cut gs8 none (some (kn : Int))
      have x9 := Ext.mk s8 [Cell.lst c1']
      obtain ⟨s9, hs9⟩ : ∃ s9, s9 = s8 ++ [Cell.lst c1'] := ⟨_, rfl⟩
      rw [← hs9] at ec1 es1 x9
      obtain ⟨_, u2, c2', ec2, es2⟩ := sum_cut (x9.get gh8) (some 1) (some ((kn : Int) + 1))
      have x10 := Ext.mk s9 [Cell.lst c2']
      obtain ⟨s10, hs10⟩ : ∃ s10, s10 = s9 ++ [Cell.lst c2'] := ⟨_, rfl⟩
      rw [← hs10] at ec2 es2 x10
      have xx := x9.trans x10
      have iS := int_at (xx.get gs8) (i := kn) (by omega)
      generalize ns[kn]'(by omega) = sz at *
      obtain ⟨b, s11, e11, b0, b1, p11, k11⟩ := draw_spec (p8.ext xx) (many := 2) (by omega) (by omega)
      have mm : dMul (.int sz) (.int b) s11 = some (.int (sz * b), s11) := dMul_r _ _ _ ⟨by omega, by omega⟩
      obtain ⟨ah, hah⟩ : ∃ ah, ah = u1 + u2 + sz * b := ⟨_, rfl⟩
      obtain ⟨fs, s', ef, df, fl, pf, kf⟩ := fin s11 p11 (Kp.get k11 (xx.get gs8) ne2) (Kp.get k11 (xx.get gh8) ne4) (min room (max (-9999) (1 - ah))) (by omega) (by omega) (some (.int w)) (some (.int (kn : Int))) (some (.int room)) (some (.int t)) (some (.int ah))
      refine ⟨fs, s', ?_, df, fl, pf, (((kk.trans k8).trans (Kp.ext xx)).trans k11).trans kf⟩
      have cn : 0 < (n : Int) := by omega
      have cn' : 0 < n := by omega
      generalize ns.map D.int = NS at *
      generalize hs.map D.int = HS at *
      generalize fs.map pr = FS at *
      simp [e1, w1, er, e2, ← hs3, e4, ← hs5, sm1, sm2, ← hroom, e6, e7, cn, cn', ct, c1, e8, ec1, es1, ec2, es2, ← hs9, ← hs10, iS, e11, mm, ← hah, ef]
    · obtain ⟨fs, s', ef, df, fl, pf, kf⟩ := fin s7 p7 gs7 gh7 (-9999 + v) (by omega) (by omega) (some (.int w)) none (some (.int room)) (some (.int t)) none
      refine ⟨fs, s', ?_, df, fl, pf, kk.trans kf⟩
      have cn : 0 < (n : Int) := by omega
      have cn' : 0 < n := by omega
      generalize ns.map D.int = NS at *
      generalize hs.map D.int = HS at *
      generalize fs.map pr = FS at *
      simp [e1, w1, er, e2, ← hs3, e4, ← hs5, sm1, sm2, ← hroom, e6, e7, cn, cn', ct, c1, ef]
end Law
namespace Law
open PySem Mi
theorem slen (a b : Str) : (a ++ b).length = a.length + b.length := PySem.Str.length_append _ _
theorem sadd {a b : Str} (ha : a.length ≤ 100000) (hb : b.length ≤ 100000) (s : Store) : dAdd (.str a) (.str b) s = some (.str (a ++ b), s) := dAdd_s (by omega) s
theorem sas (a b c : Str) : a ++ b ++ c = a ++ (b ++ c) := tl_ext (by rw [tl_app, tl_app, tl_app, tl_app, List.append_assoc])
theorem sem (z : Str) : Str.empty ++ z = z := tl_ext (by rw [tl_app]; rfl)
theorem strs_map : ∀ zs : List Str, strsOf (zs.map D.str) = some zs
  | [] => rfl
  | x :: r => by rw [List.map_cons, strsOf, strs_map r]; rfl
theorem join_loc {a : Str} {zs : List Str} {l : Nat} {s : Store} (g : s[l]? = some (.lst (zs.map D.str))) (h : (zs.map (·.length)).sum + zs.length * a.length ≤ 1000000) : dJoin (.str a) [.loc l] s = some (.str (Txt.join a zs), s) := by
  simp only [dJoin, seqOf, lstOf, g, Option.bind_some, strs_map]
  rw [if_pos h]
/-! ### the texts of years and stretches -/
def ytx (y : Int) : Str := num (yn y) ++ " " ++ ys y
def stx (x : Int × Int) : Str := if x.1 = x.2 then ytx x.1 else ytx x.1 ++ " to " ++ ytx x.2
structure Yr (y : Int) : Prop where
  lo : -9999 ≤ y
  hi : y ≤ 9999
theorem ys_len (y : Int) : (ys y).length = 2 := by unfold ys; split <;> decide +kernel
theorem ytx_len {y : Int} (h : Yr y) : (ytx y).length ≤ 13 := by
  have a := num_len (k := yn y) (by have := yn_pos h.lo h.hi; omega)
  have b := ys_len y
  have c : (" " : Str).length = 1 := by decide +kernel
  unfold ytx
  rw [slen, slen]
  omega
theorem stx_len {x : Int × Int} (h1 : Yr x.1) (h2 : Yr x.2) : (stx x).length ≤ 30 := by
  have a := ytx_len h1
  have b := ytx_len h2
  have c : (" to " : Str).length = 4 := by decide +kernel
  unfold stx
  split
  · omega
  · rw [slen, slen]; omega
theorem ytext {y : Int} (h : Yr y) (s : Store) : m_year_text [.int y] s = .ok (.str (ytx y)) s := ytext_spec h.lo h.hi s
theorem stext {x : Int × Int} (h1 : Yr x.1) (h2 : Yr x.2) (s : Store) : m_stretch_text [.int x.1, .int x.2] s = .ok (.str (stx x)) s := by
  have e1 := ytext h1 s
  have e2 := ytext h2 s
  unfold stx
  by_cases c : x.1 = x.2
  · rw [if_pos c]
    simp [m_stretch_text, b_stretch_text, e1, c]
    rw [← c]
    simp [e1]
  · rw [if_neg c]
    have l1 := ytx_len h1
    have l2 := ytx_len h2
    have l3 : (" to " : Str).length = 4 := by decide +kernel
    generalize ytx x.1 = u at *
    generalize ytx x.2 = v at *
    have q1 := slen u " to "
    have q2 := slen (u ++ " to ") v
    have z1 : u.length ≤ 1000000 := by omega
    have z2 : (u ++ " to ").length ≤ 1000000 := by omega
    have z3 : (u ++ " to " ++ v).length ≤ 1000000 := by omega
    have z4 : v.length ≤ 1000000 := by omega
    have z5 : (" to " : Str).length ≤ 1000000 := by omega
    simp [m_stretch_text, b_stretch_text, c, e1, e2, sem, z1, z2, z3, z4, z5]
theorem ywords {y : Int} (h : Yr y) (s : Store) : m_d_law_year_words [.int y] s = .ok (.loc s.length) (s ++ [.lst ([num (yn y), ys y].map D.str)]) := wordsof_year h.lo h.hi s
theorem yjoin {y : Int} (h : Yr y) (s : Store) : dJoin (.str " ") [.loc s.length] (s ++ [.lst ([num (yn y), ys y].map D.str)]) = some (.str (ytx y), s ++ [.lst ([num (yn y), ys y].map D.str)]) := by
  have a := num_len (k := yn y) (by have := yn_pos h.lo h.hi; omega)
  have b := ys_len y
  have c : (" " : Str).length = 1 := by decide +kernel
  rw [join_loc (get_new _ _) (by simp only [List.map_cons, List.map_nil, List.sum_cons, List.sum_nil, List.length_cons, List.length_nil, c]; omega)]
  have e : Txt.join " " [num (yn y), ys y] = ytx y := tl_ext (by
    rw [TL.join_eq]
    have := TL.tl_join (" " : Str) [num (yn y), ys y]
    show TL.tl _ = _
    rw [this]
    simp only [List.map_cons, List.map_nil, TL.joinL]
    unfold ytx
    rw [tl_app, tl_app, List.append_assoc])
  rw [e]
def never : Str := "never"
def dtx (fs : List (Int × Int)) : Str := if fs = [] then "never" else Txt.join " or " (fs.map stx)
theorem sum_len {zs : List Str} (h : ∀ z ∈ zs, z.length ≤ 30) : (zs.map (·.length)).sum ≤ 30 * zs.length := by
  induction zs with
  | nil => simp
  | cons x r ih =>
    have a := h x (by simp)
    have b := ih fun z hz => h z (by simp [hz])
    simp
    omega
theorem dtext {fs : List (Int × Int)} (h : DOk fs) (s : Store) : ∃ s', m_dates_text [.tup (fs.map pr)] s = .ok (.str (dtx fs)) s' ∧ Ext s s' := by
  by_cases c : fs = []
  · subst c
    exact ⟨s, by simp [m_dates_text, b_dates_text, dtx], Ext.refl s⟩
  · have yr : ∀ x ∈ fs, Yr x.1 ∧ Yr x.2 := fun x hx => by have := h.bd x hx; exact ⟨⟨by omega, by omega⟩, ⟨by omega, by omega⟩⟩
    have e := lcL_map (gd := always) (g := gT 2 (gsC (gN 1) (gsC (gN 2) gsN))) (t := tT) (e := le_dates_text_1) (env := [some (.tup (fs.map pr)), none, none]) (s := s) trivial pr (fun x => D.str (stx x)) fs (fun x hx => by
      have e1 := stext (yr x hx).1 (yr x hx).2 s
      simp [le_dates_text_1, pick, pr, e1]) (by have := h.len; omega)
    have em : fs.map (fun x => D.str (stx x)) = (fs.map stx).map D.str := by rw [List.map_map]; rfl
    rw [em] at e
    have hl := h.len
    have sl := sum_len (zs := fs.map stx) fun z hz => by
      obtain ⟨x, hx, rfl⟩ := List.mem_map.mp hz
      exact stx_len (yr x hx).1 (yr x hx).2
    have ol : (" or " : Str).length = 4 := by decide +kernel
    have j := join_loc (a := " or ") (get_new s (.lst ((fs.map stx).map D.str))) (by rw [List.length_map] at sl ⊢; rw [ol]; omega)
    refine ⟨s ++ [.lst ((fs.map stx).map D.str)], ?_, Ext.mk _ _⟩
    unfold dtx
    rw [if_neg c]
    have tr : dTru s (.tup (fs.map pr)) = some true := by
      cases fs with
      | nil => exact absurd rfl c
      | cons a r => rfl
    generalize (fs.map stx).map D.str = ZZ at *
    generalize fs.map pr = FS at *
    simp [m_dates_text, b_dates_text, tr, e, j]
def LtI (v0 : D) (s0 : Store) (M : List (Int × Int)) (rest : List D) (env : Sl) (s : Store) : Prop := ∃ (P R : List (Int × Int)) (o2 o3 : Option D), rest = R.map pr ∧ M = P ++ R ∧ env = [some v0, some (.loc s0.length), o2, o3] ∧ Ext s0 s ∧ s[s0.length]? = some (.lst ((P.map stx).map D.str))
theorem ltext {fs : List (Int × Int)} (h : DOk fs) (s : Store) : ∃ s', m_d_law_text [.tup (fs.map pr)] s = .ok (.str (dtx fs)) s' ∧ Ext s s' := by
  by_cases c : fs = []
  · subst c
    exact ⟨s, by simp [m_d_law_text, b_d_law_text, dtx], Ext.refl s⟩
  · have yr : ∀ x ∈ fs, Yr x.1 ∧ Yr x.2 := fun x hx => by have := h.bd x hx; exact ⟨⟨by omega, by omega⟩, ⟨by omega, by omega⟩⟩
    have hl := h.len
    obtain ⟨env', s1, e, P, R, o2, o3, hr, hPR, rfl, x1, g1⟩ := forL_thru (gd := always) (g := gN 2) (b := bl_d_law_text_1) (LtI (.tup (fs.map pr)) s fs) (fun _ _ _ _ => trivial)
      (xs := fs.map pr) (env := [some (.tup (fs.map pr)), some (.loc s.length), none, none]) (s := s ++ [.lst []]) (fun x xs env s1 ⟨P, R, o2, o3, hr, hPR, he, x1, g1⟩ => by
        subst he
        cases R with
        | nil => cases hr
        | cons a R =>
          obtain ⟨rfl, rfl⟩ := List.cons.inj hr
          have hPl : P.length < fs.length := by rw [hPR]; simp
          obtain ⟨y1, y2⟩ := yr a (by rw [hPR]; simp)
          have e1 := ywords y1 s1
          have j1 := yjoin y1 s1
          have xa := Ext.mk s1 [Cell.lst ([num (yn a.1), ys a.1].map D.str)]
          obtain ⟨s2, hs2⟩ : ∃ s2, s2 = s1 ++ [Cell.lst ([num (yn a.1), ys a.1].map D.str)] := ⟨_, rfl⟩
          rw [← hs2] at e1 j1 xa
          have fin : ∀ (s3 : Store) o3, Ext s1 s3 → LtI (.tup (fs.map pr)) s fs (R.map pr) [some (.tup (fs.map pr)), some (.loc s.length), some (pr a), o3] (s3.set s.length (.lst ((P.map stx).map D.str ++ [.str (stx a)]))) := fun s3 o3 x3 =>
            ⟨P ++ [a], R, _, _, rfl, by rw [hPR]; simp, rfl, ext_setNew (x1.trans x3) (Nat.le_refl _) _, by rw [get_set (x3.get g1)]; simp⟩
          by_cases ca : a.1 = a.2
          · have ap := dAppend_loc (xa.get g1) (by simp; omega) (.str (stx a))
            have tk := tyOk_list (xa.get g1)
            have f := fin s2 (some (.str (stx a))) xa
            have es : stx a = ytx a.1 := by unfold stx; rw [if_pos ca]
            rw [es] at ap f
            generalize (P.map stx).map D.str = ZZ at *
            generalize fs.map pr = FS at *
            simp only [pr] at *
            simp [bl_d_law_text_1, e1, j1, ix0, ix1, ca, ap, tk]
            rw [← ca]
            simp [e1, j1, ap, tk, ix0, ix1]
            rw [← ca] at f
            exact f
          · have e2 := ywords y2 s2
            have j2 := yjoin y2 s2
            have xb := Ext.mk s2 [Cell.lst ([num (yn a.2), ys a.2].map D.str)]
            obtain ⟨s3, hs3⟩ : ∃ s3, s3 = s2 ++ [Cell.lst ([num (yn a.2), ys a.2].map D.str)] := ⟨_, rfl⟩
            rw [← hs3] at e2 j2 xb
            have xx := xa.trans xb
            have ap := dAppend_loc (xx.get g1) (by simp; omega) (.str (stx a))
            have tk := tyOk_list (xx.get g1)
            have f := fin s3 (some (.str (stx a))) xx
            have es : stx a = ytx a.1 ++ " to " ++ ytx a.2 := by unfold stx; rw [if_neg ca]
            have l1 := ytx_len y1
            have l2 := ytx_len y2
            have l3 : (" to " : Str).length = 4 := by decide +kernel
            have q1 := slen (ytx a.1) " to "
            have d1 := fun s => sadd (a := ytx a.1) (b := " to ") (by omega) (by omega) s
            have d2 := fun s => sadd (a := ytx a.1 ++ " to ") (b := ytx a.2) (by omega) (by omega) s
            rw [es] at ap f
            generalize ytx a.1 ++ " to " ++ ytx a.2 = u3 at *
            generalize ytx a.1 ++ " to " = u2 at *
            generalize ytx a.1 = u1 at *
            generalize ytx a.2 = u4 at *
            generalize (P.map stx).map D.str = ZZ at *
            generalize fs.map pr = FS at *
            simp only [pr] at *
            simp [bl_d_law_text_1, e1, j1, ix0, ix1, ca, e2, j2, d1, d2, ap, tk]
            exact f)
      ⟨[], fs, none, none, rfl, rfl, rfl, Ext.mk _ _, get_new _ _⟩
    have hR : R = [] := by
      cases R with
      | nil => rfl
      | cons _ _ => cases hr
    subst hR
    rw [List.append_nil] at hPR
    rw [← hPR] at g1
    have sl := sum_len (zs := fs.map stx) fun z hz => by
      obtain ⟨x, hx, rfl⟩ := List.mem_map.mp hz
      exact stx_len (yr x hx).1 (yr x hx).2
    have ol : (" or " : Str).length = 4 := by decide +kernel
    have j := join_loc (a := " or ") g1 (by rw [List.length_map] at sl ⊢; rw [ol]; omega)
    refine ⟨s1, ?_, x1⟩
    unfold dtx
    rw [if_neg c]
    have hz : ¬ (fs.length : Int) = 0 := by
      cases fs with
      | nil => exact absurd rfl c
      | cons a r => simp; omega
    have ln : dLen [.tup (fs.map pr)] s = some (.int fs.length, s) := by simp
    have hz2 : ¬ fs.length = 0 := by omega
    clear hPR
    generalize (fs.map stx).map D.str = ZZ at *
    generalize fs.map pr = FS at *
    generalize fs.length = fl at *
    simp [m_d_law_text, b_d_law_text, ln, hz, hz2, e, j]
end Law
namespace Law
open PySem Mi
structure WK (w : Str) : Prop where
  nosp : 32 ∉ tl w
  len : w.length ≤ 40
  tok : TOk w
  ne : tl w ≠ []
theorem wk_lit {z : Str} (h : (!(tl z).contains 32 && decide (z.length ≤ 40) && (tl z).all (fun c => decide (c < 1000)) && !(tl z).isEmpty) = true) : WK z := by
  simp only [Bool.and_eq_true] at h
  obtain ⟨⟨⟨h1, h2⟩, h3⟩, h4⟩ := h
  refine ⟨fun q => ?_, by simpa using h2, fun c hc => by simpa using List.all_eq_true.mp h3 c hc, fun q => ?_⟩
  · have : (tl z).contains 32 = true := by simpa using q
    rw [this] at h1
    simp at h1
  · rw [q] at h4; simp at h4
theorem wk_num {k : Nat} (h : k < 2000000000) : WK (num k) := ⟨(num_ok h).1, (num_ok h).2, fun c hc => by
  have := List.all_eq_true.mp (num_digs k) c hc
  unfold dg at this
  simp at this
  omega, num_ne k⟩
theorem wk_ys (y : Int) : WK (ys y) := by
  unfold ys
  split <;> exact wk_lit (by decide +kernel)
theorem wk_or : WK "or" := wk_lit (by decide +kernel)
theorem wk_to : WK "to" := wk_lit (by decide +kernel)
theorem tok_app {a b : Str} (ha : TOk a) (hb : TOk b) : TOk (a ++ b) := fun c hc => by
  rw [tl_app] at hc
  rcases List.mem_append.mp hc with h | h
  · exact ha c h
  · exact hb c h
/-! ### rows of words, told one after the other -/
def jw : List (List Str) → List Str
  | [] => []
  | [r] => r
  | r :: q :: t => r ++ ("or" : Str) :: jw (q :: t)
theorem parts_app : ∀ (r g ws : List Str), ("or" : Str) ∉ r → parts g (r ++ ws) = parts (g ++ r) ws
  | [], g, ws, _ => by simp
  | w :: r, g, ws, h => by
    have h1 : ¬ w = "or" := fun e => h (by rw [e]; exact List.mem_cons_self)
    rw [List.cons_append, parts, if_neg h1, parts_app r _ ws (fun e => h (List.mem_cons_of_mem _ e))]
    simp
theorem parts_jw : ∀ (rows : List (List Str)), rows ≠ [] → (∀ r ∈ rows, ("or" : Str) ∉ r) → parts [] (jw rows) = rows
  | [], h, _ => absurd rfl h
  | [r], _, h => by
    have := parts_app r [] [] (h r (by simp))
    rw [List.append_nil] at this
    rw [jw, this, parts]
    simp
  | r :: q :: t, _, h => by
    rw [jw, parts_app r [] _ (h r (by simp)), parts, if_pos rfl, parts_jw (q :: t) (by simp) fun x hx => h x (List.mem_cons_of_mem _ hx)]
    simp
theorem jw_len {m : Nat} : ∀ (rows : List (List Str)), rows ≠ [] → (∀ r ∈ rows, m ≤ r.length) → m ≤ (jw rows).length
  | [], h, _ => absurd rfl h
  | [r], _, h => h r (by simp)
  | r :: q :: t, _, h => by
    have := h r (by simp)
    rw [jw]
    simp
    omega
theorem jw_mem : ∀ {rows : List (List Str)} {P : Str → Prop}, (∀ r ∈ rows, ∀ w ∈ r, P w) → P "or" → ∀ w ∈ jw rows, P w
  | [], _, _, _, w, hw => by cases hw
  | [r], _, h, _, w, hw => h r (by simp) w hw
  | r :: q :: t, _, h, ho, w, hw => by
    rw [jw] at hw
    rcases List.mem_append.mp hw with hw | hw
    · exact h r (by simp) w hw
    · rcases List.mem_cons.mp hw with rfl | hw
      · exact ho
      · exact jw_mem (fun x hx => h x (List.mem_cons_of_mem _ hx)) ho w hw
/-! ### the words of a stretch -/
def sw1 (y : Int) : List Str := [num (yn y), ys y]
def sw2 (a b : Int) : List Str := [num (yn a), ys a, "to", num (yn b), ys b]
theorem sd_sw1 {y : Int} (h : Yr y) : sd (sw1 y) = .good y y := by
  show sd2 (num (yn y)) (ys y) = _
  unfold sd2
  rw [due_year h.lo h.hi]
theorem sd_sw2 {a b : Int} (ha : Yr a) (hb : Yr b) (h : a ≤ b) : sd (sw2 a b) = .good a b := by
  show (if ("to" : Str) = "to" then sd5 (num (yn a)) (ys a) (num (yn b)) (ys b) else .bad "words") = _
  rw [if_pos rfl]
  unfold sd5
  rw [due_year ha.lo ha.hi, due_year hb.lo hb.hi]
  simp only
  rw [if_neg (by omega)]
/-- a row that tells the stretch -/
def Tells (r : List Str) (x : Int × Int) : Prop := r = sw2 x.1 x.2 ∨ (x.1 = x.2 ∧ r = sw1 x.1)
theorem Tells.sd {r : List Str} {x : Int × Int} (h : Tells r x) (h1 : Yr x.1) (h2 : Yr x.2) (h3 : x.1 ≤ x.2) : sd r = .good x.1 x.2 := by
  rcases h with rfl | ⟨e, rfl⟩
  · exact sd_sw2 h1 h2 h3
  · rw [sd_sw1 h1, ← e]
theorem wk_sw1 {y : Int} (h : Yr y) : ∀ w ∈ sw1 y, WK w := fun w hw => by
  have := yn_pos h.lo h.hi
  simp only [sw1, List.mem_cons, List.mem_nil_iff, or_false] at hw
  rcases hw with rfl | rfl
  · exact wk_num (by omega)
  · exact wk_ys y
theorem wk_sw2 {a b : Int} (ha : Yr a) (hb : Yr b) : ∀ w ∈ sw2 a b, WK w := fun w hw => by
  have := yn_pos ha.lo ha.hi
  have := yn_pos hb.lo hb.hi
  simp only [sw2, List.mem_cons, List.mem_nil_iff, or_false] at hw
  rcases hw with rfl | rfl | rfl | rfl | rfl
  · exact wk_num (by omega)
  · exact wk_ys a
  · exact wk_to
  · exact wk_num (by omega)
  · exact wk_ys b
theorem Tells.wk {r : List Str} {x : Int × Int} (h : Tells r x) (h1 : Yr x.1) (h2 : Yr x.2) : ∀ w ∈ r, WK w := by
  rcases h with rfl | ⟨e, rfl⟩
  · exact wk_sw2 h1 h2
  · exact wk_sw1 h1
theorem Tells.len {r : List Str} {x : Int × Int} (h : Tells r x) : 2 ≤ r.length ∧ r.length ≤ 5 := by
  rcases h with rfl | ⟨e, rfl⟩ <;> simp [sw1, sw2]
theorem num_or (k : Nat) : num k ≠ "or" := fun e => by
  have h := num_digs k
  rw [e] at h
  exact absurd h (by decide +kernel)
theorem ys_or (y : Int) : ys y ≠ "or" := by unfold ys; split <;> decide +kernel
theorem to_or : ("to" : Str) ≠ "or" := by decide +kernel
theorem Tells.noor {r : List Str} {x : Int × Int} (h : Tells r x) : ("or" : Str) ∉ r := fun hm => by
  rcases h with rfl | ⟨e, rfl⟩
  · simp only [sw2, List.mem_cons, List.mem_nil_iff, or_false] at hm
    rcases hm with h | h | h | h | h
    · exact num_or _ h.symm
    · exact ys_or _ h.symm
    · exact to_or h.symm
    · exact num_or _ h.symm
    · exact ys_or _ h.symm
  · simp only [sw1, List.mem_cons, List.mem_nil_iff, or_false] at hm
    rcases hm with h | h
    · exact num_or _ h.symm
    · exact ys_or _ h.symm
def TellsL : List (List Str) → List (Int × Int) → Prop
  | [], [] => True
  | r :: rs, x :: xs => (Tells r x ∧ Yr x.1 ∧ Yr x.2 ∧ x.1 ≤ x.2) ∧ TellsL rs xs
  | _, _ => False
theorem TellsL.fst : ∀ {rs : List (List Str)} {xs : List (Int × Int)}, TellsL rs xs → Law.fst rs = .good xs
  | [], [], _ => rfl
  | r :: rs, x :: xs, ⟨⟨h1, h2, h3, h4⟩, h⟩ => by rw [Law.fst, h1.sd h2 h3 h4]; simp only; rw [h.fst]
  | [], _ :: _, h => h.elim
  | _ :: _, [], h => h.elim
theorem TellsL.all : ∀ {rs : List (List Str)} {xs : List (Int × Int)}, TellsL rs xs → ∀ r ∈ rs, ∃ x, x ∈ xs ∧ Tells r x ∧ Yr x.1 ∧ Yr x.2 ∧ x.1 ≤ x.2
  | [], [], _, r, hr => by cases hr
  | r :: rs, x :: xs, ⟨h0, h⟩, r', hr => by
    rcases List.mem_cons.mp hr with rfl | hr
    · exact ⟨x, by simp, h0⟩
    · obtain ⟨y, hy, q⟩ := h.all r' hr
      exact ⟨y, by simp [hy], q⟩
  | [], _ :: _, h, _, _ => h.elim
  | _ :: _, [], h, _, _ => h.elim
theorem TellsL.len : ∀ {rs : List (List Str)} {xs : List (Int × Int)}, TellsL rs xs → rs.length = xs.length
  | [], [], _ => rfl
  | r :: rs, x :: xs, ⟨_, h⟩ => by simp [h.len]
  | [], _ :: _, h => h.elim
  | _ :: _, [], h => h.elim
theorem never_len {ws : List Str} (h : 2 ≤ ws.length) : ¬ ws = [("never" : Str)] := fun e => by rw [e] at h; simp at h
theorem TellsL.verd {rs : List (List Str)} {xs : List (Int × Int)} (h : TellsL rs xs) (hne : rs ≠ []) : verd (jw rs) = .good xs := by
  unfold Law.verd
  rw [if_neg (never_len (jw_len rs hne fun r hr => by obtain ⟨x, _, q, _⟩ := h.all r hr; exact q.len.1)), parts_jw rs hne fun r hr => by obtain ⟨x, _, q, _⟩ := h.all r hr; exact q.noor]
  exact h.fst
/-! ### the words of the text of dates -/
theorem W_cons (w : List Nat) (h : 32 ∉ w) (hne : w ≠ []) (r : List Nat) : W (w ++ 32 :: r) = w :: W r := by
  rw [W_sp, W_word h]
  have : ne0 [w] = [w] := by
    unfold ne0
    simp [hne]
  rw [this]
  rfl
theorem W_one (w : List Nat) (h : 32 ∉ w) (hne : w ≠ []) : W w = [w] := by
  rw [W_word h]
  unfold ne0
  simp [hne]
theorem tl_space : tl (" " : Str) = [32] := by decide +kernel
theorem W_ytx {y : Int} (h : Yr y) : W (tl (ytx y)) = (sw1 y).map tl := by
  have hy := yn_pos h.lo h.hi
  have a := wk_num (k := yn y) (by omega)
  have b := wk_ys y
  unfold ytx
  rw [tl_app, tl_app, tl_space, List.append_assoc, List.cons_append, List.nil_append, W_cons _ a.nosp a.ne, W_one _ b.nosp b.ne]
  rfl
def rowx (x : Int × Int) : List Str := if x.1 = x.2 then sw1 x.1 else sw2 x.1 x.2
theorem tells_rowx (x : Int × Int) : Tells (rowx x) x := by
  unfold rowx
  by_cases c : x.1 = x.2
  · rw [if_pos c]; exact .inr ⟨c, rfl⟩
  · rw [if_neg c]; exact .inl rfl
theorem W_stx {x : Int × Int} (h1 : Yr x.1) (h2 : Yr x.2) : W (tl (stx x)) = (rowx x).map tl := by
  unfold stx rowx
  by_cases c : x.1 = x.2
  · rw [if_pos c, if_pos c]; exact W_ytx h1
  · rw [if_neg c, if_neg c, tl_app, tl_app]
    have e : tl (" to " : Str) = [32, 116, 111, 32] := by decide +kernel
    have e2 : tl ("to" : Str) = [116, 111] := by decide +kernel
    rw [e, List.append_assoc]
    show W (tl (ytx x.1) ++ 32 :: ([116, 111] ++ 32 :: tl (ytx x.2))) = _
    rw [W_sp, W_cons [116, 111] (by decide) (by decide), W_ytx h1, W_ytx h2]
    simp [sw1, sw2, e2]
theorem W_join {fs : List (Int × Int)} (h : ∀ x ∈ fs, Yr x.1 ∧ Yr x.2) : W (TL.joinL (tl (" or " : Str)) ((fs.map stx).map tl)) = (jw (fs.map rowx)).map tl := by
  have e : tl (" or " : Str) = [32, 111, 114, 32] := by decide +kernel
  have e2 : tl ("or" : Str) = [111, 114] := by decide +kernel
  induction fs with
  | nil => simp [TL.joinL, jw, W_nil]
  | cons x r ih =>
    obtain ⟨h1, h2⟩ := h x (by simp)
    have ih' := ih fun y hy => h y (by simp [hy])
    cases r with
    | nil => simpa [TL.joinL, jw] using W_stx h1 h2
    | cons y t =>
      simp only [List.map_cons, TL.joinL, jw] at ih' ⊢
      rw [e] at ih' ⊢
      show W (tl (stx x) ++ 32 :: ([111, 114] ++ 32 :: TL.joinL [32, 111, 114, 32] (tl (stx y) :: List.map tl (List.map stx t)))) = _
      rw [W_sp, W_cons [111, 114] (by decide) (by decide), W_stx h1 h2, ih']
      simp [e2]
theorem DOk.yr {fs : List (Int × Int)} (h : DOk fs) : ∀ x ∈ fs, Yr x.1 ∧ Yr x.2 := fun x hx => by
  have := h.bd x hx
  exact ⟨⟨by omega, by omega⟩, ⟨by omega, by omega⟩⟩
theorem tells_map {fs : List (Int × Int)} (h : ∀ x ∈ fs, Yr x.1 ∧ Yr x.2 ∧ x.1 ≤ x.2) : TellsL (fs.map rowx) fs := by
  induction fs with
  | nil => trivial
  | cons x r ih => exact ⟨⟨tells_rowx x, h x (by simp)⟩, ih fun y hy => h y (by simp [hy])⟩
theorem verd_dtx {fs : List (Int × Int)} (h : DOk fs) : verd (words (dtx fs)) = .good fs := by
  unfold dtx
  by_cases c : fs = []
  · rw [if_pos c, c]
    have e : words ("never" : Str) = [("never" : Str)] := words_of_W (by
      rw [W_one _ (by decide +kernel) (by decide +kernel)]
      rfl)
    rw [e]
    rfl
  · rw [if_neg c]
    have e : words (Txt.join " or " (fs.map stx)) = jw (fs.map rowx) := words_of_W (by
      rw [TL.join_eq]
      have := TL.tl_join (" or " : Str) (fs.map stx)
      show W (TL.tl _) = _
      rw [this]
      exact W_join h.yr)
    rw [e]
    exact (tells_map fun x hx => ⟨(h.yr x hx).1, (h.yr x hx).2, (h.bd x hx).2.1⟩).verd (by simpa using c)
theorem joinL_mem (S : List Nat) : ∀ (ps : List (List Nat)) (c : Nat), c ∈ TL.joinL S ps → c ∈ S ∨ ∃ p ∈ ps, c ∈ p
  | [], c, h => by cases h
  | [p], c, h => .inr ⟨p, by simp, h⟩
  | p :: q :: r, c, h => by
    rw [TL.joinL] at h
    rcases List.mem_append.mp h with h | h
    · exact .inr ⟨p, by simp, h⟩
    · rcases List.mem_append.mp h with h | h
      · exact .inl h
      · rcases joinL_mem S (q :: r) c h with h | ⟨x, hx, h⟩
        · exact .inl h
        · exact .inr ⟨x, List.mem_cons_of_mem _ hx, h⟩
theorem joinL_len (S : List Nat) (m : Nat) : ∀ (ps : List (List Nat)), (∀ p ∈ ps, p.length ≤ m) → (TL.joinL S ps).length ≤ (m + S.length) * ps.length
  | [], _ => by simp [TL.joinL]
  | [p], h => by have := h p (by simp); simp [TL.joinL]; omega
  | p :: q :: r, h => by
    have a := h p (by simp)
    have b := joinL_len S m (q :: r) fun x hx => h x (List.mem_cons_of_mem _ hx)
    rw [TL.joinL, List.length_append, List.length_append, List.length_cons, Nat.mul_succ]
    omega
theorem tok_ytx {y : Int} (h : Yr y) : TOk (ytx y) := by
  have hy := yn_pos h.lo h.hi
  unfold ytx
  exact tok_app (tok_app (wk_num (k := yn y) (by omega)).tok (fun c hc => by rw [tl_space] at hc; simp at hc; omega)) (wk_ys y).tok
theorem tok_stx {x : Int × Int} (h1 : Yr x.1) (h2 : Yr x.2) : TOk (stx x) := by
  unfold stx
  split
  · exact tok_ytx h1
  · have e : tl (" to " : Str) = [32, 116, 111, 32] := by decide +kernel
    exact tok_app (tok_app (tok_ytx h1) (fun c hc => by rw [e] at hc; simp at hc; omega)) (tok_ytx h2)
theorem dtx_ok {fs : List (Int × Int)} (h : DOk fs) : TOk (dtx fs) ∧ (dtx fs).length ≤ 1000 := by
  unfold dtx
  by_cases c : fs = []
  · rw [if_pos c]
    exact ⟨(wk_lit (z := "never") (by decide +kernel)).tok, by decide +kernel⟩
  · rw [if_neg c]
    have e : tl (" or " : Str) = [32, 111, 114, 32] := by decide +kernel
    have tj : tl (Txt.join " or " (fs.map stx)) = TL.joinL (tl (" or " : Str)) ((fs.map stx).map tl) := by
      rw [TL.join_eq]
      exact TL.tl_join (" or " : Str) (fs.map stx)
    constructor
    · intro x hx
      rw [tj] at hx
      rcases joinL_mem _ _ _ hx with h' | ⟨p, hp, h'⟩
      · rw [e] at h'; simp at h'; omega
      · obtain ⟨z, hz, rfl⟩ := List.mem_map.mp hp
        obtain ⟨y, hy, rfl⟩ := List.mem_map.mp hz
        exact tok_stx (h.yr y hy).1 (h.yr y hy).2 x h'
    · rw [← tl_len, tj]
      have := joinL_len (tl (" or " : Str)) 30 ((fs.map stx).map tl) fun p hp => by
        obtain ⟨z, hz, rfl⟩ := List.mem_map.mp hp
        obtain ⟨y, hy, rfl⟩ := List.mem_map.mp hz
        rw [tl_len]
        exact stx_len (h.yr y hy).1 (h.yr y hy).2
      rw [e, List.length_map, List.length_map] at this
      have hl := h.len
      rw [e]
      simp only [List.length_cons, List.length_nil] at this
      omega
theorem norm_self {fs gs : List (Int × Int)} (h : DOk fs) (k : Norm fs gs) : gs = fs := by
  obtain ⟨_, a⟩ := h.asc
  obtain ⟨_, b⟩ := k.1
  exact b.uniq a k.2
end Law
namespace Law
open PySem Mi
/-! ### a line of rows -/
def Op (z : Str) : Prop := ∀ w : List Nat, 32 ∉ w → W (tl z ++ w) = W (tl z) ++ ne0 [w]
theorem op_sp {z : Str} {k : Nat} (h : tl z = List.replicate k 32) : Op z ∧ W (tl z) = [] := by
  have e : W (tl z) = [] := by
    have := W_spaces [] k
    rw [List.nil_append, W_nil] at this
    rw [h]
    exact this
  refine ⟨fun w hw => ?_, e⟩
  rw [e, h, W_first k hw]
  rfl
theorem op_next (z : Str) {a : Str} {k : Nat} (h : tl a = List.replicate (k + 1) 32) : Op (z ++ a) ∧ W (tl (z ++ a)) = W (tl z) := by
  have e : W (tl (z ++ a)) = W (tl z) := by rw [tl_app, h, W_spaces]
  refine ⟨fun w hw => ?_, e⟩
  rw [e, tl_app, h, W_next _ k hw]
theorem op_word {z w : Str} (h : Op z) (hw : WK w) : W (tl (z ++ w)) = W (tl z) ++ [tl w] := by
  rw [tl_app, h _ hw.nosp]
  unfold ne0
  simp [hw.ne]
theorem AtL.get {s : Store} : ∀ {ls : List Nat} {gs : List (List Str)} {i : Nat}, AtL s ls gs → (h : i < gs.length) → ∃ l, ls[i]? = some l ∧ l ∈ ls ∧ s[l]? = some (.lst (gs[i].map D.str))
  | l :: ls, g :: gs, 0, ⟨a, b⟩, _ => ⟨l, rfl, by simp, a⟩
  | l :: ls, g :: gs, i + 1, ⟨a, b⟩, h => by
    obtain ⟨l', h1, h2, h3⟩ := b.get (i := i) (by simpa using h)
    exact ⟨l', by simpa using h1, by simp [h2], by simpa using h3⟩
  | [], _ :: _, _, h, _ => h.elim
  | _ :: _, [], _, h, _ => h.elim
  | [], [], _, _, h => by simp at h
theorem AtL.kp {p : Nat} {s s' : Store} (k : Kp p s s') {ls : List Nat} {gs : List (List Str)} (h : AtL s ls gs) (n : ∀ l ∈ ls, l ≠ p) : AtL s' ls gs := h.mono fun l hl => k.2 l (h.lt l hl) (n l hl)
def cst (rows : List (List Str)) : Nat := (rows.map fun r => 10 + 44 * r.length).sum
theorem cst_take : ∀ (rows : List (List Str)) (i : Nat), cst (rows.take i) ≤ cst rows
  | [], i => by simp [cst]
  | r :: rs, 0 => by simp [cst]
  | r :: rs, i + 1 => by
    have := cst_take rs i
    simp only [cst, List.take_succ_cons, List.map_cons, List.sum_cons] at this ⊢
    omega
theorem cst_snoc (a : List (List Str)) (r : List Str) : cst (a ++ [r]) = cst a + (10 + 44 * r.length) := by simp [cst]
theorem jw_snoc : ∀ (a : List (List Str)) (r : List Str), jw (a ++ [r]) = if a = [] then r else jw a ++ ("or" : Str) :: r
  | [], r => rfl
  | [x], r => rfl
  | x :: y :: t, r => by
    have := jw_snoc (y :: t) r
    rw [if_neg (by simp)] at this
    show x ++ ("or" : Str) :: jw ((y :: t) ++ [r]) = _
    rw [this, if_neg (by simp), jw]
    simp
theorem take_snoc {α : Type} {l : List α} {i : Nat} (h : i < l.length) : l.take (i + 1) = l.take i ++ [l[i]] := by simp
theorem drawnW {p : Nat} {s : Store} (hp : Pool p s) {L : List D} {w : Int} (h0 : 0 < w) (h1 : w ≤ L.length) (h2 : L.length ≤ 1000) : ∃ (j : Int) (s1 : Store) (d : D), m_d_law_draw [.loc p, .int w] (s ++ [.lst L]) = .ok (.int j) s1 ∧ d ∈ L ∧ dIx (.loc s.length) (.int j) s1 = some (d, s1) ∧ Pool p s1 ∧ Kp p s s1 := by
  obtain ⟨j, s1, e1, j0, j1, p1, k1⟩ := draw_spec (hp.app [.lst L]) (many := w) h0 (by omega)
  have g := Kp.get k1 (get_new s (.lst L)) (Nat.ne_of_gt hp.lt)
  obtain ⟨d, hd, wd⟩ := zmem g (i := j) j0 (by omega)
  exact ⟨j, s1, d, e1, hd, wd, p1, (Kp.app p s _).trans k1⟩
def spL : List D := [.str " ", .str "  ", .str "    "]
theorem sp_draw {p l : Nat} {s : Store} (hp : Pool p s) (g : s[l]? = some (.lst spL)) (n : l ≠ p) {w : Int} (h0 : 0 < w) (h1 : w ≤ 3) : ∃ (j : Int) (s1 : Store) (z : Str) (k : Nat), m_d_law_draw [.loc p, .int w] s = .ok (.int j) s1 ∧ dIx (.loc l) (.int j) s1 = some (.str z, s1) ∧ tl z = List.replicate (k + 1) 32 ∧ k ≤ 3 ∧ Pool p s1 ∧ Kp p s s1 := by
  obtain ⟨j, s1, e1, j0, j1, p1, k1⟩ := draw_spec hp (many := w) h0 (by omega)
  obtain ⟨d, hd, wd⟩ := zmem (Kp.get k1 g n) (i := j) j0 (by simp [spL]; omega)
  simp only [spL, List.mem_cons, List.mem_nil_iff, or_false] at hd
  rcases hd with rfl | rfl | rfl
  · exact ⟨j, s1, _, 0, e1, wd, by decide +kernel, by omega, p1, k1⟩
  · exact ⟨j, s1, _, 1, e1, wd, by decide +kernel, by omega, p1, k1⟩
  · exact ⟨j, s1, _, 3, e1, wd, by decide +kernel, by omega, p1, k1⟩
theorem tok_sp {z : Str} {k : Nat} (h : tl z = List.replicate k 32) : TOk z := fun c hc => by
  rw [h] at hc
  have := List.eq_of_mem_replicate hc
  omega
theorem len_sp {z : Str} {k : Nat} (h : tl z = List.replicate k 32) : z.length = k := by rw [← tl_len, h, List.length_replicate]
/-- the words of one row -/
def InI (p lr lp : Nat) (w : Int) (pl : Nat) (W0 : List (List Nat)) (L0 : Nat) (row : List Str) (s : Store) (i : Nat) (env : Sl) (s' : Store) : Prop := ∃ (z : Str) (o6 : Option D), env = [some (.loc p), some (.loc lr), some (.loc lp), some (.int w), some (.str z), some (.int (pl : Nat)), o6] ∧ Pool p s' ∧ Kp p s s' ∧ W (tl z) = W0 ++ (row.take i).map tl ∧ z.length ≤ L0 + 44 * i ∧ TOk z ∧ (i = 0 → Op z)
theorem row_loop {p lr lp l pl : Nat} {w : Int} {LR : List D} {row : List Str} {s : Store} (hp : Pool p s) (gr : s[lr]? = some (.lst LR)) (nr : lr ≠ p) (gp : s[lp]? = some (.lst spL)) (np : lp ≠ p) (h0 : 0 < w) (h1 : w ≤ 3) (hpl : LR[pl]? = some (.loc l)) (gl : s[l]? = some (.lst (row.map D.str))) (nl : l ≠ p) (hw : ∀ x ∈ row, WK x) {z : Str} {L0 : Nat} (hz : z.length ≤ L0) (hb : L0 + 44 * row.length ≤ 95000) (ht : TOk z) (ho : Op z) (o6 : Option D) :
    ∃ (z' : Str) (o6' : Option D) (s' : Store), forL always (gN 6) bl_d_law_line_1 (rng row.length) [some (.loc p), some (.loc lr), some (.loc lp), some (.int w), some (.str z), some (.int (pl : Nat)), o6] s = .nx [some (.loc p), some (.loc lr), some (.loc lp), some (.int w), some (.str z'), some (.int (pl : Nat)), o6'] s' ∧ Pool p s' ∧ Kp p s s' ∧ W (tl z') = W (tl z) ++ row.map tl ∧ z'.length ≤ L0 + 44 * row.length ∧ TOk z' := by
  obtain ⟨W0, hW0⟩ : ∃ W0, W0 = W (tl z) := ⟨_, rfl⟩
  rw [← hW0]
  obtain ⟨env', s', e, z', o6', rfl, p', k', hW, hl, ht', _⟩ := forL_atT (gd := always) (g := gN 6) (b := bl_d_law_line_1) (rng row.length) (InI p lr lp w pl W0 L0 row s) (fun _ _ _ _ => trivial)
    (env := [some (.loc p), some (.loc lr), some (.loc lp), some (.int w), some (.str z), some (.int (pl : Nat)), o6]) (s := s) (fun i x env s2 hx ⟨z, o6, he, p2, k2, hW, hz, ht, ho⟩ => by
      subst he
      obtain ⟨hi, rfl⟩ := rng_get hx
      have wk := hw row[i] (List.getElem_mem _)
      have tk := take_snoc (l := row) hi
      have look : ∀ s3, Kp p s2 s3 → dIx (.loc lr) (.int (pl : Nat)) s3 = some (.loc l, s3) ∧ dIx (.loc l) (.int (i : Nat)) s3 = some (.str row[i], s3) := fun s3 k3 => by
        have a := Kp.get (k2.trans k3) gr nr
        have b := Kp.get (k2.trans k3) gl nl
        refine ⟨?_, ?_⟩
        · rw [dIx_loc a, L2.atI_nat hpl]; rfl
        · rw [dIx_loc b, L2.atI_nat (v := D.str row[i]) (by simp [hi])]; rfl
      generalize row[i] = x at *
      have wl := wk.len
      by_cases c0 : i = 0
      · obtain ⟨i1, i2⟩ := look s2 (Kp.refl p s2)
        have a := sadd (a := z) (b := x) (by omega) (by omega) s2
        have f : InI p lr lp w pl W0 L0 row s (i + 1) [some (.loc p), some (.loc lr), some (.loc lp), some (.int w), some (.str (z ++ x)), some (.int (pl : Nat)), some (.int (i : Nat))] s2 := ⟨z ++ x, _, rfl, p2, k2, by rw [op_word (ho c0) wk, hW, tk]; simp, by rw [slen]; omega, tok_app ht wk.tok, by omega⟩
        generalize z ++ x = zx at *
        subst c0
        have i2' : dIx (.loc l) (.int 0) s2 = some (.str x, s2) := i2
        simp [bl_d_law_line_1, i1, i2', a]
        exact f
      · obtain ⟨j, s3, a, k, e3, ix, ta, hk, p3, k3⟩ := sp_draw p2 (Kp.get k2 gp np) np h0 h1
        obtain ⟨i1, i2⟩ := look s3 k3
        have la := len_sp ta
        have l1 := slen z a
        have a1 := sadd (a := z) (b := a) (by omega) (by omega) s3
        have a2 := sadd (a := z ++ a) (b := x) (by omega) (by omega) s3
        obtain ⟨o1, o2⟩ := op_next z ta
        have f : InI p lr lp w pl W0 L0 row s (i + 1) [some (.loc p), some (.loc lr), some (.loc lp), some (.int w), some (.str (z ++ a ++ x)), some (.int (pl : Nat)), some (.int (i : Nat))] s3 := ⟨z ++ a ++ x, _, rfl, p3, k2.trans k3, by rw [op_word o1 wk, o2, hW, tk]; simp, by rw [slen]; omega, tok_app (tok_app ht (tok_sp ta)) wk.tok, by omega⟩
        generalize z ++ a ++ x = zx at *
        generalize z ++ a = za at *
        have ci : 0 < (i : Int) := by omega
        have ci' : 0 < i := by omega
        simp [bl_d_law_line_1, ci, ci', e3, ix, a1, i1, i2, a2]
        exact f) ⟨z, o6, rfl, hp, Kp.refl p s, by rw [hW0]; simp, by omega, ht, fun _ => ho⟩
  rw [rng_len] at hW hl
  rw [List.take_of_length_le (Nat.le_refl _)] at hW
  exact ⟨z', o6', s', e, p', k', hW, hl, ht'⟩
def OutI (p lr lp : Nat) (w : Int) (rows : List (List Str)) (s : Store) (i : Nat) (env : Sl) (s' : Store) : Prop := ∃ (z : Str) (o5 o6 : Option D), env = [some (.loc p), some (.loc lr), some (.loc lp), some (.int w), some (.str z), o5, o6] ∧ Pool p s' ∧ Kp p s s' ∧ W (tl z) = (jw (rows.take i)).map tl ∧ z.length ≤ 4 + cst (rows.take i) ∧ TOk z ∧ (i = 0 → Op z)
structure Rws (p : Nat) (s : Store) (lr : Nat) (rows : List (List Str)) : Prop where
  at_ : ∃ ls : List Nat, s[lr]? = some (.lst (ls.map D.loc)) ∧ AtL s ls rows ∧ ∀ l ∈ ls, l ≠ p
  ne : lr ≠ p
  wk : ∀ r ∈ rows, ∀ w ∈ r, WK w
  n : rows.length ≤ 1000
theorem line_spec {p lr : Nat} {s : Store} (h : Pool p s) {rows : List (List Str)} (hr : Rws p s lr rows) (hc : cst rows ≤ 90000) : ∃ (z : Str) (s' : Store), m_d_law_line [.loc p, .loc lr] s = .ok (.str z) s' ∧ words z = jw rows ∧ z.length ≤ 100000 ∧ TOk z ∧ Pool p s' ∧ Kp p s s' := by
  obtain ⟨ls, gr, gl, nl⟩ := hr.at_
  have p0 := h.app [Cell.lst spL]
  have g0 := get_new s (.lst spL)
  have n0 : s.length ≠ p := Nat.ne_of_gt h.lt
  have k0 := Kp.app p s [Cell.lst spL]
  obtain ⟨s1, hs1⟩ : ∃ s1, s1 = s ++ [Cell.lst spL] := ⟨_, rfl⟩
  rw [← hs1] at p0 g0 k0
  obtain ⟨j, s2, d, e2, hd, w2, p2, k2⟩ := drawnW p0 (L := [.int 1, .int 1, .int 3]) (w := 3) (by omega) (by simp) (by simp)
  obtain ⟨w, rfl, h0, h1⟩ : ∃ w : Int, d = .int w ∧ 0 < w ∧ w ≤ 3 := by
    simp only [List.mem_cons, List.mem_nil_iff, or_false] at hd
    rcases hd with rfl | rfl | rfl <;> exact ⟨_, rfl, by omega, by omega⟩
  obtain ⟨j2, s3, d, e3, hd, w3, p3, k3⟩ := drawnW p2 (L := [.str "", .str " ", .str "   "]) (w := w) h0 (by simp; omega) (by simp)
  obtain ⟨z0, k, rfl, tz, hk⟩ : ∃ (z : Str) (k : Nat), d = .str z ∧ tl z = List.replicate k 32 ∧ k ≤ 3 := by
    simp only [List.mem_cons, List.mem_nil_iff, or_false] at hd
    rcases hd with rfl | rfl | rfl
    · exact ⟨_, 0, rfl, by decide +kernel, by omega⟩
    · exact ⟨_, 1, rfl, by decide +kernel, by omega⟩
    · exact ⟨_, 3, rfl, by decide +kernel, by omega⟩
  obtain ⟨oz, wz⟩ := op_sp tz
  have lz := len_sp tz
  have kk := (k0.trans k2).trans k3
  have gr3 := Kp.get kk gr hr.ne
  have gp3 := Kp.get (k2.trans k3) g0 n0
  have gl3 := gl.kp kk nl
  have hlen := gl.len
  have hn := hr.n
  obtain ⟨env', s4, e4, z, o5, o6, rfl, p4, k4, hW, hl, ht, _⟩ := forL_atT (gd := always) (g := gN 5) (b := bl_d_law_line_2) (rng rows.length) (OutI p lr s.length w rows s3) (fun _ _ _ _ => trivial)
    (env := [some (.loc p), some (.loc lr), some (.loc s.length), some (.int w), some (.str z0), none, none]) (s := s3) (fun i x env s2 hx ⟨z, o5, o6, he, p2, k2, hW, hz, ht, ho⟩ => by
      subst he
      obtain ⟨hi, rfl⟩ := rng_get hx
      obtain ⟨l, hl1, hl2, hl3⟩ := gl3.get hi
      have nll := nl l hl2
      have wk := hr.wk rows[i] (List.getElem_mem _)
      have tk := take_snoc (l := rows) hi
      have c1 := cst_take rows (i + 1)
      rw [tk, cst_snoc] at c1
      have hnil : rows.take i = [] ↔ i = 0 := by
        rw [List.take_eq_nil_iff]
        constructor
        · rintro (h | h)
          · exact h
          · rw [h] at hi; simp at hi
        · exact .inl
      generalize rows[i] = row at *
      have LRg : (ls.map D.loc)[i]? = some (.loc l) := by simp [hl1]
      by_cases c0 : i = 0
      · obtain ⟨z', o6', s4, e4, p4, k4, hW4, hz4, ht4⟩ := row_loop (pl := i) p2 (Kp.get k2 gr3 hr.ne) hr.ne (Kp.get k2 gp3 n0) n0 h0 h1 LRg (Kp.get k2 hl3 nll) nll wk (L0 := 4 + cst (rows.take i)) hz (by omega) ht (ho c0) o6
        have ix : dIx (.loc lr) (.int (i : Nat)) s2 = some (.loc l, s2) := by rw [dIx_loc (Kp.get k2 gr3 hr.ne), L2.atI_nat LRg]; rfl
        have ln := dLen_loc (Kp.get k2 hl3 nll)
        rw [List.length_map] at ln
        have er := rangeOf_int s2 (row.length : Int) (by omega) (by omega)
        rw [Int.toNat_natCast] at er
        have f : OutI p lr s.length w rows s3 (i + 1) [some (.loc p), some (.loc lr), some (.loc s.length), some (.int w), some (.str z'), some (.int (i : Nat)), o6'] s4 := ⟨z', _, _, rfl, p4, k2.trans k4, by rw [hW4, hW, tk, jw_snoc, if_pos (hnil.mpr c0), hnil.mpr c0]; rfl, by rw [tk, cst_snoc]; omega, ht4, by omega⟩
        subst c0
        have ix' : dIx (.loc lr) (.int 0) s2 = some (.loc l, s2) := ix
        have e4' : forL always (gN 6) bl_d_law_line_1 (rng row.length) [some (.loc p), some (.loc lr), some (.loc s.length), some (.int w), some (.str z), some (.int 0), o6] s2 = .nx [some (.loc p), some (.loc lr), some (.loc s.length), some (.int w), some (.str z'), some (.int 0), o6'] s4 := e4
        generalize row.length = rl at *
        simp [bl_d_law_line_2, ix', ln, er, e4']
        exact f
      · obtain ⟨ja, sa, a, ka, ea, ixa, ta, hka, pa, kpa⟩ := sp_draw p2 (Kp.get k2 gp3 n0) n0 h0 h1
        obtain ⟨jb, sb, b, kb, eb, ixb, tb, hkb, pb, kpb⟩ := sp_draw pa (Kp.get (k2.trans kpa) gp3 n0) n0 h0 h1
        have la := len_sp ta
        have lb := len_sp tb
        have lo : ("or" : Str).length = 2 := by decide +kernel
        have l1 := slen z a
        have l2 := slen (z ++ a) "or"
        have l3 := slen (z ++ a ++ "or") b
        have a1 := sadd (a := z) (b := a) (by omega) (by omega) sa
        have a2 := sadd (a := z ++ a) (b := "or") (by omega) (by omega) sa
        have a3 := sadd (a := z ++ a ++ "or") (b := b) (by omega) (by omega) sb
        obtain ⟨o1, o2⟩ := op_next z ta
        obtain ⟨o3, o4⟩ := op_next (z ++ a ++ "or") tb
        have oW : W (tl (z ++ a ++ "or" ++ b)) = (jw (rows.take i)).map tl ++ [tl ("or" : Str)] := by rw [o4, op_word o1 wk_or, o2, hW]
        have ot : TOk (z ++ a ++ "or" ++ b) := tok_app (tok_app (tok_app ht (tok_sp ta)) wk_or.tok) (tok_sp tb)
        have oz2 : (z ++ a ++ "or" ++ b).length ≤ 4 + cst (rows.take i) + 10 := by omega
        generalize z ++ a ++ "or" ++ b = z4 at *
        generalize z ++ a ++ "or" = z3 at *
        generalize z ++ a = z2 at *
        have kab := (k2.trans kpa).trans kpb
        obtain ⟨z', o6', s4, e4, p4, k4, hW4, hz4, ht4⟩ := row_loop (pl := i) pb (Kp.get kab gr3 hr.ne) hr.ne (Kp.get kab gp3 n0) n0 h0 h1 LRg (Kp.get kab hl3 nll) nll wk (L0 := 4 + cst (rows.take i) + 10) oz2 (by omega) ot o3 o6
        have ix : dIx (.loc lr) (.int (i : Nat)) sb = some (.loc l, sb) := by rw [dIx_loc (Kp.get kab gr3 hr.ne), L2.atI_nat LRg]; rfl
        have ln := dLen_loc (Kp.get kab hl3 nll)
        rw [List.length_map] at ln
        have er := rangeOf_int sb (row.length : Int) (by omega) (by omega)
        rw [Int.toNat_natCast] at er
        have f : OutI p lr s.length w rows s3 (i + 1) [some (.loc p), some (.loc lr), some (.loc s.length), some (.int w), some (.str z'), some (.int (i : Nat)), o6'] s4 := ⟨z', _, _, rfl, p4, kab.trans k4, by rw [hW4, oW, tk, jw_snoc, if_neg (fun e => c0 (hnil.mp e))]; simp, by rw [tk, cst_snoc]; omega, ht4, by omega⟩
        have ci : 0 < (i : Int) := by omega
        have ci' : 0 < i := by omega
        generalize row.length = rl at *
        simp [bl_d_law_line_2, ci, ci', ea, ixa, a1, a2, eb, ixb, a3, ix, ln, er, e4]
        exact f) ⟨z0, none, none, rfl, p3, Kp.refl p s3, by rw [wz]; simp [jw], by omega, tok_sp tz, fun _ => oz⟩
  rw [rng_len, List.take_of_length_le (Nat.le_refl _)] at hW hl
  obtain ⟨j5, s5, d, e5, hd, w5, p5, k5⟩ := drawnW p4 (L := [.str "", .str "  ", .str " "]) (w := w) h0 (by simp; omega) (by simp)
  obtain ⟨y, k, rfl, ty, hk⟩ : ∃ (z : Str) (k : Nat), d = .str z ∧ tl z = List.replicate k 32 ∧ k ≤ 3 := by
    simp only [List.mem_cons, List.mem_nil_iff, or_false] at hd
    rcases hd with rfl | rfl | rfl
    · exact ⟨_, 0, rfl, by decide +kernel, by omega⟩
    · exact ⟨_, 2, rfl, by decide +kernel, by omega⟩
    · exact ⟨_, 1, rfl, by decide +kernel, by omega⟩
  have ly := len_sp ty
  have a5 := sadd (a := z) (b := y) (by omega) (by omega) s5
  have l5 := slen z y
  refine ⟨z ++ y, s5, ?_, words_of_W (by rw [tl_app, ty, W_spaces, hW]), by omega, tok_app ht (tok_sp ty), p5, (kk.trans k4).trans k5⟩
  have ln := dLen_loc gr3
  rw [List.length_map, hlen] at ln
  have er := rangeOf_int s3 (rows.length : Int) (by omega) (by omega)
  rw [Int.toNat_natCast] at er
  generalize z ++ y = zz at *
  generalize rows.length = rn at *
  simp only [spL] at hs1
  simp [m_d_law_line, b_d_law_line, ← hs1, e2, w2, e3, w3, ln, er, e4, e5, w5, a5]
end Law
namespace Law
open PySem Mi
/-! ### the words of pairs -/
structure Pv (x : Int × Int) : Prop where
  a : Yr x.1
  b : Yr x.2
  le : x.1 ≤ x.2
theorem swords {p : Nat} {s : Store} (h : Pool p s) {x : Int × Int} (hx : Pv x) : ∃ (l : Nat) (r : List Str) (s' : Store), m_d_law_stretch_words [.loc p, pr x] s = .ok (.loc l) s' ∧ s'[l]? = some (.lst (r.map D.str)) ∧ l ≠ p ∧ Tells r x ∧ Pool p s' ∧ Kp p s s' := by
  obtain ⟨a, b⟩ := x
  have e1 := ywords (y := a) hx.a s
  have x1 := Ext.mk s [Cell.lst ([num (yn a), ys a].map D.str)]
  have g1 := get_new s (.lst ([num (yn a), ys a].map D.str))
  obtain ⟨s1, hs1⟩ : ∃ s1, s1 = s ++ [Cell.lst ([num (yn a), ys a].map D.str)] := ⟨_, rfl⟩
  rw [← hs1] at e1 x1 g1
  have nl : s.length ≠ p := Nat.ne_of_gt h.lt
  have two : ∀ s2, Pool p s2 → Kp p s1 s2 → ∃ (l : Nat) (s' : Store), (∃ (k1 k2 k3 : Nat) (s3 s4 s5 : Store), s2 ++ [Cell.lst [D.str "to"]] = s3 ∧ k1 = s2.length ∧ dAdd (.loc s.length) (.loc k1) s3 = some (.loc k2, s4) ∧ m_d_law_year_words [.int b] s4 = .ok (.loc k3) s5 ∧ dAdd (.loc k2) (.loc k3) s5 = some (.loc l, s')) ∧ s'[l]? = some (.lst ((sw2 a b).map D.str)) ∧ l ≠ p ∧ Pool p s' ∧ Kp p s s' := fun s2 p2 k2 => by
    have g2 := Kp.get k2 g1 nl
    have xa := Ext.mk s2 [Cell.lst [D.str "to"]]
    have ga := get_new s2 (.lst [D.str "to"])
    obtain ⟨s3, hs3⟩ : ∃ s3, s3 = s2 ++ [Cell.lst [D.str "to"]] := ⟨_, rfl⟩
    rw [← hs3] at xa ga
    have ea := dAdd_loc (xa.get g2) ga (by simp)
    have xb := Ext.mk s3 [Cell.lst ([num (yn a), ys a].map D.str ++ [D.str "to"])]
    have gb := get_new s3 (.lst ([num (yn a), ys a].map D.str ++ [D.str "to"]))
    obtain ⟨s4, hs4⟩ : ∃ s4, s4 = s3 ++ [Cell.lst ([num (yn a), ys a].map D.str ++ [D.str "to"])] := ⟨_, rfl⟩
    rw [← hs4] at ea xb gb
    have ec := ywords (y := b) hx.b s4
    have xc := Ext.mk s4 [Cell.lst ([num (yn b), ys b].map D.str)]
    have gc := get_new s4 (.lst ([num (yn b), ys b].map D.str))
    obtain ⟨s5, hs5⟩ : ∃ s5, s5 = s4 ++ [Cell.lst ([num (yn b), ys b].map D.str)] := ⟨_, rfl⟩
    rw [← hs5] at ec xc gc
    have ed := dAdd_loc (xc.get gb) gc (by simp)
    have xx := ((xa.trans xb).trans xc).trans (Ext.mk s5 [Cell.lst ([num (yn a), ys a].map D.str ++ [D.str "to"] ++ [num (yn b), ys b].map D.str)])
    have p5 := p2.ext ((xa.trans xb).trans xc)
    refine ⟨_, _, ⟨_, _, _, _, _, _, hs3.symm, rfl, ea, ec, ed⟩, get_new s5 _, Nat.ne_of_gt p5.lt, p2.ext xx, ((Kp.ext x1).trans k2).trans (Kp.ext xx)⟩
  by_cases c : a = b
  · obtain ⟨v, s2, e2, v0, v1, p2, k2⟩ := draw_spec (h.ext x1) (many := 3) (by omega) (by omega)
    by_cases cv : v = 0
    · obtain ⟨l, s', ⟨k1, k2', k3, s3, s4, s5, h1, h2, h3, h4, h5⟩, g, n, p', k'⟩ := two s2 p2 k2
      refine ⟨l, _, s', ?_, g, n, .inl rfl, p', k'⟩
      subst h2 cv c
      simp [m_d_law_stretch_words, b_d_law_stretch_words, pr, ix0, ix1, e1, e2, h1, h3, h4, h5]
    · refine ⟨s.length, _, s2, ?_, Kp.get k2 g1 nl, nl, .inr ⟨c, rfl⟩, p2, (Kp.ext x1).trans k2⟩
      subst c
      simp [m_d_law_stretch_words, b_d_law_stretch_words, pr, ix0, ix1, e1, e2, cv]
  · obtain ⟨l, s', ⟨k1, k2', k3, s3, s4, s5, h1, h2, h3, h4, h5⟩, g, n, p', k'⟩ := two s1 (h.ext x1) (Kp.refl p s1)
    refine ⟨l, _, s', ?_, g, n, .inl rfl, p', k'⟩
    subst h2
    simp [m_d_law_stretch_words, b_d_law_stretch_words, pr, ix0, ix1, c, e1, h1, h3, h4, h5]
theorem TellsL.snoc : ∀ {rs : List (List Str)} {xs : List (Int × Int)} {r : List Str} {x : Int × Int}, TellsL rs xs → Tells r x → Pv x → TellsL (rs ++ [r]) (xs ++ [x])
  | [], [], r, x, _, h, k => ⟨⟨h, k.a, k.b, k.le⟩, trivial⟩
  | _ :: rs, _ :: xs, r, x, ⟨h0, h1⟩, h, k => ⟨h0, h1.snoc h k⟩
  | [], _ :: _, _, _, h, _, _ => h.elim
  | _ :: _, [], _, _, h, _, _ => h.elim
theorem rows_lc {p : Nat} {s : Store} (h : Pool p s) {gd : Store → Prop} (hg : ∀ s', Kp p s s' → gd s') {g : D → Sl → Option Sl} {e : ME D} {env : Sl} {xs : List (Int × Int)} (hx : ∀ x ∈ xs, Pv x) (hl : xs.length ≤ 100000)
    (he : ∀ x s', pick g tT e (pr x) env s' = (m_d_law_stretch_words [.loc p, pr x] s').bind fun y s => .ok (some y) s) :
    ∃ (ls : List Nat) (rows : List (List Str)) (s' : Store), lcL gd g tT e env (xs.map pr) [] s = .ok (ls.map D.loc) s' ∧ AtL s' ls rows ∧ TellsL rows xs ∧ (∀ l ∈ ls, l ≠ p) ∧ Pool p s' ∧ Kp p s s' := by
  obtain ⟨acc, s', e1, ls, rows, rfl, hA, hT, hn, p', k'⟩ := lcL_at (gd := gd) (g := g) (t := tT) (e := e) (env := env) (xs.map pr)
    (fun k acc s' => ∃ (ls : List Nat) (rows : List (List Str)), acc = ls.map D.loc ∧ AtL s' ls rows ∧ TellsL rows (xs.take k) ∧ (∀ l ∈ ls, l ≠ p) ∧ Pool p s' ∧ Kp p s s') (fun _ _ s' ⟨_, _, _, _, _, _, _, k⟩ => hg s' k) (fun k d acc s1 hk ⟨ls, rows, ha, hA, hT, hn, p1, k1⟩ => by
      subst ha
      have hk' : k < xs.length := by
        have := (List.getElem?_eq_some_iff.mp hk).1
        simpa using this
      have hd : d = pr xs[k] := by
        rw [List.getElem?_map, List.getElem?_eq_getElem hk'] at hk
        exact (Option.some.inj hk).symm
      subst hd
      have hv := hx xs[k] (List.getElem_mem _)
      obtain ⟨l, r, s2, e2, g2, n2, t2, p2, k2⟩ := swords p1 hv
      have hlen := hT.len
      have hlen2 := hA.len
      rw [he, e2]
      rw [List.length_take] at hlen
      simp
      refine ⟨by omega, ls ++ [l], by simp, rows ++ [r], (hA.kp k2 hn).snoc g2, ?_, fun l' hl' => ?_, p2, k1.trans k2⟩
      · rw [take_snoc hk']
        exact hT.snoc t2 hv
      · rcases List.mem_append.mp hl' with hl' | hl'
        · exact hn l' hl'
        · rw [List.mem_singleton.mp hl']; exact n2) (acc := []) (s := s) ⟨[], [], rfl, trivial, by rw [List.take_zero]; trivial, by simp, h, Kp.refl p s⟩
  rw [List.length_map, List.take_of_length_le (Nat.le_refl _)] at hT
  exact ⟨ls, rows, s', e1, hA, hT, hn, p', k'⟩
/-! ### pairs shuffled -/
theorem pop_at {l : Nat} {s : Store} {xs : List (Int × Int)} (g : s[l]? = some (.lst (xs.map pr))) {i : Int} (h0 : 0 ≤ i) (h1 : i < xs.length) (h2 : xs.length ≤ 1000000) : ∃ (x : Int × Int) (r : List (Int × Int)), dPopX (.loc l) [.int i] s = some (pr x, s.set l (.lst (r.map pr))) ∧ xs.Perm (x :: r) ∧ r.length + 1 = xs.length := by
  obtain ⟨k, rfl⟩ := Int.eq_ofNat_of_zero_le h0
  have hk : k < xs.length := by omega
  have sq : seqIndex? (k : Int) (xs.map pr).length = some k := by
    unfold seqIndex?
    rw [List.length_map]
    have : ¬ (k : Int) < 0 := by omega
    simp [this, hk]
  have hb : -(2 ^ 63) ≤ (k : Int) ∧ (k : Int) < 2 ^ 63 := by omega
  have cutx : xs = xs.take k ++ xs[k] :: xs.drop (k + 1) := by rw [← List.drop_eq_getElem_cons hk, List.take_append_drop]
  refine ⟨xs[k], xs.take k ++ xs.drop (k + 1), ?_, ?_, by simp; omega⟩
  · simp only [dPopX, g, if_pos hb, sq, Option.bind_some]
    rw [List.getElem?_map, List.getElem?_eq_getElem hk, List.eraseIdx_eq_take_drop_succ, List.map_append, List.map_take, List.map_drop]
    rfl
  · generalize xs[k] = y at *
    generalize xs.take k = A at *
    generalize xs.drop (k + 1) = B at *
    rw [cutx]
    exact List.perm_middle
def ShI (p : Nat) (v0 v1 : D) (n : Nat) (L : List (Int × Int)) (s : Store) (i : Nat) (env : Sl) (s' : Store) : Prop := ∃ (A B : List (Int × Int)) (o4 : Option D), env = [some v0, some v1, some (.loc s.length), some (.loc (s.length + 1)), o4] ∧ s'[s.length]? = some (.lst (A.map pr)) ∧ s'[s.length + 1]? = some (.lst (B.map pr)) ∧ (A ++ B).Perm L ∧ A.length + i = n ∧ B.length = i ∧ Pool p s' ∧ Kp p s s'
theorem shuf_spec {p l : Nat} {s : Store} (h : Pool p s) {xs : List (Int × Int)} (g : s[l]? = some (.lst (xs.map pr))) (hl : xs.length ≤ 100000) : ∃ (k : Nat) (ys : List (Int × Int)) (s' : Store), m_d_law_shuffled [.loc p, .loc l] s = .ok (.loc k) s' ∧ s'[k]? = some (.lst (ys.map pr)) ∧ ys.Perm xs ∧ Pool p s' ∧ Kp p s s' ∧ k ≠ p := by
  have n0 : s.length ≠ p := Nat.ne_of_gt h.lt
  have n1 : s.length + 1 ≠ p := by have := h.lt; omega
  have er := rangeOf_int (s ++ [.lst (xs.map pr), .lst []]) (xs.length : Int) (by omega) (by omega)
  rw [Int.toNat_natCast] at er
  obtain ⟨env', s1, e, A, B, o4, rfl, gA, gB, hP, hA, hB, p1, k1⟩ := forL_atT (gd := always) (g := gN 4) (b := bl_d_law_shuffled_1) (rng xs.length) (ShI p (.loc p) (.loc l) xs.length xs s) (fun _ _ _ _ => trivial)
    (env := [some (.loc p), some (.loc l), some (.loc s.length), some (.loc (s.length + 1)), none]) (s := s ++ [.lst (xs.map pr), .lst []]) (fun i x env s2 hx ⟨A, B, o4, he, gA, gB, hP, hA, hB, p2, k2⟩ => by
      subst he
      obtain ⟨hi, rfl⟩ := rng_get hx
      have ln := dLen_loc gA
      rw [List.length_map] at ln
      obtain ⟨v, s3, e3, v0, v1, p3, k3⟩ := often_spec p2 (many := (A.length : Nat)) (by omega) (by omega)
      have gA3 := Kp.get k3 gA n0
      have gB3 := Kp.get k3 gB n1
      obtain ⟨y, r, e4, hp, hr⟩ := pop_at gA3 v0 v1 (by omega)
      have t2 := tyOk_list gA3
      have t2' := tyOk_list gA
      have gB4 : (s3.set s.length (.lst (r.map pr)))[s.length + 1]? = some (.lst (B.map pr)) := by rw [List.getElem?_set_ne (by omega)]; exact gB3
      have ap := dAppend_loc gB4 (by simp; omega) (pr y)
      have t3 := tyOk_list gB4
      have t4 := tyOk_list gB
      have f : ShI p (.loc p) (.loc l) xs.length xs s (i + 1) [some (.loc p), some (.loc l), some (.loc s.length), some (.loc (s.length + 1)), some (.int (i : Nat))] ((s3.set s.length (.lst (r.map pr))).set (s.length + 1) (.lst (B.map pr ++ [pr y]))) :=
        ⟨r, B ++ [y], _, rfl, by rw [List.getElem?_set_ne (by omega)]; exact get_set gA3, by rw [get_set gB4]; simp, by
          refine List.Perm.trans ?_ hP
          have q : (r ++ (B ++ [y])).Perm ((y :: r) ++ B) := by
            rw [← List.append_assoc]
            exact List.perm_append_comm (l₁ := r ++ B) (l₂ := [y])
          exact q.trans (hp.symm.append_right B), by omega, by simp [hB], (p3.set n0 _).set n1 _, Kp.setNew (Kp.setNew (k2.trans k3) (by omega) _) (by omega) _⟩
      generalize pr y = dy at *
      generalize A.map pr = AA at *
      generalize B.map pr = BB at *
      generalize r.map pr = RR at *
      generalize A.length = al at *
      simp [bl_d_law_shuffled_1, ln, e3, t2, t2', e4, t3, t4, ap]
      exact f) ⟨xs, [], none, rfl, by simp, by simp, by simp, by omega, rfl, h.app _, Kp.app _ _ _⟩
  rw [rng_len] at hA hB
  have hA0 : A = [] := List.eq_nil_of_length_eq_zero (by omega)
  subst hA0
  refine ⟨_, B, s1, ?_, gB, by simpa using hP, p1, k1, n1⟩
  have ln := dLen_loc ((Ext.mk s [.lst (xs.map pr), .lst []]).get g)
  rw [List.length_map] at ln
  have dl : dList [.loc l] s = some (.loc s.length, s ++ [.lst (xs.map pr)]) := by simp [dList, seqOf, lstOf, g]
  generalize xs.map pr = XX at *
  generalize xs.length = xl at *
  simp [m_d_law_shuffled, b_d_law_shuffled, dl, ln, er, e]
end Law
namespace Law
open PySem Mi
/-! ### more pairs of the same dates -/
def MoreI (p : Nat) (fs : List (Int × Int)) (s : Store) (i : Nat) (env : Sl) (s' : Store) : Prop := ∃ (ex : List (Int × Int)) (o3 o4 o5 : Option D), env = [some (.loc p), some (.tup (fs.map pr)), some (.loc s.length), o3, o4, o5] ∧ s'[s.length]? = some (.lst ((fs ++ ex).map pr)) ∧ ex.length = i ∧ (∀ x ∈ ex, ∃ f ∈ fs, f.1 ≤ x.1 ∧ x.1 ≤ x.2 ∧ x.2 ≤ f.2) ∧ Pool p s' ∧ Kp p s s'
theorem DOk.pv {fs : List (Int × Int)} (h : DOk fs) : ∀ x ∈ fs, Pv x := fun x hx => ⟨(h.yr x hx).1, (h.yr x hx).2, (h.bd x hx).2.1⟩
theorem more_spec {p : Nat} {s : Store} (h : Pool p s) {fs : List (Int × Int)} (hd : DOk fs) (hne : fs ≠ []) : ∃ (k : Nat) (ys : List (Int × Int)) (s' : Store), m_d_law_more_pairs [.loc p, .tup (fs.map pr)] s = .ok (.loc k) s' ∧ s'[k]? = some (.lst (ys.map pr)) ∧ (∀ x ∈ ys, Pv x) ∧ (∀ y, mem y ys ↔ mem y fs) ∧ ys ≠ [] ∧ ys.length ≤ 16 ∧ Pool p s' ∧ Kp p s s' ∧ k ≠ p := by
  have n0 : s.length ≠ p := Nat.ne_of_gt h.lt
  have hlen := hd.len
  have hpos : 0 < fs.length := by cases fs with | nil => exact absurd rfl hne | cons a b => simp
  obtain ⟨m, s1, e1, m0, m1, p1, k1⟩ := draw_spec (h.app [.lst (fs.map pr)]) (many := 4) (by omega) (by omega)
  obtain ⟨mn, rfl⟩ := Int.eq_ofNat_of_zero_le m0
  have er := rangeOf_int s1 (mn : Int) (by omega) (by omega)
  rw [Int.toNat_natCast] at er
  have g1 := Kp.get k1 (get_new s (.lst (fs.map pr))) n0
  obtain ⟨env', s2, e, ex, o3, o4, o5, rfl, g2, hex, hin, p2, k2⟩ := forL_atT (gd := always) (g := gN 3) (b := bl_d_law_more_pairs_1) (rng mn) (MoreI p fs s) (fun _ _ _ _ => trivial)
    (env := [some (.loc p), some (.tup (fs.map pr)), some (.loc s.length), none, none, none]) (s := s1) (fun i x env s2 hx ⟨ex, o3, o4, o5, he, g2, hex, hin, p2, k2⟩ => by
      subst he
      obtain ⟨hi, rfl⟩ := rng_get hx
      obtain ⟨j, s3, e3, j0, j1, p3, k3⟩ := draw_spec p2 (many := (fs.length : Nat)) (by omega) (by omega)
      obtain ⟨f, hf, _, wf⟩ := ix_map (f := pr) (xs := fs) j0 j1
      have bf := hd.bd f hf
      obtain ⟨a, b⟩ := f
      dsimp only at bf
      have wf' : ∀ s, dIx (.tup (fs.map pr)) (.int j) s = some (.tup [.int a, .int b], s) := wf
      obtain ⟨u, s4, e4, u0, u1, p4, k4⟩ := often_spec p3 (many := 1 + b - a) (by omega) (by omega)
      obtain ⟨v, s5, e5, v0, v1, p5, k5⟩ := often_spec p4 (many := 1 + b - (a + u)) (by omega) (by omega)
      have g5 := Kp.get ((k3.trans k4).trans k5) g2 n0
      have g4 := Kp.get (k3.trans k4) g2 n0
      have ap := dAppend_loc g5 (by simp; omega) (.tup [.int (a + u), .int (a + u + v)])
      have t5 := tyOk_list g5
      have t4 := tyOk_list g4
      have ln : ∀ s, dLen [.tup (fs.map pr)] s = some (.int fs.length, s) := fun s => by simp
      have f : MoreI p fs s (i + 1) [some (.loc p), some (.tup (fs.map pr)), some (.loc s.length), some (.int (i : Nat)), some (.tup [.int a, .int b]), some (.int (a + u))] (s5.set s.length (.lst ((fs ++ ex).map pr ++ [.tup [.int (a + u), .int (a + u + v)]]))) :=
        ⟨ex ++ [(a + u, a + u + v)], _, _, _, rfl, by rw [get_set g5, ← List.append_assoc, List.map_append (l₁ := fs ++ ex)]; rfl, by simp [hex], fun x hx => by
          rcases List.mem_append.mp hx with hx | hx
          · exact hin x hx
          · rw [List.mem_singleton.mp hx]
            exact ⟨(a, b), hf, by show a ≤ a + u; omega, by show a + u ≤ a + u + v; omega, by show a + u + v ≤ b; omega⟩, p5.set n0 _, Kp.setNew (((k2.trans k3).trans k4).trans k5) (Nat.le_refl _) _⟩
      generalize (fs ++ ex).map pr = EX at *
      generalize fs.map pr = FS at *
      generalize fs.length = fl at *
      simp [bl_d_law_more_pairs_1, ln, e3, wf', ix0, ix1, e4, e5, t4, t5, ap]
      exact f) ⟨[], none, none, none, rfl, by rw [List.append_nil]; exact g1, rfl, by simp, p1, (Kp.app p s _).trans k1⟩
  rw [rng_len] at hex
  obtain ⟨k, ys, s3, e3, g3, hp, p3, k3, n3⟩ := shuf_spec p2 g2 (by simp; omega)
  have hpv := hd.pv
  refine ⟨k, ys, s3, ?_, g3, fun x hx => ?_, fun y => ?_, fun e => ?_, ?_, p3, k2.trans k3, n3⟩
  · have dl : dList [.tup (fs.map pr)] s = some (.loc s.length, s ++ [.lst (fs.map pr)]) := by simp [dList, seqOf]
    generalize fs.map pr = FS at *
    simp [m_d_law_more_pairs, b_d_law_more_pairs, dl, e1, er, e, e3]
  · rcases List.mem_append.mp (hp.mem_iff.mp hx) with hx | hx
    · exact hpv x hx
    · obtain ⟨f, hf, h1, h2, h3⟩ := hin x hx
      have q := hpv f hf
      have := q.a.lo
      have := q.b.hi
      exact ⟨⟨by omega, by omega⟩, ⟨by omega, by omega⟩, h2⟩
  · constructor
    · rintro ⟨x, hx, q⟩
      rcases List.mem_append.mp (hp.mem_iff.mp hx) with hx | hx
      · exact ⟨x, hx, q⟩
      · obtain ⟨f, hf, h1, h2, h3⟩ := hin x hx
        exact ⟨f, hf, by omega, by omega⟩
    · rintro ⟨x, hx, q⟩
      exact ⟨x, hp.mem_iff.mpr (List.mem_append.mpr (.inl hx)), q⟩
  · subst e
    have := hp.length_eq
    simp at this
    omega
  · rw [hp.length_eq]; simp; omega
/-! ### drawn pairs -/
def FreeI (p : Nat) (many : Nat) (w base : Int) (s : Store) (i : Nat) (env : Sl) (s' : Store) : Prop := ∃ (ys : List (Int × Int)) (o5 o6 : Option D), env = [some (.loc p), some (.int (many : Nat)), some (.int w), some (.int base), some (.loc s.length), o5, o6] ∧ s'[s.length]? = some (.lst (ys.map pr)) ∧ ys.length = i ∧ (∀ x ∈ ys, Pv x) ∧ Pool p s' ∧ Kp p s s'
theorem free_tail {p : Nat} {s : Store} (h : Pool p s) {many : Nat} (hm : 1 ≤ many ∧ many ≤ 189) {w base : Int} (hw : 4 ≤ w ∧ w ≤ 900) (hb : -9999 ≤ base ∧ base ≤ 9998 - 3 * w) : ∃ (ys : List (Int × Int)) (o5 o6 : Option D) (s' : Store), forL always (gN 5) bl_d_law_free_pairs_1 (rng many) [some (.loc p), some (.int (many : Nat)), some (.int w), some (.int base), some (.loc s.length), none, none] (s ++ [.lst []]) = .nx [some (.loc p), some (.int (many : Nat)), some (.int w), some (.int base), some (.loc s.length), o5, o6] s' ∧ s'[s.length]? = some (.lst (ys.map pr)) ∧ ys.length = many ∧ (∀ x ∈ ys, Pv x) ∧ Pool p s' ∧ Kp p s s' := by
  have n0 : s.length ≠ p := Nat.ne_of_gt h.lt
  obtain ⟨env', s2, e, ys, o5, o6, rfl, g2, hl, hpv, p2, k2⟩ := forL_atT (gd := always) (g := gN 5) (b := bl_d_law_free_pairs_1) (rng many) (FreeI p many w base s) (fun _ _ _ _ => trivial)
    (env := [some (.loc p), some (.int (many : Nat)), some (.int w), some (.int base), some (.loc s.length), none, none]) (s := s ++ [.lst []]) (fun i x env s2 hx ⟨ys, o5, o6, he, g2, hl, hpv, p2, k2⟩ => by
      subst he
      obtain ⟨hi, rfl⟩ := rng_get hx
      obtain ⟨u, s3, e3, u0, u1, p3, k3⟩ := draw_spec p2 (many := 2 * w) (by omega) (by omega)
      obtain ⟨q, hq⟩ : ∃ q, q = min w (900 / (many : Int) + 1) := ⟨_, rfl⟩
      have q0 : 0 ≤ 900 / (many : Int) := Int.ediv_nonneg (by omega) (by omega)
      obtain ⟨j, s4, d, e4, hd, w4, p4, k4⟩ := drawn p3 (L := [.int 1, .int 3, .int q]) (n := 3) rfl (by omega) (by omega)
      obtain ⟨z, rfl, hz⟩ : ∃ z : Int, d = .int z ∧ 1 ≤ z ∧ z ≤ w := by
        simp only [List.mem_cons, List.mem_nil_iff, or_false] at hd
        rcases hd with rfl | rfl | rfl <;> exact ⟨_, rfl, by omega, by omega⟩
      obtain ⟨v, s5, e5, v0, v1, p5, k5⟩ := often_spec p4 (many := z) (by omega) (by omega)
      have g3 := Kp.get k3 g2 n0
      have g5 := Kp.get (k4.trans k5) g3 n0
      have ap := dAppend_loc g5 (by simp; omega) (.tup [.int (base + u), .int (base + u + v)])
      have t5 := tyOk_list g5
      have t3 := tyOk_list g3
      have dv := dDiv_int 900 (many : Int) s3 ⟨by omega, by omega⟩
      have mw : ∀ s, dMul (.int 2) (.int w) s = some (.int (2 * w), s) := fun s => dMul_r _ _ s ⟨by omega, by omega⟩
      have f : FreeI p many w base s (i + 1) [some (.loc p), some (.int (many : Nat)), some (.int w), some (.int base), some (.loc s.length), some (.int (i : Nat)), some (.int (base + u))] (s5.set s.length (.lst (ys.map pr ++ [.tup [.int (base + u), .int (base + u + v)]]))) :=
        ⟨ys ++ [(base + u, base + u + v)], _, _, rfl, by rw [get_set g5, List.map_append]; rfl, by simp [hl], fun x hx => by
          rcases List.mem_append.mp hx with hx | hx
          · exact hpv x hx
          · rw [List.mem_singleton.mp hx]
            exact ⟨⟨by show -9999 ≤ base + u; omega, by show base + u ≤ 9999; omega⟩, ⟨by show -9999 ≤ base + u + v; omega, by show base + u + v ≤ 9999; omega⟩, by show base + u ≤ base + u + v; omega⟩, p5.set n0 _, Kp.setNew (((k2.trans k3).trans k4).trans k5) (Nat.le_refl _) _⟩
      generalize ys.map pr = YS at *
      simp at e4
      simp [bl_d_law_free_pairs_1, mw, e3, t3, dv, ← hq, e4, w4, e5, t5, ap]
      exact f) ⟨[], none, none, rfl, get_new _ _, rfl, by simp, h.app _, Kp.app _ _ _⟩
  rw [rng_len] at hl
  exact ⟨ys, o5, o6, s2, e, g2, hl, hpv, p2, k2⟩
theorem free_spec {p : Nat} {s : Store} (h : Pool p s) : ∃ (k : Nat) (ys : List (Int × Int)) (s' : Store), m_d_law_free_pairs [.loc p] s = .ok (.loc k) s' ∧ s'[k]? = some (.lst (ys.map pr)) ∧ (∀ x ∈ ys, Pv x) ∧ ys.length ≤ 190 ∧ 1 ≤ ys.length ∧ Pool p s' ∧ Kp p s s' ∧ k ≠ p := by
  obtain ⟨m, s1, e1, m0, m1, p1, k1⟩ := often_spec h (many := 12) (by omega) (by omega)
  obtain ⟨j, s2, d, e2, hd, w2, p2, k2⟩ := drawn p1 (L := [.int 4, .int 30, .int 900]) (n := 3) rfl (by omega) (by omega)
  obtain ⟨w, rfl, hw⟩ : ∃ w : Int, d = .int w ∧ 4 ≤ w ∧ w ≤ 900 := by
    simp only [List.mem_cons, List.mem_nil_iff, or_false] at hd
    rcases hd with rfl | rfl | rfl <;> exact ⟨_, rfl, by omega, by omega⟩
  simp at e2
  obtain ⟨t, s3, e3, t0, t1, p3, k3⟩ := draw_spec p2 (many := 13) (by omega) (by omega)
  have tail : ∀ (s3 : Store) (many : Nat) (w : Int), Pool p s3 → Kp p s s3 → 1 ≤ many ∧ many ≤ 189 → 4 ≤ w ∧ w ≤ 900 → ∃ (k : Nat) (ys : List (Int × Int)) (s' : Store), (sSeq (sSet 3 (Mi.e2 dAdd (Mi.e1 dNeg (eC (.int 9999))) (eCall m_d_law_often_end (aCons (eV 0) (aCons (Mi.e2 dSub (eC (.int 19998)) (Mi.e2 dMul (eC (.int 3)) (eV 2))) (aNil))))))
  (sSeq (sIf (tV (Mi.e2 dEq (eCall m_d_law_draw (aCons (eV 0) (aCons (eC (.int 3)) (aNil)))) (eC (.int 0)))) (sSet 3 (Mi.e1 dNeg (eCall m_d_law_draw (aCons (eV 0) (aCons (Mi.e2 dMul (eC (.int 2)) (eV 2)) (aNil)))))) (sNil))
  (sSeq (sSet 4 (eLst (aNil)))
  (sSeq (sFor (iRange1 (aCons (eV 1) (aNil))) (gN 5) (bl_d_law_free_pairs_1))
  (sRet (eV 4)))))) [some (.loc p), some (.int (many : Nat)), some (.int w), none, none, none, none] s3 = .rt (.loc k) s' ∧ s'[k]? = some (.lst (ys.map pr)) ∧ (∀ x ∈ ys, Pv x) ∧ ys.length ≤ 190 ∧ 1 ≤ ys.length ∧ Pool p s' ∧ Kp p s s' ∧ k ≠ p := fun s3 many w p3 k3 hm hw => by
    have mw : ∀ s, dMul (.int 2) (.int w) s = some (.int (2 * w), s) := fun s => dMul_r _ _ s ⟨by omega, by omega⟩
    have mw3 : ∀ s, dMul (.int 3) (.int w) s = some (.int (3 * w), s) := fun s => dMul_r _ _ s ⟨by omega, by omega⟩
    obtain ⟨u, s4, q4, u0, u1, p4, k4⟩ := often_spec p3 (many := 19998 - 3 * w) (by omega) (by omega)
    obtain ⟨v, s5, q5, v0, v1, p5, k5⟩ := draw_spec p4 (many := 3) (by omega) (by omega)
    have er : ∀ s, rangeOf [.int (many : Int)] s = .ok (Itm.mk (rng many) always) s := fun s => by
      have := rangeOf_int s (many : Int) (by omega) (by omega)
      rw [Int.toNat_natCast] at this
      exact this
    by_cases cv : v = 0
    · obtain ⟨y, s6, q6, y0, y1, p6, k6⟩ := draw_spec p5 (many := 2 * w) (by omega) (by omega)
      obtain ⟨ys, o5, o6, s7, q7, g7, hl, hpv, p7, k7⟩ := free_tail p6 hm hw (base := -y) (by omega)
      refine ⟨s6.length, ys, s7, ?_, g7, hpv, by omega, by omega, p7, (((k3.trans k4).trans k5).trans k6).trans k7, Nat.ne_of_gt p6.lt⟩
      simp [mw, mw3, q4, q5, cv, q6, er, q7]
    · obtain ⟨ys, o5, o6, s7, q7, g7, hl, hpv, p7, k7⟩ := free_tail p5 hm hw (base := -9999 + u) (by omega)
      refine ⟨s5.length, ys, s7, ?_, g7, hpv, by omega, by omega, p7, ((k3.trans k4).trans k5).trans k7, Nat.ne_of_gt p5.lt⟩
      simp [mw, mw3, q4, q5, cv, er, q7]
  obtain ⟨T, hT⟩ : ∃ T, T = (sSeq (sSet 3 (Mi.e2 dAdd (Mi.e1 dNeg (eC (.int 9999))) (eCall m_d_law_often_end (aCons (eV 0) (aCons (Mi.e2 dSub (eC (.int 19998)) (Mi.e2 dMul (eC (.int 3)) (eV 2))) (aNil))))))
  (sSeq (sIf (tV (Mi.e2 dEq (eCall m_d_law_draw (aCons (eV 0) (aCons (eC (.int 3)) (aNil)))) (eC (.int 0)))) (sSet 3 (Mi.e1 dNeg (eCall m_d_law_draw (aCons (eV 0) (aCons (Mi.e2 dMul (eC (.int 2)) (eV 2)) (aNil)))))) (sNil))
  (sSeq (sSet 4 (eLst (aNil)))
  (sSeq (sFor (iRange1 (aCons (eV 1) (aNil))) (gN 5) (bl_d_law_free_pairs_1))
  (sRet (eV 4)))))) := ⟨_, rfl⟩
  rw [← hT] at tail
  simp only [m_d_law_free_pairs, b_d_law_free_pairs]
  rw [fnM_eq, ← hT]
  clear hT
  by_cases ct : t = 0
  · obtain ⟨r, s4, e4, r0, r1, p4, k4⟩ := draw_spec p3 (many := 160) (by omega) (by omega)
    obtain ⟨rn, rfl⟩ := Int.eq_ofNat_of_zero_le r0
    obtain ⟨k, ys, s', q, g, hpv, l1, l2, p', k', n'⟩ := tail s4 (30 + rn) 500 p4 (((k1.trans k2).trans k3).trans k4) (by omega) (by omega)
    refine ⟨k, ys, s', ?_, g, hpv, l1, l2, p', k', n'⟩
    have c1 : ((30 + rn : Nat) : Int) = 30 + (rn : Int) := by omega
    rw [c1] at q
    simp [e1, e2, w2, e3, ct, e4, q]
  · obtain ⟨mn, rfl⟩ := Int.eq_ofNat_of_zero_le m0
    obtain ⟨k, ys, s', q, g, hpv, l1, l2, p', k', n'⟩ := tail s3 (1 + mn) w p3 ((k1.trans k2).trans k3) (by omega) hw
    refine ⟨k, ys, s', ?_, g, hpv, l1, l2, p', k', n'⟩
    have c1 : ((1 + mn : Nat) : Int) = 1 + (mn : Int) := by omega
    rw [c1] at q
    simp [e1, e2, w2, e3, ct, q]
end Law
namespace Law
open PySem Mi
/-! ### rows made of rows -/
def Rw (p b : Nat) (s : Store) (d : D) (n : Nat) : Prop := ∃ (l : Nat) (ws : List Str), d = .loc l ∧ s[l]? = some (.lst (ws.map D.str)) ∧ l ≠ p ∧ (∀ w ∈ ws, WK w) ∧ ws.length ≤ n ∧ b ≤ l
theorem Rw.kp {p b n : Nat} {s s' : Store} {d : D} (h : Rw p b s d n) (k : Kp p s s') : Rw p b s' d n :=
  let ⟨l, ws, h1, h2, h3, h4, h5, h6⟩ := h
  ⟨l, ws, h1, Kp.get k h2 h3, h3, h4, h5, h6⟩
theorem Rw.mono {p b b' n m : Nat} {s : Store} {d : D} (h : Rw p b s d n) (k : n ≤ m ∧ b' ≤ b) : Rw p b' s d m :=
  let ⟨l, ws, h1, h2, h3, h4, h5, h6⟩ := h
  ⟨l, ws, h1, h2, h3, h4, by omega, by omega⟩
section
variable {p b0 : Nat} {env : Sl} {s : Store}
/-- at every later store: a word -/
def AW (p : Nat) (a : ME D) (env : Sl) (s : Store) : Prop := ∀ s1, Pool p s1 → Kp p s s1 → ∃ w s', a env s1 = .ok (.str w) s' ∧ WK w ∧ Pool p s' ∧ Kp p s1 s'
def AWs (p : Nat) (a : ME (List D)) (env : Sl) (s : Store) (n : Nat) : Prop := ∀ s1, Pool p s1 → Kp p s s1 → ∃ (ws : List Str) (s' : Store), a env s1 = .ok (ws.map D.str) s' ∧ (∀ w ∈ ws, WK w) ∧ ws.length = n ∧ Pool p s' ∧ Kp p s1 s'
def AR (p b0 : Nat) (a : ME D) (env : Sl) (s : Store) (n : Nat) : Prop := ∀ s1, Pool p s1 → Kp p s s1 → ∃ d s', a env s1 = .ok d s' ∧ Rw p b0 s' d n ∧ Pool p s' ∧ Kp p s1 s'
def ARs (p b0 : Nat) (a : ME (List D)) (env : Sl) (s : Store) (n c : Nat) : Prop := ∀ s1, Pool p s1 → Kp p s s1 → ∃ (ds : List D) (s' : Store), a env s1 = .ok ds s' ∧ (∀ d ∈ ds, Rw p b0 s' d n) ∧ ds.length = c ∧ Pool p s' ∧ Kp p s1 s'
theorem AW.c {w : Str} (h : WK w) : AW p (eC (.str w)) env s := fun s1 p1 _ => ⟨w, s1, rfl, h, p1, Kp.refl p s1⟩
theorem AWs.nil : AWs p aNil env s 0 := fun s1 p1 _ => ⟨[], s1, rfl, by simp, rfl, p1, Kp.refl p s1⟩
theorem AWs.cons {a : ME D} {as : ME (List D)} {n : Nat} (h : AW p a env s) (k : AWs p as env s n) : AWs p (aCons a as) env s (n + 1) := fun s1 p1 k1 => by
  obtain ⟨w, s2, e2, hw, p2, k2⟩ := h s1 p1 k1
  obtain ⟨ws, s3, e3, hws, hl, p3, k3⟩ := k s2 p2 (k1.trans k2)
  refine ⟨w :: ws, s3, ?_, fun x hx => ?_, by simp [hl], p3, k2.trans k3⟩
  · show ((a env s1).bind fun x s => (as env s).bind fun xs s => Mi.R.ok (x :: xs) s) = _
    rw [e2]
    show ((as env s2).bind fun xs s => Mi.R.ok (D.str w :: xs) s) = _
    rw [e3]
    rfl
  · rcases List.mem_cons.mp hx with rfl | hx
    · exact hw
    · exact hws x hx
theorem ARs.nil {n : Nat} : ARs p b0 aNil env s n 0 := fun s1 p1 _ => ⟨[], s1, rfl, by simp, rfl, p1, Kp.refl p s1⟩
theorem ARs.cons {a : ME D} {as : ME (List D)} {n c : Nat} (h : AR p b0 a env s n) (k : ARs p b0 as env s n c) : ARs p b0 (aCons a as) env s n (c + 1) := fun s1 p1 k1 => by
  obtain ⟨d, s2, e2, hd, p2, k2⟩ := h s1 p1 k1
  obtain ⟨ds, s3, e3, hds, hl, p3, k3⟩ := k s2 p2 (k1.trans k2)
  refine ⟨d :: ds, s3, ?_, fun x hx => ?_, by simp [hl], p3, k2.trans k3⟩
  · show ((a env s1).bind fun x s => (as env s).bind fun xs s => Mi.R.ok (x :: xs) s) = _
    rw [e2]
    show ((as env s2).bind fun xs s => Mi.R.ok (d :: xs) s) = _
    rw [e3]
    rfl
  · rcases List.mem_cons.mp hx with rfl | hx
    · exact hd.kp k3
    · exact hds x hx
theorem AR.mono {a : ME D} {b' n m : Nat} (h : AR p b0 a env s n) (k : n ≤ m ∧ b' ≤ b0) : AR p b' a env s m := fun s1 p1 k1 => by
  obtain ⟨d, s2, e2, hd, p2, k2⟩ := h s1 p1 k1
  exact ⟨d, s2, e2, hd.mono k, p2, k2⟩
theorem AR.lst {as : ME (List D)} {n : Nat} (h : AWs p as env s n) (hn : n ≤ 1000) : AR p s.length (eLst as) env s n := fun s1 p1 k1 => by
  obtain ⟨ws, s2, e2, hw, hl, p2, k2⟩ := h s1 p1 k1
  refine ⟨.loc s2.length, s2 ++ [.lst (ws.map D.str)], ?_, ⟨_, ws, rfl, get_new _ _, Nat.ne_of_gt p2.lt, hw, by omega, by have := k1.1; have := k2.1; omega⟩, p2.app _, k2.trans (Kp.app p s2 _)⟩
  show ((as env s1).bind fun xs s => if xs.length ≤ sizeLine then Mi.R.ok (D.loc s.length) (s ++ [.lst xs]) else .no) = _
  rw [e2]
  show (if (ws.map D.str).length ≤ sizeLine then Mi.R.ok (D.loc s2.length) (s2 ++ [.lst (ws.map D.str)]) else .no) = _
  rw [if_pos (by rw [List.length_map]; unfold sizeLine; omega)]
theorem AR.v {i : Nat} {d : D} {n : Nat} (he : env[i]? = some (some d)) (h : Rw p b0 s d n) : AR p b0 (eV i) env s n := fun s1 p1 k1 => ⟨d, s1, by unfold eV; rw [he], h.kp k1, p1, Kp.refl p s1⟩
theorem AR.add {a b : ME D} {b1 n m : Nat} (h : AR p b0 a env s n) (k : AR p b1 b env s m) (hn : n + m ≤ 1000) : AR p s.length (e2 dAdd a b) env s (n + m) := fun s1 p1 k1 => by
  obtain ⟨d, s2, q2, ⟨l, ws, rfl, g, nl, hw, hl, _⟩, p2, k2⟩ := h s1 p1 k1
  obtain ⟨d, s3, q3, ⟨l2, ws2, rfl, g2, nl2, hw2, hl2, _⟩, p3, k3⟩ := k s2 p2 (k1.trans k2)
  have ad := dAdd_loc (Kp.get k3 g nl) g2 (by simp; omega)
  refine ⟨_, _, ?_, ⟨s3.length, ws ++ ws2, rfl, by rw [List.map_append]; exact get_new _ _, Nat.ne_of_gt p3.lt, fun x hx => ?_, by simp; omega, by have := k1.1; have := k2.1; have := k3.1; omega⟩, p3.app _, (k2.trans k3).trans (Kp.app p s3 _)⟩
  · show ((a env s1).bind fun x s => (b env s).bind fun y s => R.of (dAdd x y s)) = _
    rw [q2]
    show ((b env s2).bind fun y s => R.of (dAdd (.loc l) y s)) = _
    rw [q3]
    show R.of (dAdd (.loc l) (.loc l2) s3) = _
    rw [ad]
    rfl
  · rcases List.mem_append.mp hx with hx | hx
    · exact hw x hx
    · exact hw2 x hx
theorem AR.sl {a : ME D} {lo hi : ME (Option Int)} {lo' hi' : Option Int} {n : Nat} (h : AR p b0 a env s n) (h1 : ∀ s, lo env s = .ok lo' s) (h2 : ∀ s, hi env s = .ok hi' s) (hn : n ≤ 1000) : AR p s.length (eSl dSlZ a lo hi) env s n := fun s1 p1 k1 => by
  obtain ⟨d, s2, q2, ⟨l, ws, rfl, g, nl, hw, hl, _⟩, p2, k2⟩ := h s1 p1 k1
  obtain ⟨cs, hc, hcm, hcl⟩ : ∃ cs : List Str, Mi.cutD (ws.map D.str) lo' hi' = cs.map D.str ∧ (∀ w ∈ cs, w ∈ ws) ∧ cs.length ≤ ws.length := by
    unfold Mi.cutD
    refine ⟨(ws.drop (HT.sIx (ws.map D.str).length 0 lo')).take (HT.sIx (ws.map D.str).length (ws.map D.str).length hi' - HT.sIx (ws.map D.str).length 0 lo'), by rw [List.map_take, List.map_drop], fun w hw => List.mem_of_mem_drop (List.mem_of_mem_take hw), ?_⟩
    rw [List.length_take, List.length_drop]
    omega
  refine ⟨.loc s2.length, s2 ++ [.lst (cs.map D.str)], ?_, ⟨_, cs, rfl, get_new _ _, Nat.ne_of_gt p2.lt, fun w hw' => hw w (hcm w hw'), by omega, by have := k1.1; have := k2.1; omega⟩, p2.app _, k2.trans (Kp.app p s2 _)⟩
  show ((a env s1).bind fun x s => (lo env s).bind fun l s => (hi env s).bind fun u s => R.of (dSlZ x l u s)) = _
  rw [q2]
  show ((lo env s2).bind fun u s => (hi env s).bind fun v s => R.of (dSlZ (.loc l) u v s)) = _
  rw [h1]
  show ((hi env s2).bind fun v s => R.of (dSlZ (.loc l) lo' v s)) = _
  rw [h2]
  show R.of (dSlZ (.loc l) lo' hi' s2) = _
  simp [dSl, lstOf, g, hc]
theorem AR.ix {i l : Nat} {n : Nat} {ds : List D} {c : Int} (h0 : env[0]? = some (some (.loc p))) (he : env[i]? = some (some (.loc l))) (g : s[l]? = some (.lst ds)) (nl : l ≠ p) (hd : ∀ d ∈ ds, Rw p b0 s d n) (hc : ds.length = c) (hpos : 0 < c) (hc2 : c ≤ 1000) : AR p b0 (e2 dIx (eV i) (eCall m_d_law_draw (aCons (eV 0) (aCons (eC (.int c)) aNil)))) env s n := fun s1 p1 k1 => by
  obtain ⟨j, s2, q2, j0, j1, p2, k2⟩ := draw_spec p1 (many := c) hpos (by omega)
  obtain ⟨d, hd', wd⟩ := zmem (Kp.get (k1.trans k2) g nl) (i := j) j0 (by omega)
  refine ⟨d, s2, ?_, (hd d hd').kp (k1.trans k2), p2, k2⟩
  simp [eV, he, h0, eCall, q2, wd]
/-- it ends with a row -/
def OutR (p b0 : Nat) (s : Store) (n : Nat) (r : RS) : Prop := ∃ d s', r = .rt d s' ∧ Rw p b0 s' d n ∧ Pool p s' ∧ Kp p s s'
theorem OutR.ret {a : ME D} {n : Nat} (hp : Pool p s) (h : AR p b0 a env s n) : OutR p b0 s n (sRet a env s) := by
  obtain ⟨d, s', q, hd, p', k'⟩ := h s hp (Kp.refl p s)
  exact st_ret q ⟨d, s', rfl, hd, p', k'⟩
theorem OutR.from {s0 : Store} {n : Nat} {r : RS} (h : OutR p b0 s n r) (k : Kp p s0 s) : OutR p b0 s0 n r :=
  let ⟨d, s', a, b, c, e⟩ := h
  ⟨d, s', a, b, c, k.trans e⟩
theorem OutR.out {s0 : Store} {t : ME Bool} {f g r : MS} {n : Nat} (ht : t env s = .ok true s) (h : OutR p b0 s0 n (f env s)) : OutR p b0 s0 n (sSeq (sIf t f g) r env s) := by
  obtain ⟨d, s', q, hh⟩ := h
  exact st_out ht q ⟨d, s', rfl, hh⟩
theorem OutR.pick {as : ME (List D)} {i n c : Nat} (hp : Pool p s) (hi : 0 < i) (hil : i < env.length) (h0 : env[0]? = some (some (.loc p))) (h : ARs p b0 as env s n c) (hc : 0 < c) (hc2 : c ≤ 1000) : OutR p b0 s n (sSeq (sSet i (eLst as)) (sRet (e2 dIx (eV i) (eCall m_d_law_draw (aCons (eV 0) (aCons (eC (.int (c : Nat))) aNil))))) env s) := by
  obtain ⟨ds, s1, q1, hd, hl, p1, k1⟩ := h s hp (Kp.refl p s)
  have k2 := Kp.app p s1 [Cell.lst ds]
  have q : eLst as env s = .ok (.loc s1.length) (s1 ++ [.lst ds]) := by
    show ((as env s).bind fun xs s => if xs.length ≤ sizeLine then Mi.R.ok (D.loc s.length) (s ++ [.lst xs]) else .no) = _
    rw [q1]
    show (if ds.length ≤ sizeLine then Mi.R.ok (D.loc s1.length) (s1 ++ [.lst ds]) else .no) = _
    rw [if_pos (by unfold sizeLine; omega)]
  refine st_set (P := OutR p b0 s n) q ?_
  refine OutR.from (OutR.ret (p1.app _) (AR.ix (l := s1.length) (ds := ds) (by rw [List.getElem?_set_ne (by omega)]; exact h0) (by rw [List.getElem?_set_self hil]) (get_new _ _) (Nat.ne_of_gt p1.lt) (fun d hd' => (hd d hd').kp k2) (by omega) (by omega) (by omega))) (k1.trans k2)
end
theorem wword_spec {p : Nat} {s : Store} (h : Pool p s) {w : Str} (hw : WK w) (hl : w.length ≤ 30) : ∃ (z : Str) (s' : Store), m_d_law_wrong_word [.loc p, .str w] s = .ok (.str z) s' ∧ WK z ∧ Pool p s' ∧ Kp p s s' := by
  have lx : ("x" : Str).length = 1 := by decide +kernel
  have l0 : ("0" : Str).length = 1 := by decide +kernel
  have wx : WK "x" := wk_lit (by decide +kernel)
  have w0 : WK "0" := wk_lit (by decide +kernel)
  have a1 := fun s => sadd (a := w) (b := "x") (by omega) (by omega) s
  have a2 := fun s => sadd (a := "0") (b := w) (by omega) (by omega) s
  have s1 := slen w "x"
  have s2 := slen "0" w
  have k1 : WK (w ++ "x") := ⟨by rw [tl_app]; intro q; rcases List.mem_append.mp q with q | q; exact hw.nosp q; exact wx.nosp q, by omega, tok_app hw.tok wx.tok, by rw [tl_app]; intro q; exact hw.ne (List.append_eq_nil_iff.mp q).1⟩
  have k2 : WK ("0" ++ w) := ⟨by rw [tl_app]; intro q; rcases List.mem_append.mp q with q | q; exact w0.nosp q; exact hw.nosp q, by omega, tok_app w0.tok hw.tok, by rw [tl_app]; intro q; exact hw.ne (List.append_eq_nil_iff.mp q).2⟩
  generalize w ++ "x" = wa at *
  generalize "0" ++ w = wb at *
  obtain ⟨j, s3, d, e3, hd, w3, p3, k3⟩ := drawn h (L := [.str "0", .str "03", .str "-1", .str "+5", .str "1_0", .str "ad", .str "bc", .str "to", .str "never", .str "x", .str wa, .str wb, .str "1234567890"]) (n := 13) rfl (by omega) (by omega)
  obtain ⟨z, rfl, hz⟩ : ∃ z, d = .str z ∧ WK z := by
    simp only [List.mem_cons, List.mem_nil_iff, or_false] at hd
    rcases hd with rfl | rfl | rfl | rfl | rfl | rfl | rfl | rfl | rfl | rfl | rfl | rfl | rfl
    all_goals first
      | exact ⟨_, rfl, wk_lit (by decide +kernel)⟩
      | exact ⟨_, rfl, k1⟩
      | exact ⟨_, rfl, k2⟩
  simp at e3
  have ln := dLen_loc (get_new s (.lst [.str "0", .str "03", .str "-1", .str "+5", .str "1_0", .str "ad", .str "bc", .str "to", .str "never", .str "x", .str wa, .str wb, .str "1234567890"]))
  simp at ln
  exact ⟨z, s3, by simp [m_d_law_wrong_word, b_d_law_wrong_word, a1, a2, ln, e3, w3], hz, p3, k3⟩
theorem AW.wrong {p : Nat} {env : Sl} {s : Store} {e : ME D} {w : Str} (h0 : env[0]? = some (some (.loc p))) (he : ∀ s1, Kp p s s1 → e env s1 = .ok (.str w) s1) (hw : WK w) (hl : w.length ≤ 30) : AW p (eCall m_d_law_wrong_word (aCons (eV 0) (aCons e aNil))) env s := fun s1 p1 k1 => by
  obtain ⟨z, s2, q2, hz, p2, k2⟩ := wword_spec p1 hw hl
  refine ⟨z, s2, ?_, hz, p2, k2⟩
  simp [eV, h0, he s1 k1, q2]
end Law
namespace Law
open PySem Mi
section
variable {p b0 : Nat} {env : Sl} {s : Store}
theorem AW.e {e : ME D} {w : Str} (he : ∀ s1, Kp p s s1 → e env s1 = .ok (.str w) s1) (hw : WK w) : AW p e env s := fun s1 p1 k1 => ⟨w, s1, he s1 k1, hw, p1, Kp.refl p s1⟩
theorem AR.ixl {as : ME (List D)} {n c : Nat} (h0 : env[0]? = some (some (.loc p))) (h : ARs p b0 as env s n c) (hc : 0 < c) (hc2 : c ≤ 1000) : AR p b0 (e2 dIx (eLst as) (eCall m_d_law_draw (aCons (eV 0) (aCons (eC (.int (c : Nat))) aNil)))) env s n := fun s1 p1 k1 => by
  obtain ⟨ds, s2, q2, hd, hl, p2, k2⟩ := h s1 p1 k1
  have k3 := Kp.app p s2 [Cell.lst ds]
  have q : eLst as env s1 = .ok (.loc s2.length) (s2 ++ [.lst ds]) := by
    show ((as env s1).bind fun xs s => if xs.length ≤ sizeLine then Mi.R.ok (D.loc s.length) (s ++ [.lst xs]) else .no) = _
    rw [q2]
    show (if ds.length ≤ sizeLine then Mi.R.ok (D.loc s2.length) (s2 ++ [.lst ds]) else .no) = _
    rw [if_pos (by unfold sizeLine; omega)]
  obtain ⟨j, s3, q3, j0, j1, p3, k4⟩ := draw_spec (p2.app [Cell.lst ds]) (many := (c : Nat)) (by omega) (by omega)
  obtain ⟨d, hd', wd⟩ := zmem (Kp.get k4 (get_new s2 (.lst ds)) (Nat.ne_of_gt p2.lt)) (i := j) j0 (by omega)
  refine ⟨d, s3, ?_, (hd d hd').kp (k3.trans k4), p3, (k2.trans k3).trans k4⟩
  show ((eLst as env s1).bind fun x s => ((eCall m_d_law_draw (aCons (eV 0) (aCons (eC (.int (c : Nat))) aNil))) env s).bind fun y s => R.of (dIx x y s)) = _
  rw [q]
  show (((eCall m_d_law_draw (aCons (eV 0) (aCons (eC (.int (c : Nat))) aNil))) env (s2 ++ [.lst ds])).bind fun y s => R.of (dIx (.loc s2.length) y s)) = _
  simp [eCall, eV, h0, q3, wd]
end
theorem spoilt_spec {p l : Nat} {s : Store} (h : Pool p s) {ws : List Str} (g : s[l]? = some (.lst (ws.map D.str))) (nl : l ≠ p) (hw : ∀ w ∈ ws, WK w ∧ w.length ≤ 30) (h1 : 1 ≤ ws.length) (h6 : ws.length ≤ 6) : ∃ d s', m_d_law_spoilt [.loc p, .loc l] s = .ok d s' ∧ Rw p s.length s' d 14 ∧ Pool p s' ∧ Kp p s s' := by
  suffices hh : OutR p s.length s 14 (b_d_law_spoilt [some (.loc p), some (.loc l), none, none, none, none, none] s) by
    obtain ⟨d, s', q, r⟩ := hh
    refine ⟨d, s', ?_, r⟩
    show fnM 7 2 b_d_law_spoilt [.loc p, .loc l] s = _
    rw [fnM_eq]
    show (match b_d_law_spoilt [some (.loc p), some (.loc l), none, none, none, none, none] s with | .rt d s => Mi.R.ok d s | .nx _ s => .ok .non s | .ex e _ s => .ex e s | _ => .no) = _
    rw [q]
  unfold b_d_law_spoilt
  obtain ⟨t, s1, q1, t0, t1, p1, k1⟩ := draw_spec h (many := 9) (by omega) (by omega)
  refine st_set (P := OutR p s.length s 14) (d := .int t) (s' := s1) (by simp [q1]) ?_
  simp only [List.set_cons_succ, List.set_cons_zero]
  have g1 := Kp.get k1 g nl
  have ln := dLen_loc g1
  rw [List.length_map] at ln
  obtain ⟨k, s2, q2, k0, k1', p2, k2⟩ := often_spec p1 (many := (ws.length : Nat)) (by omega) (by omega)
  obtain ⟨kn, rfl⟩ := Int.eq_ofNat_of_zero_le k0
  have hk : kn < ws.length := by omega
  refine st_set (P := OutR p s.length s 14) (d := .int kn) (s' := s2) (by simp [ln, q2]) ?_
  simp only [List.set_cons_succ, List.set_cons_zero]
  have kk := k1.trans k2
  refine OutR.from ?_ kk
  have g2 := Kp.get kk g nl
  have rw1 : Rw p 0 s2 (.loc l) 6 := ⟨l, ws, rfl, g2, nl, fun w hw' => (hw w hw').1, h6, Nat.zero_le _⟩
  have hb2 := kk.1
  have look : ∀ s3, Kp p s2 s3 → dIx (.loc l) (.int (kn : Nat)) s3 = some (.str ws[kn], s3) := fun s3 k3 => by
    rw [dIx_loc (Kp.get k3 g2 nl), L2.atI_nat (v := D.str ws[kn]) (by simp [hk])]; rfl
  have wat := hw ws[kn] (List.getElem_mem _)
  generalize ws[kn] = wx at *
  have wto : WK "to" := wk_to
  have wad : WK "AD" := wk_lit (by decide +kernel)
  have wbc : WK "BC" := wk_lit (by decide +kernel)
  have wnv : WK "never" := wk_lit (by decide +kernel)
  have wti : WK "till" := wk_lit (by decide +kernel)
  have w0 : WK "0" := wk_lit (by decide +kernel)
  have w1 : WK "1" := wk_lit (by decide +kernel)
  have w2 : WK "2" := wk_lit (by decide +kernel)
  have w9 : WK "9" := wk_lit (by decide +kernel)
  have w10 : WK "10" := wk_lit (by decide +kernel)
  have l1 : ("1" : Str).length ≤ 30 := by decide +kernel
  have lad : ("AD" : Str).length ≤ 30 := by decide +kernel
  have lbc : ("BC" : Str).length ≤ 30 := by decide +kernel
  have test : ∀ (k : Int) (a4 a5 a6 : Option D) (s : Store), tV (e2 dEq (eV 2) (eC (.int k))) [some (.loc p), some (.loc l), some (.int t), some (.int kn), a4, a5, a6] s = .ok (decide (t = k)) s := fun k a4 a5 a6 s => by simp
  have row : ∀ (a4 a5 a6 : Option D) (s3 : Store), Kp p s2 s3 → AR p 0 (eV 1) [some (.loc p), some (.loc l), some (.int t), some (.int kn), a4, a5, a6] s3 6 := fun a4 a5 a6 s3 k3 => AR.v (d := .loc l) rfl (rw1.kp k3)
  have cutA : ∀ (a4 a5 a6 : Option D) (s3 : Store), Kp p s2 s3 → AR p s3.length (eSl dSlZ (eV 1) (oNone) (oSome (eV 3))) [some (.loc p), some (.loc l), some (.int t), some (.int kn), a4, a5, a6] s3 6 := fun a4 a5 a6 s3 k3 => (row a4 a5 a6 s3 k3).sl (fun s => rfl) (fun s => rfl) (by omega)
  have cutB : ∀ (a4 a5 a6 : Option D) (s3 : Store), Kp p s2 s3 → AR p s3.length (eSl dSlZ (eV 1) (oSome (eV 3)) (oNone)) [some (.loc p), some (.loc l), some (.int t), some (.int kn), a4, a5, a6] s3 6 := fun a4 a5 a6 s3 k3 => (row a4 a5 a6 s3 k3).sl (fun s => rfl) (fun s => rfl) (by omega)
  have cutC : ∀ (a4 a5 a6 : Option D) (s3 : Store), Kp p s2 s3 → AR p s3.length (eSl dSlZ (eV 1) (oSome (e2 dAdd (eV 3) (eC (.int 1)))) (oNone)) [some (.loc p), some (.loc l), some (.int t), some (.int kn), a4, a5, a6] s3 6 := fun a4 a5 a6 s3 k3 => (row a4 a5 a6 s3 k3).sl (lo' := some ((kn : Int) + 1)) (fun s => by simp) (fun s => rfl) (by omega)
  have cut2 : ∀ (a4 a5 a6 : Option D) (s3 : Store), Kp p s2 s3 → AR p s3.length (eSl dSlZ (eV 1) (oNone) (oSome (eC (.int 2)))) [some (.loc p), some (.loc l), some (.int t), some (.int kn), a4, a5, a6] s3 6 := fun a4 a5 a6 s3 k3 => (row a4 a5 a6 s3 k3).sl (fun s => rfl) (fun s => rfl) (by omega)
  have cut1 : ∀ (a4 a5 a6 : Option D) (s3 : Store), Kp p s2 s3 → AR p s3.length (eSl dSlZ (eV 1) (oNone) (oSome (eC (.int 1)))) [some (.loc p), some (.loc l), some (.int t), some (.int kn), a4, a5, a6] s3 6 := fun a4 a5 a6 s3 k3 => (row a4 a5 a6 s3 k3).sl (fun s => rfl) (fun s => rfl) (by omega)
  have rf := Kp.refl p s2
  by_cases c0 : t = 0
  · refine OutR.out (by rw [test, decide_eq_true c0]) ?_
    exact OutR.ret p2 (((cutA _ _ _ _ rf).add (cutC _ _ _ _ rf) (by omega)).mono (by omega))
  refine st_no (P := OutR p s.length s2 14) (s' := s2) (by rw [test, decide_eq_false c0]) ?_
  by_cases c1 : t = 1
  · refine OutR.out (by rw [test, decide_eq_true c1]) ?_
    exact OutR.ret p2 ((((cutA _ _ _ _ rf).add (AR.lst (AWs.cons (AW.e (fun s1 k1 => by simp [look s1 k1]) wat.1) AWs.nil) (by omega)) (by omega)).add (cutB _ _ _ _ rf) (by omega)).mono (by omega))
  refine st_no (P := OutR p s.length s2 14) (s' := s2) (by rw [test, decide_eq_false c1]) ?_
  by_cases c2 : t = 2
  · refine OutR.out (by rw [test, decide_eq_true c2]) ?_
    exact OutR.pick p2 (by omega) (by simp) rfl (c := 7) (ARs.cons ((AR.lst AWs.nil (by omega)).mono (by omega)) (ARs.cons ((AR.lst (AWs.cons (AW.c wnv) AWs.nil) (by omega)).mono (by omega)) (ARs.cons ((AR.lst (AWs.cons (AW.c wto) AWs.nil) (by omega)).mono (by omega))
      (ARs.cons (((row _ _ _ _ rf).add (AR.lst (AWs.cons (AW.c wto) AWs.nil) (by omega)) (by omega)).mono (by omega)) (ARs.cons (((AR.lst (AWs.cons (AW.c wto) AWs.nil) (by omega)).add (row _ _ _ _ rf) (by omega)).mono (by omega)) (ARs.cons (((row _ _ _ _ rf).add (row _ _ _ _ rf) (by omega)).mono (by omega))
      (ARs.cons ((((cut2 _ _ _ _ rf).add (AR.lst (AWs.cons (AW.c wti) AWs.nil) (by omega)) (by omega)).add (cut2 _ _ _ _ rf) (by omega)).mono (by omega)) ARs.nil))))))) (by omega) (by omega)
  refine st_no (P := OutR p s.length s2 14) (s' := s2) (by rw [test, decide_eq_false c2]) ?_
  obtain ⟨j, s3, d, q3, hd, wd3, p3, k3⟩ := drawn p2 (L := [.int 40, .int 40, .int 999990000]) (n := 3) rfl (by omega) (by omega)
  obtain ⟨z, rfl, hz⟩ : ∃ z : Int, d = .int z ∧ 1 ≤ z ∧ z ≤ 999990000 := by
    simp only [List.mem_cons, List.mem_nil_iff, or_false] at hd
    rcases hd with rfl | rfl | rfl <;> exact ⟨_, rfl, by omega, by omega⟩
  simp at q3
  obtain ⟨f, s4, q4, f0, f1, p4, k4⟩ := often_spec p3 (many := z) (by omega) (by omega)
  obtain ⟨fn, rfl⟩ := Int.eq_ofNat_of_zero_le f0
  refine st_set (P := OutR p s.length s2 14) (d := .int fn) (s' := s4) (by simp [q3, wd3, q4]) ?_
  simp only [List.set_cons_succ, List.set_cons_zero]
  have k5 := k3.trans k4
  have n1 := fun s => str_num (k := 10000 + fn) (by omega) s
  have n2 := fun s => str_num (k := 10001 + fn) (by omega) s
  have z1 : ((10000 + fn : Nat) : Int) = 10000 + (fn : Int) := by omega
  have z2 : ((10001 + fn : Nat) : Int) = 10001 + (fn : Int) := by omega
  rw [z1] at n1
  rw [z2] at n2
  have wn1 := wk_num (k := 10000 + fn) (by omega)
  have wn2 := wk_num (k := 10001 + fn) (by omega)
  obtain ⟨d6, s5, q5, r6, p5, k6⟩ := AR.ixl (p := p) (env := [some (.loc p), some (.loc l), some (.int t), some (.int kn), none, some (.int fn), none]) (s := s4) (c := 2) (n := 2) (b0 := s4.length) rfl (ARs.cons (AR.lst (AWs.cons (AW.e (e := eFn dStr (aCons (e2 dAdd (eC (.int 10000)) (eV 5)) (aNil))) (fun s1 k1 => by simp [n1]) wn1) (AWs.cons (AW.c wad) AWs.nil)) (by omega)) (ARs.cons (AR.lst (AWs.cons (AW.e (e := eFn dStr (aCons (e2 dAdd (eC (.int 10001)) (eV 5)) (aNil))) (fun s1 k1 => by simp [n2]) wn2) (AWs.cons (AW.c wbc) AWs.nil)) (by omega)) ARs.nil)) (by omega) (by omega) s4 p4 (Kp.refl p s4)
  refine st_set (P := OutR p s.length s2 14) (d := d6) (s' := s5) q5 ?_
  simp only [List.set_cons_succ, List.set_cons_zero]
  have k7 := k5.trans k6
  have hb5 := k5.1
  have hb7 := k7.1
  refine OutR.from ?_ k7
  have bey : ∀ (a4 a5 : Option D) (s6 : Store), Kp p s5 s6 → AR p s4.length (eV 6) [some (.loc p), some (.loc l), some (.int t), some (.int kn), a4, a5, some d6] s6 2 := fun a4 a5 s6 k => AR.v (d := d6) rfl (r6.kp k)
  have rf5 := Kp.refl p s5
  have look5 : ∀ s3, Kp p s5 s3 → dIx (.loc l) (.int (kn : Nat)) s3 = some (.str wx, s3) := fun s3 k3 => look s3 (k7.trans k3)
  by_cases c3 : t = 3
  · refine OutR.out (by rw [test, decide_eq_true c3]) ?_
    exact OutR.pick p5 (by omega) (by simp) rfl (c := 4) (ARs.cons ((bey _ _ _ rf5).mono (by omega)) (ARs.cons ((((bey _ _ _ rf5).add (AR.lst (AWs.cons (AW.c wto) AWs.nil) (by omega)) (by omega)).add (cut2 _ _ _ _ k7) (by omega)).mono (by omega)) (ARs.cons ((((cut2 _ _ _ _ k7).add (AR.lst (AWs.cons (AW.c wto) AWs.nil) (by omega)) (by omega)).add (bey _ _ _ rf5) (by omega)).mono (by omega))
      (ARs.cons (((bey _ _ _ rf5).add (AR.lst (AWs.cons (AW.c wto) (AWs.cons (AW.c w0) (AWs.cons (AW.c wad) AWs.nil))) (by omega)) (by omega)).mono (by omega)) ARs.nil)))) (by omega) (by omega)
  refine st_no (P := OutR p s.length s5 14) (s' := s5) (by rw [test, decide_eq_false c3]) ?_
  by_cases c4 : t = 4
  · refine OutR.out (by rw [test, decide_eq_true c4]) ?_
    exact OutR.pick p5 (by omega) (by simp) rfl (c := 3) (ARs.cons ((AR.lst (AWs.cons (AW.c w2) (AWs.cons (AW.c wad) (AWs.cons (AW.c wto) (AWs.cons (AW.c w1) (AWs.cons (AW.c wad) AWs.nil))))) (by omega)).mono (by omega)) (ARs.cons ((AR.lst (AWs.cons (AW.c w1) (AWs.cons (AW.c wad) (AWs.cons (AW.c wto) (AWs.cons (AW.c w1) (AWs.cons (AW.c wbc) AWs.nil))))) (by omega)).mono (by omega))
      (ARs.cons ((AR.lst (AWs.cons (AW.c w9) (AWs.cons (AW.c wbc) (AWs.cons (AW.c wto) (AWs.cons (AW.c w10) (AWs.cons (AW.c wbc) AWs.nil))))) (by omega)).mono (by omega)) ARs.nil))) (by omega) (by omega)
  refine st_no (P := OutR p s.length s5 14) (s' := s5) (by rw [test, decide_eq_false c4]) ?_
  by_cases c5 : t = 5
  · refine OutR.out (by rw [test, decide_eq_true c5]) ?_
    exact OutR.ret p5 (((cut2 _ _ _ _ k7).add (AR.lst (AWs.cons (AW.c wto) (AWs.cons (AW.wrong rfl (fun _ _ => rfl) w1 l1) (AWs.cons (AW.wrong rfl (fun _ _ => rfl) wad lad) AWs.nil))) (by omega)) (by omega)).mono (by omega))
  refine st_no (P := OutR p s.length s5 14) (s' := s5) (by rw [test, decide_eq_false c5]) ?_
  by_cases c6 : t = 6
  · refine OutR.out (by rw [test, decide_eq_true c6]) ?_
    exact OutR.ret p5 ((((AR.lst (AWs.cons (AW.wrong rfl (fun _ _ => rfl) w1 l1) (AWs.cons (AW.c wad) (AWs.cons (AW.c wto) AWs.nil))) (by omega)).add (cut1 _ _ _ _ k7) (by omega)).add (AR.lst (AWs.cons (AW.wrong rfl (fun _ _ => rfl) wbc lbc) AWs.nil) (by omega)) (by omega)).mono (by omega))
  refine st_no (P := OutR p s.length s5 14) (s' := s5) (by rw [test, decide_eq_false c6]) ?_
  exact OutR.ret p5 ((((cutA _ _ _ _ k7).add (AR.lst (AWs.cons (AW.wrong rfl (fun s1 k1 => by simp [look5 s1 k1]) wat.1 wat.2) AWs.nil) (by omega)) (by omega)).add (cutC _ _ _ _ k7) (by omega)).mono (by omega))
end Law
namespace Law
open PySem Mi
theorem cutT (xs : List D) {k : Nat} (h : k ≤ xs.length) : Mi.cutD xs none (some (k : Int)) = xs.take k := by
  unfold Mi.cutD
  rw [HT.sIx_none, HT.sIx_nat]
  simp [Nat.min_eq_left h]
theorem cutDr (xs : List D) {k : Nat} (h : k ≤ xs.length) : Mi.cutD xs (some (k : Int)) none = xs.drop k := by
  unfold Mi.cutD
  rw [HT.sIx_none, HT.sIx_nat, Nat.min_eq_left h, List.take_of_length_le (by simp)]
/-- rows at their cells -/
def RL (N : Nat → Prop) (s : Store) : List D → List (List Str) → Prop
  | [], [] => True
  | d :: ds, r :: rs => (∃ l, d = .loc l ∧ s[l]? = some (.lst (r.map D.str)) ∧ N l ∧ ∀ w ∈ r, WK w) ∧ RL N s ds rs
  | _, _ => False
theorem RL.kp {N : Nat → Prop} {s s' : Store} (k : ∀ l c, N l → s[l]? = some c → s'[l]? = some c) : ∀ {ds : List D} {rs : List (List Str)}, RL N s ds rs → RL N s' ds rs
  | [], [], _ => trivial
  | _ :: ds, _ :: rs, ⟨⟨l, h1, h2, h3, h4⟩, h⟩ => ⟨⟨l, h1, k l _ h3 h2, h3, h4⟩, h.kp k⟩
  | [], _ :: _, h => h.elim
  | _ :: _, [], h => h.elim
theorem RL.len {N : Nat → Prop} {s : Store} : ∀ {ds : List D} {rs : List (List Str)}, RL N s ds rs → ds.length = rs.length
  | [], [], _ => rfl
  | _ :: ds, _ :: rs, ⟨_, h⟩ => by simp [h.len]
  | [], _ :: _, h => h.elim
  | _ :: _, [], h => h.elim
theorem RL.app {N : Nat → Prop} {s : Store} {ds2 : List D} {rs2 : List (List Str)} (k : RL N s ds2 rs2) : ∀ {ds : List D} {rs : List (List Str)}, RL N s ds rs → RL N s (ds ++ ds2) (rs ++ rs2)
  | [], [], _ => k
  | _ :: ds, _ :: rs, ⟨h0, h⟩ => ⟨h0, RL.app k h⟩
  | [], _ :: _, h => h.elim
  | _ :: _, [], h => h.elim
theorem RL.take {N : Nat → Prop} {s : Store} : ∀ {ds : List D} {rs : List (List Str)} (n : Nat), RL N s ds rs → RL N s (ds.take n) (rs.take n)
  | [], [], n, _ => by simp [RL]
  | _ :: ds, _ :: rs, 0, _ => trivial
  | _ :: ds, _ :: rs, n + 1, ⟨h0, h⟩ => ⟨h0, h.take n⟩
  | [], _ :: _, _, h => h.elim
  | _ :: _, [], _, h => h.elim
theorem RL.drop {N : Nat → Prop} {s : Store} : ∀ {ds : List D} {rs : List (List Str)} (n : Nat), RL N s ds rs → RL N s (ds.drop n) (rs.drop n)
  | [], [], n, _ => by simp [RL]
  | _ :: ds, _ :: rs, 0, h => h
  | _ :: ds, _ :: rs, n + 1, ⟨_, h⟩ => h.drop n
  | [], _ :: _, _, h => h.elim
  | _ :: _, [], _, h => h.elim
theorem RL.at_ {N : Nat → Prop} {s : Store} : ∀ {ds : List D} {rs : List (List Str)} {i : Nat} (hi : i < rs.length), RL N s ds rs → ∃ l, ds[i]? = some (.loc l) ∧ s[l]? = some (.lst (rs[i].map D.str)) ∧ N l ∧ ∀ w ∈ rs[i], WK w
  | _ :: ds, _ :: rs, 0, _, ⟨⟨l, h1, h2, h3, h4⟩, _⟩ => ⟨l, by simp [h1], h2, h3, h4⟩
  | _ :: ds, _ :: rs, i + 1, hi, ⟨_, h⟩ => by
    obtain ⟨l, h1, h2, h3, h4⟩ := h.at_ (i := i) (by simpa using hi)
    exact ⟨l, by simpa using h1, by simpa using h2, h3, by simpa using h4⟩
  | [], _ :: _, _, _, h => h.elim
  | _ :: _, [], _, _, h => h.elim
  | [], [], _, hi, _ => by simp at hi
theorem RL.rws {N : Nat → Prop} {s : Store} : ∀ {ds : List D} {rs : List (List Str)}, RL N s ds rs → (∃ ls : List Nat, ds = ls.map D.loc ∧ AtL s ls rs ∧ ∀ l ∈ ls, N l) ∧ ∀ r ∈ rs, ∀ w ∈ r, WK w
  | [], [], _ => ⟨⟨[], rfl, trivial, by simp⟩, by simp⟩
  | _ :: ds, r :: rs, ⟨⟨l, h1, h2, h3, h4⟩, h⟩ => by
    obtain ⟨⟨ls, a, b, c⟩, q⟩ := h.rws
    refine ⟨⟨l :: ls, by rw [h1, a]; rfl, ⟨h2, b⟩, fun x hx => ?_⟩, fun x hx => ?_⟩
    · rcases List.mem_cons.mp hx with rfl | hx
      · exact h3
      · exact c x hx
    · rcases List.mem_cons.mp hx with rfl | hx
      · exact h4
      · exact q x hx
  | [], _ :: _, h => h.elim
  | _ :: _, [], h => h.elim
theorem AtL.rl {N : Nat → Prop} {s : Store} : ∀ {ls : List Nat} {rs : List (List Str)}, AtL s ls rs → (∀ l ∈ ls, N l) → (∀ r ∈ rs, ∀ w ∈ r, WK w) → RL N s (ls.map D.loc) rs
  | [], [], _, _, _ => trivial
  | l :: ls, r :: rs, ⟨a, b⟩, h, k => ⟨⟨l, rfl, a, h l (by simp), k r (by simp)⟩, b.rl (fun x hx => h x (by simp [hx])) fun x hx => k x (by simp [hx])⟩
  | [], _ :: _, h, _, _ => h.elim
  | _ :: _, [], h, _, _ => h.elim
section
variable {p : Nat} {N : Nat → Prop} {env : Sl} {s : Store}
theorem kpN (hN : ∀ l, N l → l ≠ p) {s s' : Store} (k : Kp p s s') : ∀ l c, N l → s[l]? = some c → s'[l]? = some c := fun l c h g => Kp.get k g (hN l h)
/-- at every later store: a row that is as told -/
def AQ (p : Nat) (N : Nat → Prop) (a : ME D) (env : Sl) (s : Store) (Q : List Str → Prop) : Prop := ∀ s1, Pool p s1 → Kp p s s1 → ∃ (l : Nat) (r : List Str) (s' : Store), a env s1 = .ok (.loc l) s' ∧ s'[l]? = some (.lst (r.map D.str)) ∧ N l ∧ (∀ w ∈ r, WK w) ∧ Q r ∧ Pool p s' ∧ Kp p s1 s'
/-- .. a list of rows that is as told -/
def AX (p : Nat) (N : Nat → Prop) (a : ME D) (env : Sl) (s : Store) (P : List (List Str) → Prop) : Prop := ∀ s1, Pool p s1 → Kp p s s1 → ∃ (l : Nat) (ds : List D) (rs : List (List Str)) (s' : Store), a env s1 = .ok (.loc l) s' ∧ s'[l]? = some (.lst ds) ∧ l ≠ p ∧ RL N s' ds rs ∧ P rs ∧ Pool p s' ∧ Kp p s1 s'
theorem AQ.lit (hF : ∀ l, s.length ≤ l → l ≠ p → N l) {as : ME (List D)} {ws : List Str} (h : ∀ s, as env s = .ok (ws.map D.str) s) (hw : ∀ w ∈ ws, WK w) (hl : ws.length ≤ 1000) : AQ p N (eLst as) env s (· = ws) := fun s1 p1 k1 => by
  refine ⟨s1.length, ws, s1 ++ [.lst (ws.map D.str)], ?_, get_new _ _, hF _ k1.1 (Nat.ne_of_gt p1.lt), hw, rfl, p1.app _, Kp.app p s1 _⟩
  show ((as env s1).bind fun xs s => if xs.length ≤ sizeLine then Mi.R.ok (D.loc s.length) (s ++ [.lst xs]) else .no) = _
  rw [h]
  show (if (ws.map D.str).length ≤ sizeLine then Mi.R.ok (D.loc s1.length) (s1 ++ [.lst (ws.map D.str)]) else .no) = _
  rw [if_pos (by rw [List.length_map]; unfold sizeLine; omega)]
theorem AQ.ad (hN : ∀ l, N l → l ≠ p) (hF : ∀ l, s.length ≤ l → l ≠ p → N l) {a : ME D} {Q : List Str → Prop} (h : AQ p N a env s Q) (hl : ∀ r, Q r → r.length ≤ 1000) : AQ p N (e2 dAdd a (eLst (aCons (eC (.str "AD")) aNil))) env s (fun r => ∃ r0, r = r0 ++ [("AD" : Str)] ∧ Q r0) := fun s1 p1 k1 => by
  obtain ⟨l, r, s2, q2, g2, n2, w2, hq, p2, k2⟩ := h s1 p1 k1
  have g3 := get_new s2 (.lst [D.str "AD"])
  have x3 := Ext.mk s2 [Cell.lst [D.str "AD"]]
  have ad := dAdd_loc (x3.get g2) g3 (by have := hl r hq; simp; omega)
  have wad : WK "AD" := wk_lit (by decide +kernel)
  refine ⟨_, r ++ [("AD" : Str)], _, ?_, by rw [List.map_append]; exact get_new (s2 ++ [Cell.lst [D.str "AD"]]) _, hF _ (by have := k1.1; have := k2.1; have := x3.le; omega) (Nat.ne_of_gt (p2.ext x3).lt), fun x hx => ?_, ⟨r, rfl, hq⟩, (p2.ext x3).app _, (k2.trans (Kp.ext x3)).trans (Kp.app p _ _)⟩
  · show ((a env s1).bind fun x s => ((eLst (aCons (eC (.str "AD")) aNil)) env s).bind fun y s => R.of (dAdd x y s)) = _
    rw [q2]
    simp at ad
    simp [ad]
  · rcases List.mem_append.mp hx with hx | hx
    · exact w2 x hx
    · rw [List.mem_singleton.mp hx]; exact wad
theorem AQ.spoilt (hN : ∀ l, N l → l ≠ p) (hF : ∀ l, s.length ≤ l → l ≠ p → N l) {a : ME D} {Q : List Str → Prop} (h0 : env[0]? = some (some (.loc p))) (h : AQ p N a env s Q) (hl : ∀ r, Q r → (∀ w ∈ r, w.length ≤ 30) ∧ 1 ≤ r.length ∧ r.length ≤ 6) : AQ p N (eCall m_d_law_spoilt (aCons (eV 0) (aCons a aNil))) env s (fun r => r.length ≤ 14) := fun s1 p1 k1 => by
  obtain ⟨l, r, s2, q2, g2, n2, w2, hq, p2, k2⟩ := h s1 p1 k1
  obtain ⟨a1, a2, a3⟩ := hl r hq
  obtain ⟨d, s3, q3, ⟨l3, r3, rfl, g3, n3, w3, h3, f3⟩, p3, k3⟩ := spoilt_spec p2 g2 (hN _ n2) (fun w hw => ⟨w2 w hw, a1 w hw⟩) a2 a3
  refine ⟨l3, r3, s3, ?_, g3, hF _ (by have := k1.1; have := k2.1; omega) n3, w3, h3, p3, k2.trans k3⟩
  simp [eCall, eV, h0, q2, q3]
theorem AQ.ix (hN : ∀ l, N l → l ≠ p) {i j k l : Nat} {ds : List D} {rs : List (List Str)} (he : env[i]? = some (some (.loc l))) (hj : env[j]? = some (some (.int (k : Nat)))) (g : s[l]? = some (.lst ds)) (nl : l ≠ p) (h : RL N s ds rs) (hk : k < rs.length) : AQ p N (e2 dIx (eV i) (eV j)) env s (· = rs[k]) := fun s1 p1 k1 => by
  obtain ⟨l', h1, h2, h3, h4⟩ := h.at_ hk
  have q : dIx (.loc l) (.int (k : Nat)) s1 = some (.loc l', s1) := by rw [dIx_loc (Kp.get k1 g nl), L2.atI_nat h1]; rfl
  refine ⟨l', rs[k], s1, ?_, Kp.get k1 h2 (hN _ h3), h3, h4, rfl, p1, Kp.refl p s1⟩
  simp [eV, he, hj, q]
theorem AX.v (hN : ∀ l, N l → l ≠ p) {i l : Nat} {ds : List D} {rs : List (List Str)} (he : env[i]? = some (some (.loc l))) (g : s[l]? = some (.lst ds)) (nl : l ≠ p) (h : RL N s ds rs) : AX p N (eV i) env s (· = rs) := fun s1 p1 k1 =>
  ⟨l, ds, rs, s1, by unfold eV; rw [he], Kp.get k1 g nl, nl, h.kp (kpN hN k1), rfl, p1, Kp.refl p s1⟩
theorem AX.one (hN : ∀ l, N l → l ≠ p) {a : ME D} {Q : List Str → Prop} (h : AQ p N a env s Q) : AX p N (eLst (aCons a aNil)) env s (fun rs => ∃ r, rs = [r] ∧ Q r) := fun s1 p1 k1 => by
  obtain ⟨l, r, s2, q2, g2, n2, w2, hq, p2, k2⟩ := h s1 p1 k1
  have k3 := Kp.app p s2 [Cell.lst [D.loc l]]
  refine ⟨s2.length, [.loc l], [r], s2 ++ [.lst [.loc l]], ?_, get_new _ _, Nat.ne_of_gt p2.lt, ⟨⟨l, rfl, Kp.get k3 g2 (hN _ n2), n2, w2⟩, trivial⟩, ⟨r, rfl, hq⟩, p2.app _, k2.trans k3⟩
  simp [q2]
theorem AX.add (hN : ∀ l, N l → l ≠ p) {a b : ME D} {P Q : List (List Str) → Prop} (h : AX p N a env s P) (k : AX p N b env s Q) (h1 : ∀ rs, P rs → rs.length ≤ 1000) (h2 : ∀ rs, Q rs → rs.length ≤ 1000) : AX p N (e2 dAdd a b) env s (fun rs => ∃ A B, rs = A ++ B ∧ P A ∧ Q B) := fun s1 p1 k1 => by
  obtain ⟨l, ds, rs, s2, q2, g2, n2, r2, hq, p2, k2⟩ := h s1 p1 k1
  obtain ⟨l3, ds3, rs3, s3, q3, g3, n3, r3, hq3, p3, k3⟩ := k s2 p2 (k1.trans k2)
  have ad := dAdd_loc (Kp.get k3 g2 n2) g3 (by rw [r2.len, r3.len]; have := h1 _ hq; have := h2 _ hq3; omega)
  have k4 := Kp.app p s3 [Cell.lst (ds ++ ds3)]
  refine ⟨_, ds ++ ds3, rs ++ rs3, s3 ++ [.lst (ds ++ ds3)], ?_, get_new _ _, Nat.ne_of_gt p3.lt, RL.app (r3.kp (kpN hN k4)) (r2.kp (kpN hN (k3.trans k4))), ⟨rs, rs3, rfl, hq, hq3⟩, p3.app _, (k2.trans k3).trans k4⟩
  show ((a env s1).bind fun x s => (b env s).bind fun y s => R.of (dAdd x y s)) = _
  rw [q2]
  show ((b env s2).bind fun y s => R.of (dAdd (.loc l) y s)) = _
  rw [q3]
  show R.of (dAdd (.loc l) (.loc l3) s3) = _
  rw [ad]
  rfl
theorem AX.take (hN : ∀ l, N l → l ≠ p) {a : ME D} {hi : ME (Option Int)} {n : Nat} {P : List (List Str) → Prop} (h : AX p N a env s P) (hn : ∀ rs, P rs → n ≤ rs.length) (h2 : ∀ s, hi env s = .ok (some (n : Int)) s) : AX p N (eSl dSlZ a oNone hi) env s (fun rs => ∃ A, P A ∧ rs = A.take n) := fun s1 p1 k1 => by
  obtain ⟨l, ds, rs, s2, q2, g2, n2, r2, hq, p2, k2⟩ := h s1 p1 k1
  have k3 := Kp.app p s2 [Cell.lst (ds.take n)]
  have ct := cutT ds (k := n) (by rw [r2.len]; exact hn _ hq)
  refine ⟨s2.length, ds.take n, rs.take n, s2 ++ [.lst (ds.take n)], ?_, get_new _ _, Nat.ne_of_gt p2.lt, (r2.take n).kp (kpN hN k3), ⟨rs, hq, rfl⟩, p2.app _, k2.trans k3⟩
  show ((a env s1).bind fun x s => (oNone env s).bind fun l s => (hi env s).bind fun u s => R.of (dSlZ x l u s)) = _
  rw [q2]
  show ((hi env s2).bind fun v s => R.of (dSlZ (.loc l) none v s)) = _
  rw [h2]
  show R.of (dSlZ (.loc l) none (some (n : Int)) s2) = _
  simp [dSl, lstOf, g2, ct]
theorem AX.drop (hN : ∀ l, N l → l ≠ p) {a : ME D} {lo : ME (Option Int)} {n : Nat} {P : List (List Str) → Prop} (h : AX p N a env s P) (hn : ∀ rs, P rs → n ≤ rs.length) (h2 : ∀ s, lo env s = .ok (some (n : Int)) s) : AX p N (eSl dSlZ a lo oNone) env s (fun rs => ∃ A, P A ∧ rs = A.drop n) := fun s1 p1 k1 => by
  obtain ⟨l, ds, rs, s2, q2, g2, n2, r2, hq, p2, k2⟩ := h s1 p1 k1
  have k3 := Kp.app p s2 [Cell.lst (ds.drop n)]
  have ct := cutDr ds (k := n) (by rw [r2.len]; exact hn _ hq)
  refine ⟨s2.length, ds.drop n, rs.drop n, s2 ++ [.lst (ds.drop n)], ?_, get_new _ _, Nat.ne_of_gt p2.lt, (r2.drop n).kp (kpN hN k3), ⟨rs, hq, rfl⟩, p2.app _, k2.trans k3⟩
  show ((a env s1).bind fun x s => (lo env s).bind fun l s => (oNone env s).bind fun u s => R.of (dSlZ x l u s)) = _
  rw [q2]
  show ((lo env s2).bind fun v s => R.of (dSlZ (.loc l) v none s)) = _
  rw [h2]
  show R.of (dSlZ (.loc l) (some (n : Int)) none s2) = _
  simp [dSl, lstOf, g2, ct]
structure LnOk (z : Str) : Prop where
  len : z.length ≤ 100000
  tok : TOk z
theorem AX.line (hN : ∀ l, N l → l ≠ p) {a : ME D} {P : List (List Str) → Prop} (h0 : env[0]? = some (some (.loc p))) (h : AX p N a env s P) (hc : ∀ rs, P rs → cst rs ≤ 90000 ∧ rs.length ≤ 1000) {s1 : Store} (p1 : Pool p s1) (k1 : Kp p s s1) : ∃ (z : Str) (rs : List (List Str)) (s' : Store), eCall m_d_law_line (aCons (eV 0) (aCons a aNil)) env s1 = .ok (.str z) s' ∧ LnOk z ∧ P rs ∧ words z = jw rs ∧ Pool p s' ∧ Kp p s1 s' := by
  obtain ⟨l, ds, rs, s2, q2, g2, n2, r2, hq, p2, k2⟩ := h s1 p1 k1
  obtain ⟨⟨ls, rfl, a1, a2⟩, a3⟩ := r2.rws
  obtain ⟨z, s3, q3, wz, lz, tz, p3, k3⟩ := line_spec p2 ⟨⟨ls, g2, a1, fun l hl => hN l (a2 l hl)⟩, n2, a3, (hc rs hq).2⟩ (hc rs hq).1
  refine ⟨z, rs, s3, ?_, ⟨lz, tz⟩, hq, wz, p3, k2.trans k3⟩
  simp [eCall, eV, h0, q2, q3]
theorem app_eval {i ll : Nat} {e : ME D} {d : D} {xs : List D} {s' : Store} (he : env[i]? = some (some (.loc ll))) (g : s[ll]? = some (.lst xs)) (nl : ll ≠ p) (q : e env s = .ok d s') (k : Kp p s s') (hl : xs.length ≤ 1000000) : eMt "list" dAppend (eV i) (aCons e aNil) env s = .ok .non (s'.set ll (.lst (xs ++ [d]))) := by
  have t1 := tyOk_list g
  have t2 := tyOk_list (Kp.get k g nl)
  have ap := dAppend_loc (Kp.get k g nl) hl d
  simp [eMt, eV, he, t1, q, t2, ap]
end
end Law
namespace Law
open PySem Mi
def Bad (z : Str) : Prop := ∃ w, verd (words z) = .bad w
def isBad : FD → Bool
  | .bad _ => true
  | .good _ => false
theorem bad_of {z : Str} (h : isBad (verd (words z)) = true) : Bad z := by
  unfold Bad
  cases q : verd (words z) with
  | bad w => exact ⟨w, rfl⟩
  | good L => rw [q] at h; cases h
theorem fst_bad : ∀ {rs : List (List Str)} {r : List Str} {w : Str}, r ∈ rs → sd r = .bad w → ∃ w', fst rs = .bad w'
  | q :: rs, r, w, hr, h => by
    rw [fst]
    cases e : sd q with
    | bad v => exact ⟨v, rfl⟩
    | good a b =>
      rcases List.mem_cons.mp hr with rfl | hr
      · rw [e] at h; cases h
      · obtain ⟨v, hv⟩ := fst_bad hr h
        rw [hv]
        exact ⟨v, rfl⟩
theorem jw_len_mem : ∀ {rows : List (List Str)} {r : List Str}, r ∈ rows → r.length ≤ (jw rows).length
  | [q], r, h => by rw [List.mem_singleton.mp h]; exact Nat.le_refl _
  | q :: x :: t, r, h => by
    rw [jw, List.length_append, List.length_cons]
    rcases List.mem_cons.mp h with rfl | h
    · omega
    · have := jw_len_mem h
      omega
theorem bad_rows {rs : List (List Str)} {r r2 : List Str} {w z : Str} (hz : words z = jw rs) (ho : ∀ r ∈ rs, ("or" : Str) ∉ r) (h1 : r ∈ rs) (h2 : sd r = .bad w) (h3 : r2 ∈ rs) (h4 : 2 ≤ r2.length) : Bad z := by
  unfold Bad
  rw [hz]
  unfold verd
  rw [if_neg (never_len (by have := jw_len_mem h3; omega)), parts_jw rs (List.ne_nil_of_mem h1) ho]
  exact fst_bad h1 h2
theorem cst_le : ∀ {rs : List (List Str)}, (∀ r ∈ rs, r.length ≤ 14) → cst rs ≤ 626 * rs.length
  | [], _ => by simp [cst]
  | r :: rs, h => by
    have a := h r (by simp)
    have b := cst_le (rs := rs) fun x hx => h x (by simp [hx])
    simp only [cst, List.map_cons, List.sum_cons, List.length_cons] at b ⊢
    omega
theorem Tells.short {r : List Str} {x : Int × Int} (h : Tells r x) (h1 : Yr x.1) (h2 : Yr x.2) : ∀ w ∈ r, w.length ≤ 30 := fun w hw => by
  have y1 := yn_pos h1.lo h1.hi
  have y2 := yn_pos h2.lo h2.hi
  have n1 := num_len (k := yn x.1) (by omega)
  have n2 := num_len (k := yn x.2) (by omega)
  have s1 := ys_len x.1
  have s2 := ys_len x.2
  have t : ("to" : Str).length = 2 := by decide +kernel
  rcases h with rfl | ⟨e, rfl⟩
  · simp only [sw2, List.mem_cons, List.mem_nil_iff, or_false] at hw
    rcases hw with rfl | rfl | rfl | rfl | rfl <;> omega
  · simp only [sw1, List.mem_cons, List.mem_nil_iff, or_false] at hw
    rcases hw with rfl | rfl <;> omega
/-- rows that tell pairs -/
structure Good (rows : List (List Str)) : Prop where
  short : ∀ r ∈ rows, (∀ w ∈ r, w.length ≤ 30) ∧ 2 ≤ r.length ∧ r.length ≤ 5
  noor : ∀ r ∈ rows, ("or" : Str) ∉ r
  wk : ∀ r ∈ rows, ∀ w ∈ r, WK w
theorem TellsL.good {rows : List (List Str)} {xs : List (Int × Int)} (h : TellsL rows xs) : Good rows :=
  ⟨fun r hr => let ⟨_, _, q, a, b, _⟩ := h.all r hr; ⟨q.short a b, q.len⟩, fun r hr => let ⟨_, _, q, _⟩ := h.all r hr; q.noor, fun r hr => let ⟨_, _, q, a, b, _⟩ := h.all r hr; q.wk a b⟩
def WlI (p lq lr ll : Nat) (s : Store) (i : Nat) (env : Sl) (s' : Store) : Prop := ∃ (zs : List Str) (o4 o5 o6 o7 : Option D), env = [some (.loc p), some (.loc lq), some (.loc lr), some (.loc ll), o4, o5, o6, o7, none, none] ∧ s'[ll]? = some (.lst (zs.map D.str)) ∧ (∀ z ∈ zs, LnOk z) ∧ zs.length ≤ 2 * i ∧ Pool p s' ∧ Kp p s s'
theorem getR {A B : List (List Str)} {r : List Str} {rows : List (List Str)} {at_ other : Nat} (ha : at_ < rows.length) (ho : other < rows.length) (hne : ¬ other = at_) (h : other < (rows.take at_ ++ [r] ++ rows.drop (at_ + 1)).length) : (rows.take at_ ++ [r] ++ rows.drop (at_ + 1))[other] ∈ rows := by
  by_cases c : other < at_
  · rw [List.getElem_append_left (by simp; omega), List.getElem_append_left (by simp; omega)]
    exact List.mem_of_mem_take (List.getElem_mem _)
  · rw [List.getElem_append_right (by simp; omega)]
    exact List.mem_of_mem_drop (List.getElem_mem _)
theorem RL.notstr {N : Nat → Prop} {s : Store} {ds : List D} {rs : List (List Str)} (h : RL N s ds rs) (h1 : 1 ≤ rs.length) (zs : List Str) : ds ≠ zs.map D.str := fun e => by
  obtain ⟨l, a, _⟩ := h.at_ (i := 0) (by omega)
  rw [e] at a
  cases zs with
  | nil => cases a
  | cons z zs => cases a
theorem bound3 {A : List (List Str)} {r : List Str} {n : Nat} (hA : ∀ x ∈ A, x.length ≤ 14) (hr : r.length ≤ 14) : ∀ x ∈ (A.take n ++ [r] ++ A.drop (n + 1)), x.length ≤ 14 := fun x hx => by
  rcases List.mem_append.mp hx with hx | hx
  · rcases List.mem_append.mp hx with hx | hx
    · exact hA x (List.mem_of_mem_take hx)
    · rw [List.mem_singleton.mp hx]; exact hr
  · exact hA x (List.mem_of_mem_drop hx)
theorem wl_turn {p lq lr ll : Nat} {s s2 : Store} {rows : List (List Str)} {ls : List D} (hp : Pool p s2) (gd : Good rows) (hn : 1 ≤ rows.length ∧ rows.length ≤ 12) (gr : s[lr]? = some (.lst ls)) (nr : lr ≠ p) (nr2 : lr ≠ ll) (rl : RL (fun l => l ≠ p ∧ l ≠ ll) s ls rows) (nl : ll ≠ p) (hll : s.length ≤ ll) (k2 : ∀ l c, (l ≠ p ∧ l ≠ ll) → s[l]? = some c → s2[l]? = some c) (kS : Kp p s s2) {i : Nat} (hi : i < 4) {zs : List Str} (gl : s2[ll]? = some (.lst (zs.map D.str))) (hz : ∀ z ∈ zs, LnOk z) (hzl : zs.length ≤ 2 * i) (o4 o5 o6 o7 : Option D) :
    Turns (WlI p lq lr ll s (i + 1)) (fun _ => False) (bl_d_law_wrong_lines_1 [some (.loc p), some (.loc lq), some (.loc lr), some (.loc ll), o4, o5, o6, o7, none, none] s2) := by
  obtain ⟨N, hNd⟩ : ∃ N : Nat → Prop, N = fun l => l ≠ p ∧ l ≠ ll := ⟨_, rfl⟩
  have hN : ∀ l, N l → l ≠ p := fun l h => by rw [hNd] at h; exact h.1
  have hN2 : ∀ l, N l → l ≠ ll := fun l h => by rw [hNd] at h; exact h.2
  have hNi : ∀ l, l ≠ p → l ≠ ll → N l := fun l h k => by rw [hNd]; exact ⟨h, k⟩
  have k2' : ∀ l c, N l → s[l]? = some c → s2[l]? = some c := fun l c h g => k2 l c ⟨hN l h, hN2 l h⟩ g
  rw [← hNd] at rl
  clear hNd k2
  have hF : ∀ (s' : Store), s2.length ≤ s'.length → ∀ l, s'.length ≤ l → l ≠ p → N l := fun s' h l hl hp' => hNi l hp' (by have := lt_of_get gl; omega)
  unfold bl_d_law_wrong_lines_1
  have gr2 := k2' lr _ (hNi lr nr nr2) gr
  have rl2 := rl.kp k2'
  have hlen := rl.len
  have ln := dLen_loc gr2
  obtain ⟨a, s3, q3, a0, a1, p3, k3⟩ := often_spec hp (many := (ls.length : Nat)) (by omega) (by omega)
  obtain ⟨an, rfl⟩ := Int.eq_ofNat_of_zero_le a0
  have ha : an < rows.length := by omega
  refine st_set (P := Turns (WlI p lq lr ll s (i + 1)) (fun _ => False)) (d := .int an) (s' := s3) (by simp [ln, q3]) ?_
  simp only [List.set_cons_succ, List.set_cons_zero]
  have rl3 := rl2.kp (kpN hN k3)
  have gr3 := Kp.get k3 gr2 nr
  have hF3 := hF s3 k3.1
  have vv := AX.v (p := p) (env := [some (.loc p), some (.loc lq), some (.loc lr), some (.loc ll), o4, some (.int an), o6, o7, none, none]) hN (i := 2) (l := lr) rfl gr3 nr rl3
  have once := AX.add hN (AX.add hN (AX.take hN vv (hi := oSome (eV 5)) (n := an) (fun rs h => by rw [h]; omega) (fun s => rfl)) (AX.one hN (AQ.spoilt hN hF3 rfl (AQ.ix hN (i := 2) (j := 5) rfl rfl gr3 nr rl3 ha) (fun r h => by subst h; have := gd.short _ (List.getElem_mem ha); exact ⟨this.1, by omega, by omega⟩))) (fun rs ⟨A, hA, e⟩ => by rw [e, List.length_take, hA]; omega) (fun rs ⟨r, e, _⟩ => by rw [e]; simp)) (AX.drop hN vv (lo := oSome (e2 dAdd (eV 5) (eC (.int 1)))) (n := an + 1) (fun rs h => by rw [h]; omega) (fun s => by simp)) (fun rs ⟨A, B, e, ⟨A1, hA1, eA⟩, r, eB, _⟩ => by rw [e, eA, eB, hA1]; simp; omega) (fun rs ⟨A, hA, e⟩ => by rw [e, List.length_drop, hA]; omega)
  obtain ⟨lo, dso, rso, s4, q4, g4, n4, r4, ⟨_, _, rfl, ⟨A1, B1, rfl, ⟨R1, rfl, rfl⟩, rn, rfl, hrn⟩, R2, rfl, rfl⟩, p4, k4⟩ := once s3 p3 (Kp.refl p s3)
  refine st_set (P := Turns (WlI p lq lr ll s (i + 1)) (fun _ => False)) (d := .loc lo) (s' := s4) q4 ?_
  simp only [List.set_cons_succ, List.set_cons_zero]
  have k24 := k3.trans k4
  have bound := bound3 (A := R2) (r := rn) (n := an) (fun r hr => by have := gd.short r hr; omega) hrn
  have lenR : (R2.take an ++ [rn] ++ R2.drop (an + 1)).length = R2.length := by simp; omega
  obtain ⟨on, hon⟩ : ∃ on, on = R2.take an ++ [rn] ++ R2.drop (an + 1) := ⟨_, rfl⟩
  have onget : ∀ (other : Nat) (ho : other < R2.length), ¬ other = an → ∀ (h : other < on.length), on[other] ∈ R2 := fun other ho hne h => by
    subst hon
    exact getR (A := []) (B := []) ha ho hne h
  rw [← hon] at r4 bound lenR
  have cb := cst_le bound
  have vo := AX.v (p := p) (env := [some (.loc p), some (.loc lq), some (.loc lr), some (.loc ll), o4, some (.int an), some (.loc lo), o7, none, none]) hN (i := 6) (l := lo) rfl g4 n4 r4
  obtain ⟨z, _, s5, q5, hz5, _, _, p5, k5⟩ := AX.line hN rfl vo (fun rs h => by rw [h]; omega) p4 (Kp.refl p s4)
  have gl4 := Kp.get k24 gl nl
  have nlo : lo ≠ ll := fun e => by
    subst e
    rw [g4] at gl4
    have := Option.some.inj gl4
    cases this
    exact r4.notstr (by omega) zs rfl
  refine st_expr (P := Turns (WlI p lq lr ll s (i + 1)) (fun _ => False)) (app_eval (i := 3) rfl gl4 nl q5 k5 (by simp; omega)) ?_
  have k25 := k24.trans k5
  have gl5 := get_set (c' := .lst (zs.map D.str ++ [.str z])) (Kp.get k5 gl4 nl)
  have p6 := p5.set nl (.lst (zs.map D.str ++ [.str z]))
  have K6 := Kp.setNew (kS.trans k25) hll (.lst (zs.map D.str ++ [.str z]))
  have keep : ∀ {x : Nat} {cc : Cell}, s5[x]? = some cc → x ≠ ll → (s5.set ll (.lst (zs.map D.str ++ [.str z])))[x]? = some cc := fun h n => by rw [List.getElem?_set_ne n.symm]; exact h
  have len6 : (s5.set ll (.lst (zs.map D.str ++ [.str z]))).length = s5.length := List.length_set
  obtain ⟨s6, hs6⟩ : ∃ s6, s6 = s5.set ll (.lst (zs.map D.str ++ [.str z])) := ⟨_, rfl⟩
  rw [← hs6] at gl5 p6 K6 keep len6 ⊢
  clear hs6
  have gr6 : s6[lr]? = some (.lst ls) := keep (Kp.get (k4.trans k5) gr3 nr) nr2
  have ln6 := dLen_loc gr6
  have zs2 : ∀ y ∈ zs ++ [z], LnOk y := fun y hy => by
    rcases List.mem_append.mp hy with hy | hy
    · exact hz y hy
    · rw [List.mem_singleton.mp hy]; exact hz5
  have gl6 : s6[ll]? = some (.lst ((zs ++ [z]).map D.str)) := by rw [gl5, List.map_append]; rfl
  obtain ⟨b, s7, q7, b0, b1, p7, k7⟩ := often_spec p6 (many := (ls.length : Nat)) (by omega) (by omega)
  obtain ⟨bn, rfl⟩ := Int.eq_ofNat_of_zero_le b0
  refine st_set (P := Turns (WlI p lq lr ll s (i + 1)) (fun _ => False)) (d := .int bn) (s' := s7) (by simp [ln6, q7]) ?_
  simp only [List.set_cons_succ, List.set_cons_zero]
  have gl7 := Kp.get k7 gl6 nl
  by_cases c : bn = an
  · have t : tV (e2 dNe (eV 7) (eV 5)) [some (.loc p), some (.loc lq), some (.loc lr), some (.loc ll), o4, some (.int an), some (.loc lo), some (.int bn), none, none] s7 = .ok false s7 := by simp [c]
    show Turns _ _ ((tV (e2 dNe (eV 7) (eV 5)) [some (.loc p), some (.loc lq), some (.loc lr), some (.loc ll), o4, some (.int an), some (.loc lo), some (.int bn), none, none] s7).then _ fun b s => if b then _ else sNil _ s)
    rw [t]
    exact ⟨zs ++ [z], _, _, _, _, rfl, gl7, zs2, by simp; omega, p7, K6.trans k7⟩
  · have t : tV (e2 dNe (eV 7) (eV 5)) [some (.loc p), some (.loc lq), some (.loc lr), some (.loc ll), o4, some (.int an), some (.loc lo), some (.int bn), none, none] s7 = .ok true s7 := by
      have : ¬ (bn : Int) = an := by omega
      simp [c, this]
    have hb : bn < R2.length := by omega
    have hbo : bn < on.length := by omega
    have g7 := Kp.get k7 (keep (Kp.get k5 g4 n4) nlo) n4
    have r7 := (r4.kp (kpN hN k5)).kp (s' := s6) (fun l c h g => keep g (hN2 l h)) |>.kp (kpN hN k7)
    have hF7 := hF s7 (by have := k25.1; have := k7.1; omega)
    have mem7 := onget bn hb c hbo
    have v7 := AX.v (p := p) (env := [some (.loc p), some (.loc lq), some (.loc lr), some (.loc ll), o4, some (.int an), some (.loc lo), some (.int bn), none, none]) hN (i := 6) (l := lo) rfl g7 n4 r7
    have two := AX.add hN (AX.add hN (AX.take hN v7 (hi := oSome (eV 7)) (n := bn) (fun rs h => by rw [h]; omega) (fun s => rfl)) (AX.one hN (AQ.spoilt hN hF7 rfl (AQ.ad hN hF7 (AQ.ix hN (i := 6) (j := 7) rfl rfl g7 n4 r7 hbo) (fun r h => by subst h; have := gd.short _ mem7; omega)) (fun r h => by
      obtain ⟨r0, rfl, rfl⟩ := h
      have q := gd.short _ mem7
      have lad : ("AD" : Str).length ≤ 30 := by decide +kernel
      refine ⟨fun w hw => ?_, by simp, by simp; omega⟩
      rcases List.mem_append.mp hw with hw | hw
      · exact q.1 w hw
      · rw [List.mem_singleton.mp hw]; exact lad))) (fun rs ⟨A, hA, e⟩ => by rw [e, List.length_take, hA]; omega) (fun rs ⟨r, e, _⟩ => by rw [e]; simp)) (AX.drop hN v7 (lo := oSome (e2 dAdd (eV 7) (eC (.int 1)))) (n := bn + 1) (fun rs h => by rw [h]; omega) (fun s => by simp)) (fun rs ⟨A, B, e, ⟨A1, hA1, eA⟩, r, eB, _⟩ => by rw [e, eA, eB, hA1]; simp; omega) (fun rs ⟨A, hA, e⟩ => by rw [e, List.length_drop, hA]; omega)
    obtain ⟨z8, _, s8, q8, hz8, _, _, p8, k8⟩ := AX.line hN rfl two (fun rs ⟨A, B, e, ⟨A1, B1, eA, ⟨R, hR, eR⟩, r, eB, hr⟩, R', hR', eR'⟩ => by
      subst hR hR' eR eR' eB eA e
      have q := bound3 (n := bn) bound hr
      have := cst_le q
      have l3 : (R'.take bn ++ [r] ++ R'.drop (bn + 1)).length = R'.length := by simp; omega
      exact ⟨by omega, by omega⟩) p7 (Kp.refl p s7)
    have ap := app_eval (p := p) (env := [some (.loc p), some (.loc lq), some (.loc lr), some (.loc ll), o4, some (.int an), some (.loc lo), some (.int bn), none, none]) (i := 3) rfl gl7 nl q8 k8 (by simp; omega)
    show Turns _ _ ((tV (e2 dNe (eV 7) (eV 5)) [some (.loc p), some (.loc lq), some (.loc lr), some (.loc ll), o4, some (.int an), some (.loc lo), some (.int bn), none, none] s7).then _ fun b s => if b then sExpr _ _ s else sNil _ s)
    rw [t]
    show Turns _ _ (Mi.R.then (eMt "list" dAppend (eV 3) (aCons _ aNil) [some (.loc p), some (.loc lq), some (.loc lr), some (.loc ll), o4, some (.int an), some (.loc lo), some (.int bn), none, none] s7) _ fun _ s => .nx _ s)
    rw [ap]
    refine ⟨zs ++ [z] ++ [z8], _, _, _, _, rfl, by rw [get_set (Kp.get k8 gl7 nl), List.map_append (l₁ := zs ++ [z])]; rfl, fun y hy => ?_, by simp; omega, p8.set nl _, Kp.setNew ((K6.trans k7).trans k8) hll _⟩
    rcases List.mem_append.mp hy with hy | hy
    · exact zs2 y hy
    · rw [List.mem_singleton.mp hy]; exact hz8
end Law
namespace Law
open PySem Mi
def wrongs : List Str := ["", " ", "or", "never or never", "never never", "Never", "never or 1 AD", "1 AD or never"]
theorem wrong_bad : ∀ z ∈ wrongs, isBad (verd (words z)) = true := by decide +kernel
theorem wrong_ok : ∀ z ∈ wrongs, (decide (z.length ≤ 100) && (tl z).all fun c => decide (c < 1000)) = true := by decide +kernel
def OutW (p : Nat) (s : Store) (r : RS) : Prop := ∃ (ll : Nat) (zs0 : List Str) (w1 w2 w3 : Str) (s' : Store), r = .rt (.loc ll) s' ∧ s'[ll]? = some (.lst ((zs0 ++ [w1] ++ [w2] ++ [w3]).map D.str)) ∧ (∀ z ∈ zs0 ++ [w1] ++ [w2] ++ [w3], LnOk z) ∧ Bad w1 ∧ Bad w2 ∧ Bad w3 ∧ zs0.length ≤ 20 ∧ Pool p s' ∧ Kp p s s' ∧ ll ≠ p
theorem wl_spec {p lq : Nat} {s : Store} (h : Pool p s) {fs : List (Int × Int)} (g : s[lq]? = some (.lst (fs.map pr))) (nq : lq ≠ p) (hd : DOk fs) (hne : fs ≠ []) : ∃ (ll : Nat) (zs0 : List Str) (w1 w2 w3 : Str) (s' : Store), m_d_law_wrong_lines [.loc p, .loc lq] s = .ok (.loc ll) s' ∧ s'[ll]? = some (.lst ((zs0 ++ [w1] ++ [w2] ++ [w3]).map D.str)) ∧ (∀ z ∈ zs0 ++ [w1] ++ [w2] ++ [w3], LnOk z) ∧ Bad w1 ∧ Bad w2 ∧ Bad w3 ∧ zs0.length ≤ 20 ∧ Pool p s' ∧ Kp p s s' ∧ ll ≠ p := by
  suffices hh : OutW p s (b_d_law_wrong_lines [some (.loc p), some (.loc lq), none, none, none, none, none, none, none, none] s) by
    obtain ⟨ll, zs0, w1, w2, w3, s', q, r⟩ := hh
    refine ⟨ll, zs0, w1, w2, w3, s', ?_, r⟩
    show fnM 10 2 b_d_law_wrong_lines [.loc p, .loc lq] s = _
    rw [fnM_eq]
    show (match b_d_law_wrong_lines [some (.loc p), some (.loc lq), none, none, none, none, none, none, none, none] s with | .rt d s => Mi.R.ok d s | .nx _ s => .ok .non s | .ex e _ s => .ex e s | _ => .no) = _
    rw [q]
  unfold b_d_law_wrong_lines
  have hlen := hd.len
  have hpos : 1 ≤ fs.length := by cases fs with | nil => exact absurd rfl hne | cons a b => simp
  obtain ⟨ls, rows, s1, q1, aL, tL, nls, p1, k1⟩ := rows_lc h (gd := fun s2 => s2[lq]? = some (Cell.lst (fs.map pr))) (fun s' k => Kp.get k g nq) (g := gN 9) (e := le_d_law_wrong_lines_2) (env := [some (.loc p), some (.loc lq), none, none, none, none, none, none, none, none]) hd.pv (by omega) (fun x s' => by simp [le_d_law_wrong_lines_2, pick, pr])
  have lt1 := p1.lt
  have gdR := tL.good
  have hrn : rows.length = fs.length := tL.len
  have hlr : ls.length = rows.length := aL.len
  have ne1 : s1.length ≠ p := Nat.ne_of_gt lt1
  have x2 := Ext.mk s1 [Cell.lst (ls.map D.loc)]
  have g2 := get_new s1 (.lst (ls.map D.loc))
  refine st_set (P := OutW p s) (d := .loc s1.length) (s' := s1 ++ [.lst (ls.map D.loc)]) (by
    generalize fs.map pr = FS at *
    generalize ls.map D.loc = LS at *
    simp [g, q1]) ?_
  simp only [List.set_cons_succ, List.set_cons_zero]
  obtain ⟨s2, hs2⟩ : ∃ s2, s2 = s1 ++ [Cell.lst (ls.map D.loc)] := ⟨_, rfl⟩
  have len2 : s2.length = s1.length + 1 := by rw [hs2]; simp
  rw [← hs2] at x2 g2 ⊢
  have g3 := get_new s2 (.lst [])
  have x3 := Ext.mk s2 [Cell.lst []]
  refine st_set (P := OutW p s) (d := .loc s2.length) (s' := s2 ++ [.lst []]) (by simp) ?_
  simp only [List.set_cons_succ, List.set_cons_zero]
  obtain ⟨s3, hs3⟩ : ∃ s3, s3 = s2 ++ [Cell.lst []] := ⟨_, rfl⟩
  rw [← hs3] at x3 g3 ⊢
  have p2 := p1.ext x2
  have p3 := p2.ext x3
  have nl : s2.length ≠ p := Nat.ne_of_gt p2.lt
  have kS := (k1.trans (Kp.ext x2))
  obtain ⟨N, hNd⟩ : ∃ N : Nat → Prop, N = fun l => l ≠ p ∧ l ≠ s2.length := ⟨_, rfl⟩
  have aL2 := AtL.ext x2 aL
  have rl2 : RL (fun l => l ≠ p ∧ l ≠ s2.length) s2 (ls.map D.loc) rows := aL2.rl (fun l hl => ⟨nls l hl, Nat.ne_of_lt (aL2.lt l hl)⟩) gdR.wk
  have nr2 : s1.length ≠ s2.length := by omega
  have er := rangeOf_int s3 (4 : Int) (by omega) (by omega)
  have er' : rangeOf [.int 4] s3 = .ok (Itm.mk (rng 4) always) s3 := er
  obtain ⟨env', s4, e4, zs, o4, o5, o6, o7, rfl, gl, hz, hzl, p4, k4⟩ := forL_atT (gd := always) (g := gN 4) (b := bl_d_law_wrong_lines_1) (rng 4) (WlI p lq s1.length s2.length s2) (fun _ _ _ _ => trivial)
    (env := [some (.loc p), some (.loc lq), some (.loc s1.length), some (.loc s2.length), none, none, none, none, none, none]) (s := s3) (fun i x env s5 hx ⟨zs, o4, o5, o6, o7, he, gl, hz, hzl, p5, k5⟩ => by
      subst he
      obtain ⟨hi, rfl⟩ := rng_get hx
      exact wl_turn (lq := lq) p5 gdR ⟨by omega, by omega⟩ g2 ne1 nr2 rl2 nl (Nat.le_refl _) (fun l c h g => Kp.get k5 g h.1) k5 hi gl hz hzl (some (.int (i : Nat))) o5 o6 o7) ⟨[], none, none, none, none, rfl, g3, by simp, by simp, p3, Kp.ext x3⟩
  rw [rng_len] at hzl
  refine st_for (P := OutW p s) (x := Itm.mk (rng 4) always) (s' := s3) (by simp [er']) e4 ?_
  -- one of the fixed lines
  obtain ⟨j, s5, d, q5, hd5, w5, p5, k5⟩ := drawn p4 (L := wrongs.map D.str) (n := 8) rfl (by omega) (by omega)
  obtain ⟨w1, hw1, rfl⟩ := List.mem_map.mp hd5
  have b1 := bad_of (wrong_bad w1 hw1)
  have o1 : LnOk w1 := by
    have := wrong_ok w1 hw1
    rw [Bool.and_eq_true] at this
    exact ⟨by have := of_decide_eq_true this.1; omega, fun c hc => by simpa using List.all_eq_true.mp this.2 c hc⟩
  have x5 := Ext.mk s4 [Cell.lst (wrongs.map D.str)]
  simp only [wrongs, List.map_cons, List.map_nil] at q5 x5
  obtain ⟨l8, hl8⟩ : ∃ l8, l8 = s4.length := ⟨_, rfl⟩
  rw [← hl8] at w5
  obtain ⟨s45, hs45⟩ : ∃ s45, s45 = s4 ++ [Cell.lst [.str "", .str " ", .str "or", .str "never or never", .str "never never", .str "Never", .str "never or 1 AD", .str "1 AD or never"]] := ⟨_, rfl⟩
  rw [← hs45] at q5 x5
  refine st_set (P := OutW p s) (d := .loc l8) (s' := s45) (by simp [hs45, hl8]) ?_
  simp only [List.set_cons_succ, List.set_cons_zero]
  have k45 : Kp p s45 s5 := by
    obtain ⟨j', s5', q5', _, _, p5', k5'⟩ := draw_spec (p4.ext x5) (many := 8) (by omega) (by omega)
    have e : m_d_law_draw [.loc p, .int 8] s45 = .ok (.int j) s5 := by simpa using q5
    rw [e] at q5'
    cases q5'
    exact k5'
  have e8 : e2 dIx (eV 8) (eCall m_d_law_draw (aCons (eV 0) (aCons (eC (.int 8)) (aNil)))) [some (.loc p), some (.loc lq), some (.loc s1.length), some (.loc s2.length), o4, o5, o6, o7, some (.loc l8), none] s45 = .ok (.str w1) s5 := by
    have q5' : m_d_law_draw [.loc p, .int 8] s45 = .ok (.int j) s5 := by simpa using q5
    simp [q5', w5]
  have gl45 := x5.get gl
  refine st_expr (P := OutW p s) (app_eval (p := p) (i := 3) rfl gl45 nl e8 k45 (by simp; omega)) ?_
  have gl5 := get_set (c' := .lst (zs.map D.str ++ [.str w1])) (Kp.get k45 gl45 nl)
  have p6 := p5.set nl (.lst (zs.map D.str ++ [.str w1]))
  have K6 := Kp.setNew (k4.trans ((Kp.ext x5).trans k45)) (Nat.le_refl _) (.lst (zs.map D.str ++ [.str w1]))
  obtain ⟨s6, hs6⟩ : ∃ s6, s6 = s5.set s2.length (.lst (zs.map D.str ++ [.str w1])) := ⟨_, rfl⟩
  rw [← hs6] at gl5 p6 K6 ⊢
  clear hs6
  have gl6 : s6[s2.length]? = some (.lst ((zs ++ [w1]).map D.str)) := by rw [gl5, List.map_append]; rfl
  -- an empty stretch
  have gr6 := Kp.get K6 g2 ne1
  have ln6 := dLen_loc gr6
  rw [List.length_map] at ln6
  obtain ⟨b, s7, q7, b0, b1', p7, k7⟩ := often_spec p6 (many := (ls.length : Nat) + 1) (by omega) (by omega)
  obtain ⟨bn, rfl⟩ := Int.eq_ofNat_of_zero_le b0
  have hb : bn ≤ rows.length := by omega
  refine st_set (P := OutW p s) (d := .int bn) (s' := s7) (by
    generalize ls.map D.loc = LS at *
    simp [ln6, q7]) ?_
  simp only [List.set_cons_succ, List.set_cons_zero]
  have gl7 := Kp.get k7 gl6 nl
  have gr7 := Kp.get k7 gr6 ne1
  have hN : ∀ l, (l ≠ p ∧ l ≠ s2.length) → l ≠ p := fun l h => h.1
  have rl7 := rl2.kp (fun l c h g => Kp.get (K6.trans k7) g h.1)
  have l27 := (K6.trans k7).1
  have ltll := lt_of_get gl7
  have hF7 : ∀ l, s7.length ≤ l → l ≠ p → (l ≠ p ∧ l ≠ s2.length) := fun l h k => ⟨k, by omega⟩
  have vv := AX.v (p := p) (env := [some (.loc p), some (.loc lq), some (.loc s1.length), some (.loc s2.length), o4, some (.int bn), o6, o7, some (.loc l8), none]) hN (i := 2) (l := s1.length) rfl gr7 ne1 rl7
  have mid : ∀ {e : ME D} {r : List Str}, AQ p (fun l => l ≠ p ∧ l ≠ s2.length) e [some (.loc p), some (.loc lq), some (.loc s1.length), some (.loc s2.length), o4, some (.int bn), o6, o7, some (.loc l8), none] s7 (· = r) → _ := fun {e r} h => AX.add hN (AX.add hN (AX.take hN vv (hi := oSome (eV 5)) (n := bn) (fun rs h => by rw [h]; exact hb) (fun s => rfl)) (AX.one hN h) (fun rs ⟨A, hA, e⟩ => by rw [e, List.length_take, hA]; omega) (fun rs ⟨r, e, _⟩ => by rw [e]; simp)) (AX.drop hN vv (lo := oSome (eV 5)) (n := bn) (fun rs h => by rw [h]; exact hb) (fun s => rfl)) (fun rs ⟨A, B, e, ⟨A1, hA1, eA⟩, r, eB, _⟩ => by rw [e, eA, eB, hA1]; simp; omega) (fun rs ⟨A, hA, e⟩ => by rw [e, List.length_drop, hA]; omega)
  have shape : ∀ {r : List Str}, r.length ≤ 14 → cst (rows.take bn ++ [r] ++ rows.drop bn) ≤ 90000 ∧ (rows.take bn ++ [r] ++ rows.drop bn).length ≤ 1000 := fun {r} hr => by
    have l3 : (rows.take bn ++ [r] ++ rows.drop bn).length = rows.length + 1 := by simp; omega
    have := cst_le (rs := rows.take bn ++ [r] ++ rows.drop bn) fun x hx => by
      rcases List.mem_append.mp hx with hx | hx
      · rcases List.mem_append.mp hx with hx | hx
        · have := gdR.short x (List.mem_of_mem_take hx); omega
        · rw [List.mem_singleton.mp hx]; exact hr
      · have := gdR.short x (List.mem_of_mem_drop hx); omega
    exact ⟨by omega, by omega⟩
  have isbad : ∀ {r : List Str} {w z : Str}, ("or" : Str) ∉ r → sd r = .bad w → words z = jw (rows.take bn ++ [r] ++ rows.drop bn) → Bad z := fun {r w z} h1 h2 hz => by
    have h0 : rows[0]'(by omega) ∈ rows.take bn ++ [r] ++ rows.drop bn := by
      have : rows[0]'(by omega) ∈ rows.take bn ++ rows.drop bn := by rw [List.take_append_drop]; exact List.getElem_mem _
      rcases List.mem_append.mp this with q | q
      · exact List.mem_append.mpr (.inl (List.mem_append.mpr (.inl q)))
      · exact List.mem_append.mpr (.inr q)
    refine bad_rows hz (fun x hx => ?_) (r := r) (List.mem_append.mpr (.inl (List.mem_append.mpr (.inr (by simp))))) h2 h0 (gdR.short _ (List.getElem_mem _)).2.1
    rcases List.mem_append.mp hx with hx | hx
    · rcases List.mem_append.mp hx with hx | hx
      · exact gdR.noor x (List.mem_of_mem_take hx)
      · rw [List.mem_singleton.mp hx]; exact h1
    · exact gdR.noor x (List.mem_of_mem_drop hx)
  have m1 := mid (AQ.lit (as := aNil) (ws := []) hF7 (fun s => rfl) (by simp) (by simp))
  obtain ⟨w2, r2, s8, q8, o2, ⟨A, B, e, ⟨A1, B1, eA, ⟨R, hR, eR⟩, r, eB, hr⟩, R', hR', eR'⟩, wz2, p8, k8⟩ := AX.line hN rfl m1 (fun rs ⟨A, B, e, ⟨A1, B1, eA, ⟨R, hR, eR⟩, r, eB, hr⟩, R', hR', eR'⟩ => by
      subst hR eR eA eR' eB hr e
      rw [hR']
      exact shape (by simp)) p7 (Kp.refl p s7)
  rw [hR] at eR
  rw [hR'] at eR'
  rw [hr] at eB
  rw [e, eA, eR, eB, eR'] at wz2
  have b2 := isbad (w := "words") (by simp) rfl wz2
  refine st_expr (P := OutW p s) (app_eval (p := p) (i := 3) rfl gl7 nl q8 k8 (by simp; omega)) ?_
  have gl8 := get_set (c' := .lst ((zs ++ [w1]).map D.str ++ [.str w2])) (Kp.get k8 gl7 nl)
  have p9 := p8.set nl (.lst ((zs ++ [w1]).map D.str ++ [.str w2]))
  have K9 := Kp.setNew ((K6.trans k7).trans k8) (Nat.le_refl _) (.lst ((zs ++ [w1]).map D.str ++ [.str w2]))
  obtain ⟨s9, hs9⟩ : ∃ s9, s9 = s8.set s2.length (.lst ((zs ++ [w1]).map D.str ++ [.str w2])) := ⟨_, rfl⟩
  have l89 : s9.length = s8.length := by rw [hs9]; exact List.length_set
  rw [← hs9] at gl8 p9 K9 ⊢
  clear hs9 hr hR hR' e eA eR eB eR'
  have gl9 : s9[s2.length]? = some (.lst ((zs ++ [w1] ++ [w2]).map D.str)) := by rw [gl8, List.map_append (l₁ := zs ++ [w1])]; rfl
  -- a stretch whose second year is below its first
  have gr9 := Kp.get K9 g2 ne1
  have rl9 := rl2.kp (fun l c h g => Kp.get K9 g h.1)
  have hF9 : ∀ l, s9.length ≤ l → l ≠ p → (l ≠ p ∧ l ≠ s2.length) := fun l h k => ⟨k, by have := k8.1; omega⟩
  have vv9 := AX.v (p := p) (env := [some (.loc p), some (.loc lq), some (.loc s1.length), some (.loc s2.length), o4, some (.int bn), o6, o7, some (.loc l8), none]) hN (i := 2) (l := s1.length) rfl gr9 ne1 rl9
  have m2 := AX.add hN (AX.add hN (AX.take hN vv9 (hi := oSome (eV 5)) (n := bn) (fun rs h => by rw [h]; exact hb) (fun s => rfl)) (AX.one hN (AQ.lit (as := aCons (eC (.str "5")) (aCons (eC (.str "AD")) (aCons (eC (.str "to")) (aCons (eC (.str "4")) (aCons (eC (.str "AD")) (aNil)))))) (ws := ["5", "AD", "to", "4", "AD"]) hF9 (fun s => rfl) (fun w hw => by
    simp only [List.mem_cons, List.mem_nil_iff, or_false] at hw
    rcases hw with rfl | rfl | rfl | rfl | rfl <;> exact wk_lit (by decide +kernel)) (by simp))) (fun rs ⟨A, hA, e⟩ => by rw [e, List.length_take, hA]; omega) (fun rs ⟨r, e, _⟩ => by rw [e]; simp)) (AX.drop hN vv9 (lo := oSome (eV 5)) (n := bn) (fun rs h => by rw [h]; exact hb) (fun s => rfl)) (fun rs ⟨A, B, e, ⟨A1, hA1, eA⟩, r, eB, _⟩ => by rw [e, eA, eB, hA1]; simp; omega) (fun rs ⟨A, hA, e⟩ => by rw [e, List.length_drop, hA]; omega)
  obtain ⟨w3, r3, s10, q10, o3, ⟨A, B, e, ⟨A1, B1, eA, ⟨R, hR, eR⟩, r, eB, hr⟩, R', hR', eR'⟩, wz3, p10, k10⟩ := AX.line hN rfl m2 (fun rs ⟨A, B, e, ⟨A1, B1, eA, ⟨R, hR, eR⟩, r, eB, hr⟩, R', hR', eR'⟩ => by
      subst hR eR eA eR' eB hr e
      rw [hR']
      exact shape (by simp)) p9 (Kp.refl p s9)
  rw [hR] at eR
  rw [hR'] at eR'
  rw [hr] at eB
  rw [e, eA, eR, eB, eR'] at wz3
  have sd54 : sd [("5" : Str), "AD", "to", "4", "AD"] = .bad "order" := by
    show (if ("to" : Str) = "to" then sd5 "5" "AD" "4" "AD" else .bad "words") = _
    rw [if_pos rfl]
    have d5 : due2 "5" "AD" = .good 5 := by
      unfold due2
      rw [if_neg (by decide +kernel), if_neg (by decide +kernel), if_neg (by decide +kernel), if_neg (by decide +kernel), if_neg (by decide +kernel)]
      exact congrArg Due.good (by decide +kernel)
    have d4 : due2 "4" "AD" = .good 4 := by
      unfold due2
      rw [if_neg (by decide +kernel), if_neg (by decide +kernel), if_neg (by decide +kernel), if_neg (by decide +kernel), if_neg (by decide +kernel)]
      exact congrArg Due.good (by decide +kernel)
    unfold sd5
    rw [d5, d4]
    rfl
  have b3 := isbad (by decide +kernel) sd54 wz3
  refine st_expr (P := OutW p s) (app_eval (p := p) (i := 3) rfl gl9 nl q10 k10 (by simp; omega)) ?_
  have gl10 := get_set (c' := .lst ((zs ++ [w1] ++ [w2]).map D.str ++ [.str w3])) (Kp.get k10 gl9 nl)
  refine st_ret (P := OutW p s) (d := .loc s2.length) (s' := _) rfl ⟨s2.length, zs, w1, w2, w3, _, rfl, by rw [gl10, List.map_append (l₁ := zs ++ [w1] ++ [w2])]; rfl, fun y hy => ?_, ⟨_, b1.choose_spec⟩, b2, b3, by omega, p10.set nl _, kS.trans (Kp.setNew (K9.trans k10) (Nat.le_refl _) _), nl⟩
  rcases List.mem_append.mp hy with hy | hy
  · rcases List.mem_append.mp hy with hy | hy
    · rcases List.mem_append.mp hy with hy | hy
      · exact hz y hy
      · rw [List.mem_singleton.mp hy]; exact o1
    · rw [List.mem_singleton.mp hy]; exact o2
  · rw [List.mem_singleton.mp hy]; exact o3
end Law
namespace Law
open PySem Mi
/-! ### the law's loops -/
theorem turn4_spec {fs : List (Int × Int)} (hd : DOk fs) (s : Store) (a0 a1 a2 a3 a4 a5 a6 a7 a8 : Option D) : ∃ s' a4', turn (gN 3) bl_law_4 (.tup (fs.map pr)) [a0, a1, a2, a3, a4, a5, a6, a7, a8] s = .nx [a0, a1, a2, some (.tup (fs.map pr)), a4', a5, a6, a7, a8] s' ∧ Ext s s' := by
  obtain ⟨ht, hl⟩ := dtx_ok hd
  obtain ⟨s1, e1, x1⟩ := dtext hd s
  obtain ⟨s2, e2, x2⟩ := ltext hd s1
  obtain ⟨s3, e3, x3⟩ := ltext hd s2
  obtain ⟨s4, e4, x4⟩ := right_spec (t := dtx fs) (by omega) ht s3
  obtain ⟨s5, e5, x5⟩ := ltext hd s4
  obtain ⟨s6, x6, q⟩ := rdates_spec (t := dtx fs) (by omega) ht s5
  rw [verd_dtx hd] at q
  obtain ⟨gs, hn, hgl, e6⟩ := q
  rw [norm_self hd hn] at e6
  have e7 := same_tup fs (by have := hd.len; omega) s6
  generalize dtx fs = z at *
  generalize fs.map pr = FS at *
  exact ⟨s6, some (.str z), by simp [turn, bl_law_4, e1, dIsi, e2, e3, e4, e5, e6, e7], ((((x1.trans x2).trans x3).trans x4).trans x5).trans x6⟩
def bz (z : Str) : Int := match verd (words z) with
  | .bad _ => 1
  | .good _ => 0
theorem turn1_spec {z : Str} (hz : LnOk z) (r : Int) (s : Store) (a0 a1 a2 a3 a4 a5 a7 a8 : Option D) : ∃ s', turn (gN 7) bl_law_1 (.str z) [a0, a1, a2, a3, a4, a5, some (.int r), a7, a8] s = .nx [a0, a1, a2, a3, a4, a5, some (.int (r + bz z)), some (.str z), a8] s' ∧ Ext s s' := by
  obtain ⟨s1, e1, x1⟩ := right_spec hz.len hz.tok s
  obtain ⟨l, s2, e2, x2, g2⟩ := ldue_spec hz.len s1
  have a : dIx (.loc l) (.int 0) s2 = some (.int (bz z), s2) := by
    unfold bz
    cases q : verd (words z) with
    | bad w => rw [q] at g2; rw [dIx_loc g2]; simp
    | good L => rw [q] at g2; obtain ⟨fs, _, g2⟩ := g2; rw [dIx_loc g2]; simp
  exact ⟨s2, by simp [turn, bl_law_1, e1, e2, a], x1.trans x2⟩
theorem sum_loop {l : Nat} {zs : List Str} {s : Store} (g : s[l]? = some (.lst (zs.map D.str))) (hz : ∀ z ∈ zs, LnOk z) (r : Int) (a0 a1 a2 a3 a4 a5 a7 a8 : Option D) :
    ∃ (s' : Store) (a7' : Option D), forL (fun s2 => s2[l]? = some (Cell.lst (zs.map D.str))) (gN 7) bl_law_1 (zs.map D.str) [a0, a1, a2, a3, a4, a5, some (.int r), a7, a8] s = .nx [a0, a1, a2, a3, a4, a5, some (.int (zs.foldl (fun r z => r + bz z) r)), a7', a8] s' ∧ Ext s s' := by
  obtain ⟨env', s', e, r', a7', rfl, x, hr⟩ := forL_atT (gd := fun s2 => s2[l]? = some (Cell.lst (zs.map D.str))) (g := gN 7) (b := bl_law_1) (zs.map D.str)
    (fun i env s' => ∃ (r' : Int) (a7' : Option D), env = [a0, a1, a2, a3, a4, a5, some (.int r'), a7', a8] ∧ Ext s s' ∧ r' = (zs.take i).foldl (fun r z => r + bz z) r) (fun _ _ _ ⟨_, _, _, x, _⟩ => x.get g)
    (env := [a0, a1, a2, a3, a4, a5, some (.int r), a7, a8]) (s := s) (fun i d env s1 hd ⟨r', a7', he, x, hr⟩ => by
      subst he
      obtain ⟨z, hzi, rfl⟩ := map_get hd
      obtain ⟨s2, e2, x2⟩ := turn1_spec (hz z (List.mem_of_getElem? hzi)) r' s1 a0 a1 a2 a3 a4 a5 a7' a8
      rw [e2]
      refine ⟨_, _, rfl, x.trans x2, ?_⟩
      rw [List.take_succ, hzi, List.foldl_append, ← hr]
      rfl) ⟨r, a7, rfl, Ext.refl s, rfl⟩
  rw [List.length_map, List.take_of_length_le (Nat.le_refl _)] at hr
  subst hr
  exact ⟨s', a7', e, x⟩
theorem bz_nonneg (z : Str) : 0 ≤ bz z := by unfold bz; cases verd (words z) <;> simp
theorem bz_bad {z : Str} (h : Bad z) : bz z = 1 := by obtain ⟨w, e⟩ := h; unfold bz; rw [e]
theorem fold_ge : ∀ (zs : List Str) (r : Int), r ≤ zs.foldl (fun r z => r + bz z) r
  | [], r => Int.le_refl _
  | z :: zs, r => by
    have a := bz_nonneg z
    have b := fold_ge zs (r + bz z)
    rw [List.foldl_cons]
    omega
theorem cst_le5 : ∀ {rs : List (List Str)}, (∀ r ∈ rs, r.length ≤ 5) → cst rs ≤ 230 * rs.length
  | [], _ => by simp [cst]
  | r :: rs, h => by
    have a := h r (by simp)
    have b := cst_le5 (rs := rs) fun x hx => h x (by simp [hx])
    simp only [cst, List.map_cons, List.sum_cons, List.length_cons] at b ⊢
    omega
/-- a line of the rows of pairs -/
theorem pairs_line {p l : Nat} {s : Store} (h : Pool p s) {ys : List (Int × Int)} (g : s[l]? = some (.lst (ys.map pr))) (nl : l ≠ p) (hv : ∀ x ∈ ys, Pv x) (hl : ys.length ≤ 200) {e : ME D} {env : Sl} (he : ∀ x s', pick (gN 8) tT e (pr x) env s' = (m_d_law_stretch_words [.loc p, pr x] s').bind fun y s => .ok (some y) s) :
    ∃ (ls : List D) (s1 : Store) (z : Str) (rows : List (List Str)) (s2 : Store), lcL (fun s2 => s2[l]? = some (Cell.lst (ys.map pr))) (gN 8) tT e env (ys.map pr) [] s = .ok ls s1 ∧ m_d_law_line [.loc p, .loc s1.length] (s1 ++ [.lst ls]) = .ok (.str z) s2 ∧ LnOk z ∧ words z = jw rows ∧ TellsL rows ys ∧ Pool p s2 ∧ Kp p s s2 := by
  obtain ⟨ls, rows, s1, q1, aL, tL, nls, p1, k1⟩ := rows_lc h (gd := fun s2 => s2[l]? = some (Cell.lst (ys.map pr))) (fun s' k => Kp.get k g nl) (g := gN 8) (e := e) (env := env) hv (by omega) he
  have gd := tL.good
  have hr := tL.len
  have x1 := Ext.mk s1 [Cell.lst (ls.map D.loc)]
  have cb := cst_le5 fun r hr => (gd.short r hr).2.2
  obtain ⟨z, s2, q2, wz, lz, tz, p2, k2⟩ := line_spec (p1.ext x1) (lr := s1.length) (rows := rows) ⟨⟨ls, get_new _ _, AtL.ext x1 aL, nls⟩, Nat.ne_of_gt p1.lt, gd.wk, by omega⟩ (by omega)
  exact ⟨ls.map D.loc, s1, z, rows, s2, q1, q2, ⟨lz, tz⟩, wz, tL, p2, (k1.trans (Kp.ext x1)).trans k2⟩
theorem law_true (ns : List Int) (hn : ns.length ≤ 63) : ∃ s, m_law [.fl (ns.map D.int)] [] = .ok (.bl true) s := by
  refine Yes.fn (N := 9) (n := 1) (b := b_law) ?_
  show Yes (b_law [some (.fl (ns.map D.int)), none, none, none, none, none, none, none, none] [])
  obtain ⟨p, s0, e0, p0⟩ := pool_spec ns hn
  unfold b_law
  generalize D.fl (ns.map D.int) = v0 at *
  refine st_set (d := .loc p) (s' := s0) (by simp [e0]) ?_
  simp only [List.set_cons_succ, List.set_cons_zero]
  obtain ⟨v, s1, e1, v0', v1, p1, k1⟩ := often_spec p0 (many := 12) (by omega) (by omega)
  obtain ⟨vn, rfl⟩ := Int.eq_ofNat_of_zero_le v0'
  obtain ⟨fs, s2, e2, hd, hfl, p2, k2⟩ := dates_spec p1 (n := 1 + vn) (by omega)
  have c1 : ((1 + vn : Nat) : Int) = 1 + (vn : Int) := by omega
  rw [c1] at e2
  have hne : fs ≠ [] := fun e => by rw [e] at hfl; simp at hfl; omega
  refine st_set (d := .tup (fs.map pr)) (s' := s2) (by
    generalize fs.map pr = FS at *
    simp [e1, e2]) ?_
  simp only [List.set_cons_succ, List.set_cons_zero]
  obtain ⟨w, s3, e3, w0, w1, p3, k3⟩ := often_spec p2 (many := 4) (by omega) (by omega)
  obtain ⟨wn, rfl⟩ := Int.eq_ofNat_of_zero_le w0
  obtain ⟨gs, s4, e4, hd2, _, p4, k4⟩ := dates_spec p3 (n := wn) (by omega)
  have d0 : DOk [] := ⟨⟨0, Asc.nil 0⟩, by simp, by simp⟩
  obtain ⟨L, hL⟩ : ∃ L, L = [D.tup (fs.map pr), .tup (gs.map pr), .tup []] := ⟨_, rfl⟩
  have hLd : ∀ d ∈ L, ∃ fs, DOk fs ∧ d = .tup (fs.map pr) := fun d h => by
    rw [hL] at h
    simp only [List.mem_cons, List.mem_nil_iff, or_false] at h
    rcases h with rfl | rfl | rfl
    · exact ⟨fs, hd, rfl⟩
    · exact ⟨gs, hd2, rfl⟩
    · exact ⟨[], d0, rfl⟩
  have x5 := Ext.mk s4 [Cell.lst L]
  have g5 := get_new s4 (.lst L)
  obtain ⟨env', s6, e6, o3, o4, rfl, x6⟩ := forL_atT (gd := fun s2 => s2[s4.length]? = some (Cell.lst L)) (g := gN 3) (b := bl_law_4) L
    (fun i env s' => ∃ (o3 o4 : Option D), env = [some v0, some (.loc p), some (.tup (fs.map pr)), o3, o4, none, none, none, none] ∧ Ext (s4 ++ [.lst L]) s') (fun _ _ _ ⟨_, _, _, x⟩ => x.get g5)
    (env := [some v0, some (.loc p), some (.tup (fs.map pr)), none, none, none, none, none, none]) (s := s4 ++ [.lst L]) (fun i d env s' hdd ⟨o3, o4, he, x⟩ => by
      subst he
      obtain ⟨hs, hdk, rfl⟩ := hLd d (List.mem_of_getElem? hdd)
      obtain ⟨s7, a4', e7, x7⟩ := turn4_spec hdk s' (some v0) (some (.loc p)) (some (.tup (fs.map pr))) o3 o4 none none none none
      rw [e7]
      exact ⟨_, _, rfl, x.trans x7⟩) ⟨none, none, rfl, Ext.refl _⟩
  refine st_for (x := Itm.mk L (fun s2 => s2[s4.length]? = some (.lst L))) (s' := s4 ++ [.lst L]) (by
    have hLt : L = [D.tup (fs.map pr), .tup (gs.map pr), .tup []] := hL
    have hLl : L.length ≤ 16777216 := by rw [hL]; simp
    generalize fs.map pr = FS at *
    generalize gs.map pr = GS at *
    simp [e3, e4, ← hLt, hLl, g5]) e6 ?_
  have p6 := p4.ext (x5.trans x6)
  -- the first line
  obtain ⟨k, ys, s7, e7, g7, hpv, hmem, hyne, hyl, p7, k7, nk⟩ := more_spec p6 hd hne
  obtain ⟨ls, s8, first, rows, s9, e8, e9, lf, wf, tf, p9, k9⟩ := pairs_line p7 g7 nk hpv (by omega) (e := le_law_3) (env := [some v0, some (.loc p), some (.tup (fs.map pr)), o3, o4, none, none, none, none]) (fun x s' => by simp [le_law_3, pick, pr])
  have hrne : rows ≠ [] := fun e => hyne (by
    have := tf.len
    rw [e] at this
    exact List.eq_nil_of_length_eq_zero this.symm)
  have vf := tf.verd hrne
  rw [← wf] at vf
  refine st_set (d := .str first) (s' := s9) (by
    generalize fs.map pr = FS at *
    generalize ys.map pr = YS at *
    simp [e7, g7, e8, e9]) ?_
  simp only [List.set_cons_succ, List.set_cons_zero]
  obtain ⟨s10, e10, x10⟩ := right_spec lf.len lf.tok s9
  obtain ⟨s11, x11, q⟩ := rdates_spec lf.len lf.tok s10
  rw [vf] at q
  obtain ⟨hs, hn', _, e11⟩ := q
  have hsf : hs = fs := norm_self hd ⟨hn'.1, fun y => (hn'.2 y).trans (hmem y)⟩
  rw [hsf] at e11
  have e12 := same_tup fs (by have := hd.len; omega) s11
  refine st_no (s' := s11) (by
    generalize fs.map pr = FS at *
    simp [e10, e11, e12]) ?_
  have p11 := (p9.ext x10).ext x11
  -- a line of drawn stretches
  obtain ⟨k2', zs, s12, e12', g12, hpv2, hzl, _, p12, k12, nk2⟩ := free_spec p11
  obtain ⟨ls2, s13, z2, rows2, s14, e13, e14, lf2, _, _, p14, k14⟩ := pairs_line p12 g12 nk2 hpv2 (by omega) (e := le_law_2) (env := [some v0, some (.loc p), some (.tup (fs.map pr)), o3, o4, some (.str first), none, none, none]) (fun x s' => by simp [le_law_2, pick, pr])
  obtain ⟨s15, e15, x15⟩ := right_spec lf2.len lf2.tok s14
  refine st_no (s' := s15) (by
    generalize fs.map pr = FS at *
    generalize zs.map pr = ZS at *
    simp [e12', g12, e13, e14, e15]) ?_
  have p15 := p14.ext x15
  refine st_set (d := .int 0) (s' := s15) (by simp) ?_
  simp only [List.set_cons_succ, List.set_cons_zero]
  -- the wrong lines
  have g16 := get_new s15 (.lst (fs.map pr))
  obtain ⟨ll, zs0, w1, w2, w3, s17, e17, g17, hok, b1, b2, b3, _, p17, k17, _⟩ := wl_spec (p15.app [.lst (fs.map pr)]) g16 (Nat.ne_of_gt p15.lt) hd hne
  obtain ⟨s18, a7', e18, x18⟩ := sum_loop g17 hok 0 (some v0) (some (.loc p)) (some (.tup (fs.map pr))) o3 o4 (some (.str first)) none none
  obtain ⟨r, hr⟩ : ∃ r, r = (zs0 ++ [w1] ++ [w2] ++ [w3]).foldl (fun r z => r + bz z) 0 := ⟨_, rfl⟩
  have hge : 3 ≤ r := by
    rw [hr, List.foldl_append, List.foldl_append, List.foldl_append]
    simp only [List.foldl_cons, List.foldl_nil]
    rw [bz_bad b1, bz_bad b2, bz_bad b3]
    have := fold_ge zs0 0
    omega
  rw [← hr] at e18
  refine st_for (x := Itm.mk ((zs0 ++ [w1] ++ [w2] ++ [w3]).map D.str) (fun s2 => s2[ll]? = some (.lst ((zs0 ++ [w1] ++ [w2] ++ [w3]).map D.str)))) (s' := s17) (by
    have dl : dList [.tup (fs.map pr)] s15 = some (.loc s15.length, s15 ++ [.lst (fs.map pr)]) := by simp [dList, seqOf]
    generalize fs.map pr = FS at *
    generalize (zs0 ++ [w1] ++ [w2] ++ [w3]).map D.str = WS at *
    simp [dl, e17, g17]) e18 ?_
  obtain ⟨s19, e19, x19⟩ := right_spec (t := "  never ") (by decide +kernel) (fun c hc => by
    have : (tl ("  never " : Str)).all (fun c => decide (c < 1000)) = true := by decide +kernel
    simpa using List.all_eq_true.mp this c hc) s18
  obtain ⟨s20, e20, x20⟩ := right_spec lf.len lf.tok s19
  exact st_ret (d := .bl true) (s' := s20) (by simp [hge, e19, e20]) ⟨s20, rfl⟩
end Law
namespace Law
open PySem PySem.Spec PyProof.Rows L2 Mi
theorem all_mk {P : Program} {w : World} {K : PySem.W.Frag} {h : Heap} {mg : Str → Option Value} {fa : Addr} (X : K.In h) (G : h.Ns mainGlobals mg) (hfa : mg "law" = some (.ref fa))
  {f_make_dates : Addr} {od_make_dates an_make_dates : Option Addr} {sl_make_dates : Array (Option Value)} {oc_make_dates kV_make_dates dc_make_dates pm_make_dates cd_make_dates ct_make_dates : Value} (a_make_dates : PySem.W.nsIn K mainGlobals "make_dates" = some (some (.ref f_make_dates))) (l_make_dates : K.lookup f_make_dates = some ⟨oc_make_dates, od_make_dates, .func (PySem.W.fnOf "make_dates" "make_dates" (defArgs s_make_dates) (defBody s_make_dates) (defScope s_make_dates) .none kV_make_dates dc_make_dates pm_make_dates an_make_dates cd_make_dates ct_make_dates), sl_make_dates⟩) (c_make_dates : PySem.W.codeIn K cd_make_dates "make_dates" = true) (k_make_dates : PySem.W.keepIn K (.ref f_make_dates) = true)
  {f_words_of : Addr} {od_words_of an_words_of : Option Addr} {sl_words_of : Array (Option Value)} {oc_words_of kV_words_of dc_words_of pm_words_of cd_words_of ct_words_of : Value} (a_words_of : PySem.W.nsIn K mainGlobals "words_of" = some (some (.ref f_words_of))) (l_words_of : K.lookup f_words_of = some ⟨oc_words_of, od_words_of, .func (PySem.W.fnOf "words_of" "words_of" (defArgs s_words_of) (defBody s_words_of) (defScope s_words_of) .none kV_words_of dc_words_of pm_words_of an_words_of cd_words_of ct_words_of), sl_words_of⟩) (c_words_of : PySem.W.codeIn K cd_words_of "words_of" = true) (k_words_of : PySem.W.keepIn K (.ref f_words_of) = true)
  {f_parted_words : Addr} {od_parted_words an_parted_words : Option Addr} {sl_parted_words : Array (Option Value)} {oc_parted_words kV_parted_words dc_parted_words pm_parted_words cd_parted_words ct_parted_words : Value} (a_parted_words : PySem.W.nsIn K mainGlobals "parted_words" = some (some (.ref f_parted_words))) (l_parted_words : K.lookup f_parted_words = some ⟨oc_parted_words, od_parted_words, .func (PySem.W.fnOf "parted_words" "parted_words" (defArgs s_parted_words) (defBody s_parted_words) (defScope s_parted_words) .none kV_parted_words dc_parted_words pm_parted_words an_parted_words cd_parted_words ct_parted_words), sl_parted_words⟩) (c_parted_words : PySem.W.codeIn K cd_parted_words "parted_words" = true) (k_parted_words : PySem.W.keepIn K (.ref f_parted_words) = true)
  {f_written_integer : Addr} {od_written_integer an_written_integer : Option Addr} {sl_written_integer : Array (Option Value)} {oc_written_integer kV_written_integer dc_written_integer pm_written_integer cd_written_integer ct_written_integer : Value} (a_written_integer : PySem.W.nsIn K mainGlobals "written_integer" = some (some (.ref f_written_integer))) (l_written_integer : K.lookup f_written_integer = some ⟨oc_written_integer, od_written_integer, .func (PySem.W.fnOf "written_integer" "written_integer" (defArgs s_written_integer) (defBody s_written_integer) (defScope s_written_integer) .none kV_written_integer dc_written_integer pm_written_integer an_written_integer cd_written_integer ct_written_integer), sl_written_integer⟩) (c_written_integer : PySem.W.codeIn K cd_written_integer "written_integer" = true) (k_written_integer : PySem.W.keepIn K (.ref f_written_integer) = true)
  {f_year_text : Addr} {od_year_text an_year_text : Option Addr} {sl_year_text : Array (Option Value)} {oc_year_text kV_year_text dc_year_text pm_year_text cd_year_text ct_year_text : Value} (a_year_text : PySem.W.nsIn K mainGlobals "year_text" = some (some (.ref f_year_text))) (l_year_text : K.lookup f_year_text = some ⟨oc_year_text, od_year_text, .func (PySem.W.fnOf "year_text" "year_text" (defArgs s_year_text) (defBody s_year_text) (defScope s_year_text) .none kV_year_text dc_year_text pm_year_text an_year_text cd_year_text ct_year_text), sl_year_text⟩) (c_year_text : PySem.W.codeIn K cd_year_text "year_text" = true) (k_year_text : PySem.W.keepIn K (.ref f_year_text) = true)
  {f_year_from : Addr} {od_year_from an_year_from : Option Addr} {sl_year_from : Array (Option Value)} {oc_year_from kV_year_from dc_year_from pm_year_from cd_year_from ct_year_from : Value} (a_year_from : PySem.W.nsIn K mainGlobals "year_from" = some (some (.ref f_year_from))) (l_year_from : K.lookup f_year_from = some ⟨oc_year_from, od_year_from, .func (PySem.W.fnOf "year_from" "year_from" (defArgs s_year_from) (defBody s_year_from) (defScope s_year_from) .none kV_year_from dc_year_from pm_year_from an_year_from cd_year_from ct_year_from), sl_year_from⟩) (c_year_from : PySem.W.codeIn K cd_year_from "year_from" = true) (k_year_from : PySem.W.keepIn K (.ref f_year_from) = true)
  {f_stretch_text : Addr} {od_stretch_text an_stretch_text : Option Addr} {sl_stretch_text : Array (Option Value)} {oc_stretch_text kV_stretch_text dc_stretch_text pm_stretch_text cd_stretch_text ct_stretch_text : Value} (a_stretch_text : PySem.W.nsIn K mainGlobals "stretch_text" = some (some (.ref f_stretch_text))) (l_stretch_text : K.lookup f_stretch_text = some ⟨oc_stretch_text, od_stretch_text, .func (PySem.W.fnOf "stretch_text" "stretch_text" (defArgs s_stretch_text) (defBody s_stretch_text) (defScope s_stretch_text) .none kV_stretch_text dc_stretch_text pm_stretch_text an_stretch_text cd_stretch_text ct_stretch_text), sl_stretch_text⟩) (c_stretch_text : PySem.W.codeIn K cd_stretch_text "stretch_text" = true) (k_stretch_text : PySem.W.keepIn K (.ref f_stretch_text) = true)
  {f_dates_text : Addr} {od_dates_text an_dates_text : Option Addr} {sl_dates_text : Array (Option Value)} {oc_dates_text kV_dates_text dc_dates_text pm_dates_text cd_dates_text ct_dates_text : Value} (a_dates_text : PySem.W.nsIn K mainGlobals "dates_text" = some (some (.ref f_dates_text))) (l_dates_text : K.lookup f_dates_text = some ⟨oc_dates_text, od_dates_text, .func (PySem.W.fnOf "dates_text" "dates_text" (defArgs s_dates_text) (defBody s_dates_text) (defScope s_dates_text) .none kV_dates_text dc_dates_text pm_dates_text an_dates_text cd_dates_text ct_dates_text), sl_dates_text⟩) (c_dates_text : PySem.W.codeIn K cd_dates_text "dates_text" = true) (k_dates_text : PySem.W.keepIn K (.ref f_dates_text) = true)
  {f_stretch_from : Addr} {od_stretch_from an_stretch_from : Option Addr} {sl_stretch_from : Array (Option Value)} {oc_stretch_from kV_stretch_from dc_stretch_from pm_stretch_from cd_stretch_from ct_stretch_from : Value} (a_stretch_from : PySem.W.nsIn K mainGlobals "stretch_from" = some (some (.ref f_stretch_from))) (l_stretch_from : K.lookup f_stretch_from = some ⟨oc_stretch_from, od_stretch_from, .func (PySem.W.fnOf "stretch_from" "stretch_from" (defArgs s_stretch_from) (defBody s_stretch_from) (defScope s_stretch_from) .none kV_stretch_from dc_stretch_from pm_stretch_from an_stretch_from cd_stretch_from ct_stretch_from), sl_stretch_from⟩) (c_stretch_from : PySem.W.codeIn K cd_stretch_from "stretch_from" = true) (k_stretch_from : PySem.W.keepIn K (.ref f_stretch_from) = true)
  {f_dates_from : Addr} {od_dates_from an_dates_from : Option Addr} {sl_dates_from : Array (Option Value)} {oc_dates_from kV_dates_from dc_dates_from pm_dates_from cd_dates_from ct_dates_from : Value} (a_dates_from : PySem.W.nsIn K mainGlobals "dates_from" = some (some (.ref f_dates_from))) (l_dates_from : K.lookup f_dates_from = some ⟨oc_dates_from, od_dates_from, .func (PySem.W.fnOf "dates_from" "dates_from" (defArgs s_dates_from) (defBody s_dates_from) (defScope s_dates_from) .none kV_dates_from dc_dates_from pm_dates_from an_dates_from cd_dates_from ct_dates_from), sl_dates_from⟩) (c_dates_from : PySem.W.codeIn K cd_dates_from "dates_from" = true) (k_dates_from : PySem.W.keepIn K (.ref f_dates_from) = true)
  {f_read_dates : Addr} {od_read_dates an_read_dates : Option Addr} {sl_read_dates : Array (Option Value)} {oc_read_dates kV_read_dates dc_read_dates pm_read_dates cd_read_dates ct_read_dates : Value} (a_read_dates : PySem.W.nsIn K mainGlobals "read_dates" = some (some (.ref f_read_dates))) (l_read_dates : K.lookup f_read_dates = some ⟨oc_read_dates, od_read_dates, .func (PySem.W.fnOf "read_dates" "read_dates" (defArgs s_read_dates) (defBody s_read_dates) (defScope s_read_dates) .none kV_read_dates dc_read_dates pm_read_dates an_read_dates cd_read_dates ct_read_dates), sl_read_dates⟩) (c_read_dates : PySem.W.codeIn K cd_read_dates "read_dates" = true) (k_read_dates : PySem.W.keepIn K (.ref f_read_dates) = true)
  {f_d_law_pool : Addr} {od_d_law_pool an_d_law_pool : Option Addr} {sl_d_law_pool : Array (Option Value)} {oc_d_law_pool kV_d_law_pool dc_d_law_pool pm_d_law_pool cd_d_law_pool ct_d_law_pool : Value} (a_d_law_pool : PySem.W.nsIn K mainGlobals "_law_pool" = some (some (.ref f_d_law_pool))) (l_d_law_pool : K.lookup f_d_law_pool = some ⟨oc_d_law_pool, od_d_law_pool, .func (PySem.W.fnOf "_law_pool" "_law_pool" (defArgs s_d_law_pool) (defBody s_d_law_pool) (defScope s_d_law_pool) .none kV_d_law_pool dc_d_law_pool pm_d_law_pool an_d_law_pool cd_d_law_pool ct_d_law_pool), sl_d_law_pool⟩) (c_d_law_pool : PySem.W.codeIn K cd_d_law_pool "_law_pool" = true) (k_d_law_pool : PySem.W.keepIn K (.ref f_d_law_pool) = true)
  {f_d_law_draw : Addr} {od_d_law_draw an_d_law_draw : Option Addr} {sl_d_law_draw : Array (Option Value)} {oc_d_law_draw kV_d_law_draw dc_d_law_draw pm_d_law_draw cd_d_law_draw ct_d_law_draw : Value} (a_d_law_draw : PySem.W.nsIn K mainGlobals "_law_draw" = some (some (.ref f_d_law_draw))) (l_d_law_draw : K.lookup f_d_law_draw = some ⟨oc_d_law_draw, od_d_law_draw, .func (PySem.W.fnOf "_law_draw" "_law_draw" (defArgs s_d_law_draw) (defBody s_d_law_draw) (defScope s_d_law_draw) .none kV_d_law_draw dc_d_law_draw pm_d_law_draw an_d_law_draw cd_d_law_draw ct_d_law_draw), sl_d_law_draw⟩) (c_d_law_draw : PySem.W.codeIn K cd_d_law_draw "_law_draw" = true) (k_d_law_draw : PySem.W.keepIn K (.ref f_d_law_draw) = true)
  {f_d_law_often_end : Addr} {od_d_law_often_end an_d_law_often_end : Option Addr} {sl_d_law_often_end : Array (Option Value)} {oc_d_law_often_end kV_d_law_often_end dc_d_law_often_end pm_d_law_often_end cd_d_law_often_end ct_d_law_often_end : Value} (a_d_law_often_end : PySem.W.nsIn K mainGlobals "_law_often_end" = some (some (.ref f_d_law_often_end))) (l_d_law_often_end : K.lookup f_d_law_often_end = some ⟨oc_d_law_often_end, od_d_law_often_end, .func (PySem.W.fnOf "_law_often_end" "_law_often_end" (defArgs s_d_law_often_end) (defBody s_d_law_often_end) (defScope s_d_law_often_end) .none kV_d_law_often_end dc_d_law_often_end pm_d_law_often_end an_d_law_often_end cd_d_law_often_end ct_d_law_often_end), sl_d_law_often_end⟩) (c_d_law_often_end : PySem.W.codeIn K cd_d_law_often_end "_law_often_end" = true) (k_d_law_often_end : PySem.W.keepIn K (.ref f_d_law_often_end) = true)
  {f_d_law_is_integer : Addr} {od_d_law_is_integer an_d_law_is_integer : Option Addr} {sl_d_law_is_integer : Array (Option Value)} {oc_d_law_is_integer kV_d_law_is_integer dc_d_law_is_integer pm_d_law_is_integer cd_d_law_is_integer ct_d_law_is_integer : Value} (a_d_law_is_integer : PySem.W.nsIn K mainGlobals "_law_is_integer" = some (some (.ref f_d_law_is_integer))) (l_d_law_is_integer : K.lookup f_d_law_is_integer = some ⟨oc_d_law_is_integer, od_d_law_is_integer, .func (PySem.W.fnOf "_law_is_integer" "_law_is_integer" (defArgs s_d_law_is_integer) (defBody s_d_law_is_integer) (defScope s_d_law_is_integer) .none kV_d_law_is_integer dc_d_law_is_integer pm_d_law_is_integer an_d_law_is_integer cd_d_law_is_integer ct_d_law_is_integer), sl_d_law_is_integer⟩) (c_d_law_is_integer : PySem.W.codeIn K cd_d_law_is_integer "_law_is_integer" = true) (k_d_law_is_integer : PySem.W.keepIn K (.ref f_d_law_is_integer) = true)
  {f_d_law_same : Addr} {od_d_law_same an_d_law_same : Option Addr} {sl_d_law_same : Array (Option Value)} {oc_d_law_same kV_d_law_same dc_d_law_same pm_d_law_same cd_d_law_same ct_d_law_same : Value} (a_d_law_same : PySem.W.nsIn K mainGlobals "_law_same" = some (some (.ref f_d_law_same))) (l_d_law_same : K.lookup f_d_law_same = some ⟨oc_d_law_same, od_d_law_same, .func (PySem.W.fnOf "_law_same" "_law_same" (defArgs s_d_law_same) (defBody s_d_law_same) (defScope s_d_law_same) .none kV_d_law_same dc_d_law_same pm_d_law_same an_d_law_same cd_d_law_same ct_d_law_same), sl_d_law_same⟩) (c_d_law_same : PySem.W.codeIn K cd_d_law_same "_law_same" = true) (k_d_law_same : PySem.W.keepIn K (.ref f_d_law_same) = true)
  {f_d_law_dates : Addr} {od_d_law_dates an_d_law_dates : Option Addr} {sl_d_law_dates : Array (Option Value)} {oc_d_law_dates kV_d_law_dates dc_d_law_dates pm_d_law_dates cd_d_law_dates ct_d_law_dates : Value} (a_d_law_dates : PySem.W.nsIn K mainGlobals "_law_dates" = some (some (.ref f_d_law_dates))) (l_d_law_dates : K.lookup f_d_law_dates = some ⟨oc_d_law_dates, od_d_law_dates, .func (PySem.W.fnOf "_law_dates" "_law_dates" (defArgs s_d_law_dates) (defBody s_d_law_dates) (defScope s_d_law_dates) .none kV_d_law_dates dc_d_law_dates pm_d_law_dates an_d_law_dates cd_d_law_dates ct_d_law_dates), sl_d_law_dates⟩) (c_d_law_dates : PySem.W.codeIn K cd_d_law_dates "_law_dates" = true) (k_d_law_dates : PySem.W.keepIn K (.ref f_d_law_dates) = true)
  {f_d_law_year_words : Addr} {od_d_law_year_words an_d_law_year_words : Option Addr} {sl_d_law_year_words : Array (Option Value)} {oc_d_law_year_words kV_d_law_year_words dc_d_law_year_words pm_d_law_year_words cd_d_law_year_words ct_d_law_year_words : Value} (a_d_law_year_words : PySem.W.nsIn K mainGlobals "_law_year_words" = some (some (.ref f_d_law_year_words))) (l_d_law_year_words : K.lookup f_d_law_year_words = some ⟨oc_d_law_year_words, od_d_law_year_words, .func (PySem.W.fnOf "_law_year_words" "_law_year_words" (defArgs s_d_law_year_words) (defBody s_d_law_year_words) (defScope s_d_law_year_words) .none kV_d_law_year_words dc_d_law_year_words pm_d_law_year_words an_d_law_year_words cd_d_law_year_words ct_d_law_year_words), sl_d_law_year_words⟩) (c_d_law_year_words : PySem.W.codeIn K cd_d_law_year_words "_law_year_words" = true) (k_d_law_year_words : PySem.W.keepIn K (.ref f_d_law_year_words) = true)
  {f_d_law_stretch_words : Addr} {od_d_law_stretch_words an_d_law_stretch_words : Option Addr} {sl_d_law_stretch_words : Array (Option Value)} {oc_d_law_stretch_words kV_d_law_stretch_words dc_d_law_stretch_words pm_d_law_stretch_words cd_d_law_stretch_words ct_d_law_stretch_words : Value} (a_d_law_stretch_words : PySem.W.nsIn K mainGlobals "_law_stretch_words" = some (some (.ref f_d_law_stretch_words))) (l_d_law_stretch_words : K.lookup f_d_law_stretch_words = some ⟨oc_d_law_stretch_words, od_d_law_stretch_words, .func (PySem.W.fnOf "_law_stretch_words" "_law_stretch_words" (defArgs s_d_law_stretch_words) (defBody s_d_law_stretch_words) (defScope s_d_law_stretch_words) .none kV_d_law_stretch_words dc_d_law_stretch_words pm_d_law_stretch_words an_d_law_stretch_words cd_d_law_stretch_words ct_d_law_stretch_words), sl_d_law_stretch_words⟩) (c_d_law_stretch_words : PySem.W.codeIn K cd_d_law_stretch_words "_law_stretch_words" = true) (k_d_law_stretch_words : PySem.W.keepIn K (.ref f_d_law_stretch_words) = true)
  {f_d_law_text : Addr} {od_d_law_text an_d_law_text : Option Addr} {sl_d_law_text : Array (Option Value)} {oc_d_law_text kV_d_law_text dc_d_law_text pm_d_law_text cd_d_law_text ct_d_law_text : Value} (a_d_law_text : PySem.W.nsIn K mainGlobals "_law_text" = some (some (.ref f_d_law_text))) (l_d_law_text : K.lookup f_d_law_text = some ⟨oc_d_law_text, od_d_law_text, .func (PySem.W.fnOf "_law_text" "_law_text" (defArgs s_d_law_text) (defBody s_d_law_text) (defScope s_d_law_text) .none kV_d_law_text dc_d_law_text pm_d_law_text an_d_law_text cd_d_law_text ct_d_law_text), sl_d_law_text⟩) (c_d_law_text : PySem.W.codeIn K cd_d_law_text "_law_text" = true) (k_d_law_text : PySem.W.keepIn K (.ref f_d_law_text) = true)
  {f_d_law_line : Addr} {od_d_law_line an_d_law_line : Option Addr} {sl_d_law_line : Array (Option Value)} {oc_d_law_line kV_d_law_line dc_d_law_line pm_d_law_line cd_d_law_line ct_d_law_line : Value} (a_d_law_line : PySem.W.nsIn K mainGlobals "_law_line" = some (some (.ref f_d_law_line))) (l_d_law_line : K.lookup f_d_law_line = some ⟨oc_d_law_line, od_d_law_line, .func (PySem.W.fnOf "_law_line" "_law_line" (defArgs s_d_law_line) (defBody s_d_law_line) (defScope s_d_law_line) .none kV_d_law_line dc_d_law_line pm_d_law_line an_d_law_line cd_d_law_line ct_d_law_line), sl_d_law_line⟩) (c_d_law_line : PySem.W.codeIn K cd_d_law_line "_law_line" = true) (k_d_law_line : PySem.W.keepIn K (.ref f_d_law_line) = true)
  {f_d_law_year_due : Addr} {od_d_law_year_due an_d_law_year_due : Option Addr} {sl_d_law_year_due : Array (Option Value)} {oc_d_law_year_due kV_d_law_year_due dc_d_law_year_due pm_d_law_year_due cd_d_law_year_due ct_d_law_year_due : Value} (a_d_law_year_due : PySem.W.nsIn K mainGlobals "_law_year_due" = some (some (.ref f_d_law_year_due))) (l_d_law_year_due : K.lookup f_d_law_year_due = some ⟨oc_d_law_year_due, od_d_law_year_due, .func (PySem.W.fnOf "_law_year_due" "_law_year_due" (defArgs s_d_law_year_due) (defBody s_d_law_year_due) (defScope s_d_law_year_due) .none kV_d_law_year_due dc_d_law_year_due pm_d_law_year_due an_d_law_year_due cd_d_law_year_due ct_d_law_year_due), sl_d_law_year_due⟩) (c_d_law_year_due : PySem.W.codeIn K cd_d_law_year_due "_law_year_due" = true) (k_d_law_year_due : PySem.W.keepIn K (.ref f_d_law_year_due) = true)
  {f_d_law_stretch_due : Addr} {od_d_law_stretch_due an_d_law_stretch_due : Option Addr} {sl_d_law_stretch_due : Array (Option Value)} {oc_d_law_stretch_due kV_d_law_stretch_due dc_d_law_stretch_due pm_d_law_stretch_due cd_d_law_stretch_due ct_d_law_stretch_due : Value} (a_d_law_stretch_due : PySem.W.nsIn K mainGlobals "_law_stretch_due" = some (some (.ref f_d_law_stretch_due))) (l_d_law_stretch_due : K.lookup f_d_law_stretch_due = some ⟨oc_d_law_stretch_due, od_d_law_stretch_due, .func (PySem.W.fnOf "_law_stretch_due" "_law_stretch_due" (defArgs s_d_law_stretch_due) (defBody s_d_law_stretch_due) (defScope s_d_law_stretch_due) .none kV_d_law_stretch_due dc_d_law_stretch_due pm_d_law_stretch_due an_d_law_stretch_due cd_d_law_stretch_due ct_d_law_stretch_due), sl_d_law_stretch_due⟩) (c_d_law_stretch_due : PySem.W.codeIn K cd_d_law_stretch_due "_law_stretch_due" = true) (k_d_law_stretch_due : PySem.W.keepIn K (.ref f_d_law_stretch_due) = true)
  {f_d_law_due : Addr} {od_d_law_due an_d_law_due : Option Addr} {sl_d_law_due : Array (Option Value)} {oc_d_law_due kV_d_law_due dc_d_law_due pm_d_law_due cd_d_law_due ct_d_law_due : Value} (a_d_law_due : PySem.W.nsIn K mainGlobals "_law_due" = some (some (.ref f_d_law_due))) (l_d_law_due : K.lookup f_d_law_due = some ⟨oc_d_law_due, od_d_law_due, .func (PySem.W.fnOf "_law_due" "_law_due" (defArgs s_d_law_due) (defBody s_d_law_due) (defScope s_d_law_due) .none kV_d_law_due dc_d_law_due pm_d_law_due an_d_law_due cd_d_law_due ct_d_law_due), sl_d_law_due⟩) (c_d_law_due : PySem.W.codeIn K cd_d_law_due "_law_due" = true) (k_d_law_due : PySem.W.keepIn K (.ref f_d_law_due) = true)
  {f_d_law_ask : Addr} {od_d_law_ask an_d_law_ask : Option Addr} {sl_d_law_ask : Array (Option Value)} {oc_d_law_ask kV_d_law_ask dc_d_law_ask pm_d_law_ask cd_d_law_ask ct_d_law_ask : Value} (a_d_law_ask : PySem.W.nsIn K mainGlobals "_law_ask" = some (some (.ref f_d_law_ask))) (l_d_law_ask : K.lookup f_d_law_ask = some ⟨oc_d_law_ask, od_d_law_ask, .func (PySem.W.fnOf "_law_ask" "_law_ask" (defArgs s_d_law_ask) (defBody s_d_law_ask) (defScope s_d_law_ask) .none kV_d_law_ask dc_d_law_ask pm_d_law_ask an_d_law_ask cd_d_law_ask ct_d_law_ask), sl_d_law_ask⟩) (c_d_law_ask : PySem.W.codeIn K cd_d_law_ask "_law_ask" = true) (k_d_law_ask : PySem.W.keepIn K (.ref f_d_law_ask) = true)
  {f_d_law_right : Addr} {od_d_law_right an_d_law_right : Option Addr} {sl_d_law_right : Array (Option Value)} {oc_d_law_right kV_d_law_right dc_d_law_right pm_d_law_right cd_d_law_right ct_d_law_right : Value} (a_d_law_right : PySem.W.nsIn K mainGlobals "_law_right" = some (some (.ref f_d_law_right))) (l_d_law_right : K.lookup f_d_law_right = some ⟨oc_d_law_right, od_d_law_right, .func (PySem.W.fnOf "_law_right" "_law_right" (defArgs s_d_law_right) (defBody s_d_law_right) (defScope s_d_law_right) .none kV_d_law_right dc_d_law_right pm_d_law_right an_d_law_right cd_d_law_right ct_d_law_right), sl_d_law_right⟩) (c_d_law_right : PySem.W.codeIn K cd_d_law_right "_law_right" = true) (k_d_law_right : PySem.W.keepIn K (.ref f_d_law_right) = true)
  {f_d_law_shuffled : Addr} {od_d_law_shuffled an_d_law_shuffled : Option Addr} {sl_d_law_shuffled : Array (Option Value)} {oc_d_law_shuffled kV_d_law_shuffled dc_d_law_shuffled pm_d_law_shuffled cd_d_law_shuffled ct_d_law_shuffled : Value} (a_d_law_shuffled : PySem.W.nsIn K mainGlobals "_law_shuffled" = some (some (.ref f_d_law_shuffled))) (l_d_law_shuffled : K.lookup f_d_law_shuffled = some ⟨oc_d_law_shuffled, od_d_law_shuffled, .func (PySem.W.fnOf "_law_shuffled" "_law_shuffled" (defArgs s_d_law_shuffled) (defBody s_d_law_shuffled) (defScope s_d_law_shuffled) .none kV_d_law_shuffled dc_d_law_shuffled pm_d_law_shuffled an_d_law_shuffled cd_d_law_shuffled ct_d_law_shuffled), sl_d_law_shuffled⟩) (c_d_law_shuffled : PySem.W.codeIn K cd_d_law_shuffled "_law_shuffled" = true) (k_d_law_shuffled : PySem.W.keepIn K (.ref f_d_law_shuffled) = true)
  {f_d_law_more_pairs : Addr} {od_d_law_more_pairs an_d_law_more_pairs : Option Addr} {sl_d_law_more_pairs : Array (Option Value)} {oc_d_law_more_pairs kV_d_law_more_pairs dc_d_law_more_pairs pm_d_law_more_pairs cd_d_law_more_pairs ct_d_law_more_pairs : Value} (a_d_law_more_pairs : PySem.W.nsIn K mainGlobals "_law_more_pairs" = some (some (.ref f_d_law_more_pairs))) (l_d_law_more_pairs : K.lookup f_d_law_more_pairs = some ⟨oc_d_law_more_pairs, od_d_law_more_pairs, .func (PySem.W.fnOf "_law_more_pairs" "_law_more_pairs" (defArgs s_d_law_more_pairs) (defBody s_d_law_more_pairs) (defScope s_d_law_more_pairs) .none kV_d_law_more_pairs dc_d_law_more_pairs pm_d_law_more_pairs an_d_law_more_pairs cd_d_law_more_pairs ct_d_law_more_pairs), sl_d_law_more_pairs⟩) (c_d_law_more_pairs : PySem.W.codeIn K cd_d_law_more_pairs "_law_more_pairs" = true) (k_d_law_more_pairs : PySem.W.keepIn K (.ref f_d_law_more_pairs) = true)
  {f_d_law_free_pairs : Addr} {od_d_law_free_pairs an_d_law_free_pairs : Option Addr} {sl_d_law_free_pairs : Array (Option Value)} {oc_d_law_free_pairs kV_d_law_free_pairs dc_d_law_free_pairs pm_d_law_free_pairs cd_d_law_free_pairs ct_d_law_free_pairs : Value} (a_d_law_free_pairs : PySem.W.nsIn K mainGlobals "_law_free_pairs" = some (some (.ref f_d_law_free_pairs))) (l_d_law_free_pairs : K.lookup f_d_law_free_pairs = some ⟨oc_d_law_free_pairs, od_d_law_free_pairs, .func (PySem.W.fnOf "_law_free_pairs" "_law_free_pairs" (defArgs s_d_law_free_pairs) (defBody s_d_law_free_pairs) (defScope s_d_law_free_pairs) .none kV_d_law_free_pairs dc_d_law_free_pairs pm_d_law_free_pairs an_d_law_free_pairs cd_d_law_free_pairs ct_d_law_free_pairs), sl_d_law_free_pairs⟩) (c_d_law_free_pairs : PySem.W.codeIn K cd_d_law_free_pairs "_law_free_pairs" = true) (k_d_law_free_pairs : PySem.W.keepIn K (.ref f_d_law_free_pairs) = true)
  {f_d_law_wrong_word : Addr} {od_d_law_wrong_word an_d_law_wrong_word : Option Addr} {sl_d_law_wrong_word : Array (Option Value)} {oc_d_law_wrong_word kV_d_law_wrong_word dc_d_law_wrong_word pm_d_law_wrong_word cd_d_law_wrong_word ct_d_law_wrong_word : Value} (a_d_law_wrong_word : PySem.W.nsIn K mainGlobals "_law_wrong_word" = some (some (.ref f_d_law_wrong_word))) (l_d_law_wrong_word : K.lookup f_d_law_wrong_word = some ⟨oc_d_law_wrong_word, od_d_law_wrong_word, .func (PySem.W.fnOf "_law_wrong_word" "_law_wrong_word" (defArgs s_d_law_wrong_word) (defBody s_d_law_wrong_word) (defScope s_d_law_wrong_word) .none kV_d_law_wrong_word dc_d_law_wrong_word pm_d_law_wrong_word an_d_law_wrong_word cd_d_law_wrong_word ct_d_law_wrong_word), sl_d_law_wrong_word⟩) (c_d_law_wrong_word : PySem.W.codeIn K cd_d_law_wrong_word "_law_wrong_word" = true) (k_d_law_wrong_word : PySem.W.keepIn K (.ref f_d_law_wrong_word) = true)
  {f_d_law_spoilt : Addr} {od_d_law_spoilt an_d_law_spoilt : Option Addr} {sl_d_law_spoilt : Array (Option Value)} {oc_d_law_spoilt kV_d_law_spoilt dc_d_law_spoilt pm_d_law_spoilt cd_d_law_spoilt ct_d_law_spoilt : Value} (a_d_law_spoilt : PySem.W.nsIn K mainGlobals "_law_spoilt" = some (some (.ref f_d_law_spoilt))) (l_d_law_spoilt : K.lookup f_d_law_spoilt = some ⟨oc_d_law_spoilt, od_d_law_spoilt, .func (PySem.W.fnOf "_law_spoilt" "_law_spoilt" (defArgs s_d_law_spoilt) (defBody s_d_law_spoilt) (defScope s_d_law_spoilt) .none kV_d_law_spoilt dc_d_law_spoilt pm_d_law_spoilt an_d_law_spoilt cd_d_law_spoilt ct_d_law_spoilt), sl_d_law_spoilt⟩) (c_d_law_spoilt : PySem.W.codeIn K cd_d_law_spoilt "_law_spoilt" = true) (k_d_law_spoilt : PySem.W.keepIn K (.ref f_d_law_spoilt) = true)
  {f_d_law_wrong_lines : Addr} {od_d_law_wrong_lines an_d_law_wrong_lines : Option Addr} {sl_d_law_wrong_lines : Array (Option Value)} {oc_d_law_wrong_lines kV_d_law_wrong_lines dc_d_law_wrong_lines pm_d_law_wrong_lines cd_d_law_wrong_lines ct_d_law_wrong_lines : Value} (a_d_law_wrong_lines : PySem.W.nsIn K mainGlobals "_law_wrong_lines" = some (some (.ref f_d_law_wrong_lines))) (l_d_law_wrong_lines : K.lookup f_d_law_wrong_lines = some ⟨oc_d_law_wrong_lines, od_d_law_wrong_lines, .func (PySem.W.fnOf "_law_wrong_lines" "_law_wrong_lines" (defArgs s_d_law_wrong_lines) (defBody s_d_law_wrong_lines) (defScope s_d_law_wrong_lines) .none kV_d_law_wrong_lines dc_d_law_wrong_lines pm_d_law_wrong_lines an_d_law_wrong_lines cd_d_law_wrong_lines ct_d_law_wrong_lines), sl_d_law_wrong_lines⟩) (c_d_law_wrong_lines : PySem.W.codeIn K cd_d_law_wrong_lines "_law_wrong_lines" = true) (k_d_law_wrong_lines : PySem.W.keepIn K (.ref f_d_law_wrong_lines) = true)
  {f_law : Addr} {od_law an_law : Option Addr} {sl_law : Array (Option Value)} {oc_law kV_law dc_law pm_law cd_law ct_law : Value} (a_law : PySem.W.nsIn K mainGlobals "law" = some (some (.ref f_law))) (l_law : K.lookup f_law = some ⟨oc_law, od_law, .func (PySem.W.fnOf "law" "law" (defArgs s_law) (defBody s_law) (defScope s_law) .none kV_law dc_law pm_law an_law cd_law ct_law), sl_law⟩) (c_law : PySem.W.codeIn K cd_law "law" = true) (k_law : PySem.W.keepIn K (.ref f_law) = true)
  {c_BadText f_BadText : Addr} {nm_BadText q_BadText : Str} {N_BadText : Addr} {bs_BadText bm_BadText : List Value} {sn_BadText : List Str} {sub_BadText : List Value} {ab_BadText : Bool} {col_BadText : Option Bool} {dd_BadText : Option Addr} {m0_BadText m1_BadText m2_BadText m3_BadText m5_BadText : Option Value} {od_BadText an_BadText : Option Addr} {sl_BadText : Array (Option Value)} {oc_BadText kV_BadText dc_BadText pm_BadText cd_BadText ct_BadText : Value} (aC_BadText : PySem.W.nsIn K mainGlobals "BadText" = some (some (.ref c_BadText))) (xL_BadText : K.lookup c_BadText = some (excClassObj nm_BadText q_BadText c_BadText N_BadText bs_BadText bm_BadText true sn_BadText sub_BadText ab_BadText col_BadText dd_BadText m0_BadText m1_BadText m2_BadText m3_BadText m5_BadText "ValueError.__new__")) (bm_ok_BadText : PySem.HandSPX.refsVE bm_BadText = true) (sa_BadText : PySem.W.findIn K (.ref c_BadText) "__setattr__" = some (some (.builtin "object.__setattr__"))) (ga_BadText : PySem.W.findIn K (.ref c_BadText) "__getattribute__" = some (some (.builtin "BaseException.__getattribute__"))) (gg_BadText : PySem.W.findIn K (.ref c_BadText) "__getattr__" = some none) (no_BadText_line : PySem.W.findIn K (.ref c_BadText) "line" = some none) (no_BadText_word : PySem.W.findIn K (.ref c_BadText) "word" = some none) (iI_BadText : PySem.W.findIn K (.ref c_BadText) "__init__" = some (some (.ref f_BadText))) (tF_BadText : PySem.W.typeIn K (.ref f_BadText) = some (.type "function")) (l_BadText : K.lookup f_BadText = some ⟨oc_BadText, od_BadText, .func (PySem.W.fnOf "__init__" "BadText.__init__" (defArgs s_BadText) (defBody s_BadText) (defScope s_BadText) .none kV_BadText dc_BadText pm_BadText an_BadText cd_BadText ct_BadText), sl_BadText⟩) (cd_ok_BadText : PySem.W.codeIn K cd_BadText "BadText.__init__" = true) (kI_BadText : PySem.W.keepIn K (.ref f_BadText) = true) (kC_BadText : PySem.W.keepIn K (.ref c_BadText) = true) (eC_BadText : PySem.W.subIn K (.ref c_BadText) (.type "BaseException") = some true) (tC_BadText : PySem.W.typeIn K (.ref c_BadText) = some (.type "type")) (hC_BadText : PySem.W.hasDictIn K c_BadText = true) (iC_BadText : PySem.W.isClsIn K c_BadText = true) (sC_BadText : PySem.W.subIn K (.ref c_BadText) (.ref c_BadText) = some true)
  {c_TextError : Addr} (aC_TextError : PySem.W.nsIn K mainGlobals "TextError" = some (some (.ref c_TextError)))
  {c_DataError : Addr} (aC_DataError : PySem.W.nsIn K mainGlobals "DataError" = some (some (.ref c_DataError)))
  {c_CallError : Addr} (aC_CallError : PySem.W.nsIn K mainGlobals "CallError" = some (some (.ref c_CallError)))
  {c_DeskError : Addr} (aC_DeskError : PySem.W.nsIn K mainGlobals "DeskError" = some (some (.ref c_DeskError)))
  (x1_BadText : PySem.W.findIn K (.ref c_BadText) "__class__" = some (some (.builtin "object.__class__"))) (x2_BadText : PySem.W.specialIn K (.builtin "object.__class__") "__get__" = some (some (.builtin "getset_descriptor.__get__"))) (x3_BadText : PySem.W.takesIn K (.builtin "object.__class__") = some true) (x4_BadText : PySem.W.mroIn K c_BadText (.type "object") = some true)
  (ki_0 : PySem.W.kitOne K (.ref c_BadText) (.ref c_TextError) = some true)
  (ki_1 : PySem.W.kitAny K (.ref c_BadText) ([c_DataError, c_CallError, c_DeskError].map Value.ref) = some false)
  {t_FIGURES : Tok} (n_FIGURES : PySem.W.nsIn K mainGlobals "FIGURES" = some (some (.str "0123456789" t_FIGURES)))
  {t_WRITTEN_MOST : Tok} (n_WRITTEN_MOST : PySem.W.nsIn K mainGlobals "WRITTEN_MOST" = some (some (.int (9) t_WRITTEN_MOST)))
  {t_YEAR_LEAST : Tok} (n_YEAR_LEAST : PySem.W.nsIn K mainGlobals "YEAR_LEAST" = some (some (.int (-9999) t_YEAR_LEAST)))
  {t_YEAR_MOST : Tok} (n_YEAR_MOST : PySem.W.nsIn K mainGlobals "YEAR_MOST" = some (some (.int (9999) t_YEAR_MOST)))
  (z_bool : PySem.W.nsIn K mainGlobals "bool" = some none)
  (z_int : PySem.W.nsIn K mainGlobals "int" = some none)
  (z_isinstance : PySem.W.nsIn K mainGlobals "isinstance" = some none)
  (z_len : PySem.W.nsIn K mainGlobals "len" = some none)
  (z_list : PySem.W.nsIn K mainGlobals "list" = some none)
  (z_max : PySem.W.nsIn K mainGlobals "max" = some none)
  (z_min : PySem.W.nsIn K mainGlobals "min" = some none)
  (z_range : PySem.W.nsIn K mainGlobals "range" = some none)
  (z_sorted : PySem.W.nsIn K mainGlobals "sorted" = some none)
  (z_str : PySem.W.nsIn K mainGlobals "str" = some none)
  (z_sum : PySem.W.nsIn K mainGlobals "sum" = some none)
  (z_tuple : PySem.W.nsIn K mainGlobals "tuple" = some none) :
  ∃ fd : FuncData, (∀ (s : Shared) (v : Value), BindsTo s fd ⟨[v], []⟩ [("script", v)]) ∧ ∀ base : Heap, K.In base → base.Ns mainGlobals mg → FnOk P w K mg base (L2.CX P w) 8 fa fd ["script"] (spLaw K) := by
  cases hfa.symm.trans (PySem.W.mg_of X G a_law)
  have Z : ∃ Z : Fx K mg, Z.a_law = fa ∧ Z.d_law = PySem.W.fnOf "law" "law" (defArgs s_law) (defBody s_law) (defScope s_law) .none kV_law dc_law pm_law an_law cd_law ct_law := ⟨{
    a_make_dates := f_make_dates, d_make_dates := _, F_make_dates := fun_mk (st := s_make_dates) l_make_dates c_make_dates k_make_dates, g_make_dates := PySem.W.mg_of X G a_make_dates,
    a_words_of := f_words_of, d_words_of := _, F_words_of := fun_mk (st := s_words_of) l_words_of c_words_of k_words_of, g_words_of := PySem.W.mg_of X G a_words_of,
    a_parted_words := f_parted_words, d_parted_words := _, F_parted_words := fun_mk (st := s_parted_words) l_parted_words c_parted_words k_parted_words, g_parted_words := PySem.W.mg_of X G a_parted_words,
    a_written_integer := f_written_integer, d_written_integer := _, F_written_integer := fun_mk (st := s_written_integer) l_written_integer c_written_integer k_written_integer, g_written_integer := PySem.W.mg_of X G a_written_integer,
    a_year_text := f_year_text, d_year_text := _, F_year_text := fun_mk (st := s_year_text) l_year_text c_year_text k_year_text, g_year_text := PySem.W.mg_of X G a_year_text,
    a_year_from := f_year_from, d_year_from := _, F_year_from := fun_mk (st := s_year_from) l_year_from c_year_from k_year_from, g_year_from := PySem.W.mg_of X G a_year_from,
    a_stretch_text := f_stretch_text, d_stretch_text := _, F_stretch_text := fun_mk (st := s_stretch_text) l_stretch_text c_stretch_text k_stretch_text, g_stretch_text := PySem.W.mg_of X G a_stretch_text,
    a_dates_text := f_dates_text, d_dates_text := _, F_dates_text := fun_mk (st := s_dates_text) l_dates_text c_dates_text k_dates_text, g_dates_text := PySem.W.mg_of X G a_dates_text,
    a_stretch_from := f_stretch_from, d_stretch_from := _, F_stretch_from := fun_mk (st := s_stretch_from) l_stretch_from c_stretch_from k_stretch_from, g_stretch_from := PySem.W.mg_of X G a_stretch_from,
    a_dates_from := f_dates_from, d_dates_from := _, F_dates_from := fun_mk (st := s_dates_from) l_dates_from c_dates_from k_dates_from, g_dates_from := PySem.W.mg_of X G a_dates_from,
    a_read_dates := f_read_dates, d_read_dates := _, F_read_dates := fun_mk (st := s_read_dates) l_read_dates c_read_dates k_read_dates, g_read_dates := PySem.W.mg_of X G a_read_dates,
    a_d_law_pool := f_d_law_pool, d_d_law_pool := _, F_d_law_pool := fun_mk (st := s_d_law_pool) l_d_law_pool c_d_law_pool k_d_law_pool, g_d_law_pool := PySem.W.mg_of X G a_d_law_pool,
    a_d_law_draw := f_d_law_draw, d_d_law_draw := _, F_d_law_draw := fun_mk (st := s_d_law_draw) l_d_law_draw c_d_law_draw k_d_law_draw, g_d_law_draw := PySem.W.mg_of X G a_d_law_draw,
    a_d_law_often_end := f_d_law_often_end, d_d_law_often_end := _, F_d_law_often_end := fun_mk (st := s_d_law_often_end) l_d_law_often_end c_d_law_often_end k_d_law_often_end, g_d_law_often_end := PySem.W.mg_of X G a_d_law_often_end,
    a_d_law_is_integer := f_d_law_is_integer, d_d_law_is_integer := _, F_d_law_is_integer := fun_mk (st := s_d_law_is_integer) l_d_law_is_integer c_d_law_is_integer k_d_law_is_integer, g_d_law_is_integer := PySem.W.mg_of X G a_d_law_is_integer,
    a_d_law_same := f_d_law_same, d_d_law_same := _, F_d_law_same := fun_mk (st := s_d_law_same) l_d_law_same c_d_law_same k_d_law_same, g_d_law_same := PySem.W.mg_of X G a_d_law_same,
    a_d_law_dates := f_d_law_dates, d_d_law_dates := _, F_d_law_dates := fun_mk (st := s_d_law_dates) l_d_law_dates c_d_law_dates k_d_law_dates, g_d_law_dates := PySem.W.mg_of X G a_d_law_dates,
    a_d_law_year_words := f_d_law_year_words, d_d_law_year_words := _, F_d_law_year_words := fun_mk (st := s_d_law_year_words) l_d_law_year_words c_d_law_year_words k_d_law_year_words, g_d_law_year_words := PySem.W.mg_of X G a_d_law_year_words,
    a_d_law_stretch_words := f_d_law_stretch_words, d_d_law_stretch_words := _, F_d_law_stretch_words := fun_mk (st := s_d_law_stretch_words) l_d_law_stretch_words c_d_law_stretch_words k_d_law_stretch_words, g_d_law_stretch_words := PySem.W.mg_of X G a_d_law_stretch_words,
    a_d_law_text := f_d_law_text, d_d_law_text := _, F_d_law_text := fun_mk (st := s_d_law_text) l_d_law_text c_d_law_text k_d_law_text, g_d_law_text := PySem.W.mg_of X G a_d_law_text,
    a_d_law_line := f_d_law_line, d_d_law_line := _, F_d_law_line := fun_mk (st := s_d_law_line) l_d_law_line c_d_law_line k_d_law_line, g_d_law_line := PySem.W.mg_of X G a_d_law_line,
    a_d_law_year_due := f_d_law_year_due, d_d_law_year_due := _, F_d_law_year_due := fun_mk (st := s_d_law_year_due) l_d_law_year_due c_d_law_year_due k_d_law_year_due, g_d_law_year_due := PySem.W.mg_of X G a_d_law_year_due,
    a_d_law_stretch_due := f_d_law_stretch_due, d_d_law_stretch_due := _, F_d_law_stretch_due := fun_mk (st := s_d_law_stretch_due) l_d_law_stretch_due c_d_law_stretch_due k_d_law_stretch_due, g_d_law_stretch_due := PySem.W.mg_of X G a_d_law_stretch_due,
    a_d_law_due := f_d_law_due, d_d_law_due := _, F_d_law_due := fun_mk (st := s_d_law_due) l_d_law_due c_d_law_due k_d_law_due, g_d_law_due := PySem.W.mg_of X G a_d_law_due,
    a_d_law_ask := f_d_law_ask, d_d_law_ask := _, F_d_law_ask := fun_mk (st := s_d_law_ask) l_d_law_ask c_d_law_ask k_d_law_ask, g_d_law_ask := PySem.W.mg_of X G a_d_law_ask,
    a_d_law_right := f_d_law_right, d_d_law_right := _, F_d_law_right := fun_mk (st := s_d_law_right) l_d_law_right c_d_law_right k_d_law_right, g_d_law_right := PySem.W.mg_of X G a_d_law_right,
    a_d_law_shuffled := f_d_law_shuffled, d_d_law_shuffled := _, F_d_law_shuffled := fun_mk (st := s_d_law_shuffled) l_d_law_shuffled c_d_law_shuffled k_d_law_shuffled, g_d_law_shuffled := PySem.W.mg_of X G a_d_law_shuffled,
    a_d_law_more_pairs := f_d_law_more_pairs, d_d_law_more_pairs := _, F_d_law_more_pairs := fun_mk (st := s_d_law_more_pairs) l_d_law_more_pairs c_d_law_more_pairs k_d_law_more_pairs, g_d_law_more_pairs := PySem.W.mg_of X G a_d_law_more_pairs,
    a_d_law_free_pairs := f_d_law_free_pairs, d_d_law_free_pairs := _, F_d_law_free_pairs := fun_mk (st := s_d_law_free_pairs) l_d_law_free_pairs c_d_law_free_pairs k_d_law_free_pairs, g_d_law_free_pairs := PySem.W.mg_of X G a_d_law_free_pairs,
    a_d_law_wrong_word := f_d_law_wrong_word, d_d_law_wrong_word := _, F_d_law_wrong_word := fun_mk (st := s_d_law_wrong_word) l_d_law_wrong_word c_d_law_wrong_word k_d_law_wrong_word, g_d_law_wrong_word := PySem.W.mg_of X G a_d_law_wrong_word,
    a_d_law_spoilt := f_d_law_spoilt, d_d_law_spoilt := _, F_d_law_spoilt := fun_mk (st := s_d_law_spoilt) l_d_law_spoilt c_d_law_spoilt k_d_law_spoilt, g_d_law_spoilt := PySem.W.mg_of X G a_d_law_spoilt,
    a_d_law_wrong_lines := f_d_law_wrong_lines, d_d_law_wrong_lines := _, F_d_law_wrong_lines := fun_mk (st := s_d_law_wrong_lines) l_d_law_wrong_lines c_d_law_wrong_lines k_d_law_wrong_lines, g_d_law_wrong_lines := PySem.W.mg_of X G a_d_law_wrong_lines,
    a_law := fa, d_law := _, F_law := fun_mk (st := s_law) l_law c_law k_law, g_law := PySem.W.mg_of X G a_law,
    c_BadText := c_BadText, i_BadText := f_BadText, d_BadText := _, gc_BadText := PySem.W.mg_of X G aC_BadText, T_BadText := ⟨⟨_, _, _, _, _, _, _, _, _, _, _, _, _, _, _, xL_BadText, bm_ok_BadText⟩, sa_BadText, eC_BadText, tC_BadText, kC_BadText⟩, iC_BadText := iI_BadText, tI_BadText := tF_BadText, F_BadText := fun_mk (st := s_BadText) l_BadText cd_ok_BadText kI_BadText, xf_BadText := ⟨ga_BadText, gg_BadText, eC_BadText, hC_BadText⟩, te_BadText := exm_own eC_BadText iC_BadText tC_BadText sC_BadText, no_BadText_line := no_BadText_line, no_BadText_word := no_BadText_word,
    c_TextError := c_TextError, gc_TextError := PySem.W.mg_of X G aC_TextError,
    c_DataError := c_DataError, gc_DataError := PySem.W.mg_of X G aC_DataError,
    c_CallError := c_CallError, gc_CallError := PySem.W.mg_of X G aC_CallError,
    c_DeskError := c_DeskError, gc_DeskError := PySem.W.mg_of X G aC_DeskError,
    EC_BadText := ⟨ga_BadText, gg_BadText, eC_BadText, hC_BadText, x1_BadText, x2_BadText, x3_BadText, x4_BadText⟩,
    ki_0 := ki_0,
    ki_1 := ki_1,
    k_FIGURES := ⟨_, PySem.W.mg_of X G n_FIGURES⟩,
    k_WRITTEN_MOST := ⟨_, PySem.W.mg_of X G n_WRITTEN_MOST⟩,
    k_YEAR_LEAST := ⟨_, PySem.W.mg_of X G n_YEAR_LEAST⟩,
    k_YEAR_MOST := ⟨_, PySem.W.mg_of X G n_YEAR_MOST⟩,
    b_bool := PySem.W.mg_none_of X G z_bool,
    b_int := PySem.W.mg_none_of X G z_int,
    b_isinstance := PySem.W.mg_none_of X G z_isinstance,
    b_len := PySem.W.mg_none_of X G z_len,
    b_list := PySem.W.mg_none_of X G z_list,
    b_max := PySem.W.mg_none_of X G z_max,
    b_min := PySem.W.mg_none_of X G z_min,
    b_range := PySem.W.mg_none_of X G z_range,
    b_sorted := PySem.W.mg_none_of X G z_sorted,
    b_str := PySem.W.mg_none_of X G z_str,
    b_sum := PySem.W.mg_none_of X G z_sum,
    b_tuple := PySem.W.mg_none_of X G z_tuple
  }, rfl, rfl⟩
  obtain ⟨Z, e1, e2⟩ := Z
  rw [← e1]
  exact ⟨Z.d_law, fun s v => e2 ▸ .of_eq rfl, fun base _ _ => FnOk.imp (ok_law Z) (law_imp law_true)⟩
end Law
open PySem PySem.W PyProof.Rows
set_option maxHeartbeats 0 in
theorem PySem.Challenge.cw_beforeinall_k05_dates_in_texts_holds : PySem.Challenge.rw_beforeinall_k05_dates_in_texts.Holds := by
  w_on; o_law; k_head; (case hw => w_witness2)
  k_fill
  refine L2.walk_of (l := PySem.Challenge.rw_beforeinall_k05_dates_in_texts) (n := 63) (k := 8) (x := "script") (CX := fun w => L2.CX PySem.Challenge.rw_beforeinall_k05_dates_in_texts.prog w) (sp := fun w => Mi.spLaw _) rfl (by decide) rfl ⟨rfl, by decide, by decide⟩ (fun w h Y => PySem.W.kIn_of Y) ?F (fun _ _ a ns hl hO hS => ⟨a, ns, rfl, hS, hl, hO, fun _ => rfl⟩) (fun _ _ _ _ _ h => Mi.cx_none h)
  case F =>
    intro w mg fa h KX G hmg
    refine' Law.all_mk KX G hmg ?a_make_dates ?l_make_dates ?c_make_dates ?k_make_dates ?a_words_of ?l_words_of ?c_words_of ?k_words_of ?a_parted_words ?l_parted_words ?c_parted_words ?k_parted_words ?a_written_integer ?l_written_integer ?c_written_integer ?k_written_integer ?a_year_text ?l_year_text ?c_year_text ?k_year_text ?a_year_from ?l_year_from ?c_year_from ?k_year_from ?a_stretch_text ?l_stretch_text ?c_stretch_text ?k_stretch_text ?a_dates_text ?l_dates_text ?c_dates_text ?k_dates_text ?a_stretch_from ?l_stretch_from ?c_stretch_from ?k_stretch_from ?a_dates_from ?l_dates_from ?c_dates_from ?k_dates_from ?a_read_dates ?l_read_dates ?c_read_dates ?k_read_dates ?a_d_law_pool ?l_d_law_pool ?c_d_law_pool ?k_d_law_pool ?a_d_law_draw ?l_d_law_draw ?c_d_law_draw ?k_d_law_draw ?a_d_law_often_end ?l_d_law_often_end ?c_d_law_often_end ?k_d_law_often_end ?a_d_law_is_integer ?l_d_law_is_integer ?c_d_law_is_integer ?k_d_law_is_integer ?a_d_law_same ?l_d_law_same ?c_d_law_same ?k_d_law_same ?a_d_law_dates ?l_d_law_dates ?c_d_law_dates ?k_d_law_dates ?a_d_law_year_words ?l_d_law_year_words ?c_d_law_year_words ?k_d_law_year_words ?a_d_law_stretch_words ?l_d_law_stretch_words ?c_d_law_stretch_words ?k_d_law_stretch_words ?a_d_law_text ?l_d_law_text ?c_d_law_text ?k_d_law_text ?a_d_law_line ?l_d_law_line ?c_d_law_line ?k_d_law_line ?a_d_law_year_due ?l_d_law_year_due ?c_d_law_year_due ?k_d_law_year_due ?a_d_law_stretch_due ?l_d_law_stretch_due ?c_d_law_stretch_due ?k_d_law_stretch_due ?a_d_law_due ?l_d_law_due ?c_d_law_due ?k_d_law_due ?a_d_law_ask ?l_d_law_ask ?c_d_law_ask ?k_d_law_ask ?a_d_law_right ?l_d_law_right ?c_d_law_right ?k_d_law_right ?a_d_law_shuffled ?l_d_law_shuffled ?c_d_law_shuffled ?k_d_law_shuffled ?a_d_law_more_pairs ?l_d_law_more_pairs ?c_d_law_more_pairs ?k_d_law_more_pairs ?a_d_law_free_pairs ?l_d_law_free_pairs ?c_d_law_free_pairs ?k_d_law_free_pairs ?a_d_law_wrong_word ?l_d_law_wrong_word ?c_d_law_wrong_word ?k_d_law_wrong_word ?a_d_law_spoilt ?l_d_law_spoilt ?c_d_law_spoilt ?k_d_law_spoilt ?a_d_law_wrong_lines ?l_d_law_wrong_lines ?c_d_law_wrong_lines ?k_d_law_wrong_lines ?a_law ?l_law ?c_law ?k_law ?aC_BadText ?xL_BadText ?bm_ok_BadText ?sa_BadText ?ga_BadText ?gg_BadText ?no_BadText_line ?no_BadText_word ?iI_BadText ?tF_BadText ?l_BadText ?cd_ok_BadText ?kI_BadText ?kC_BadText ?eC_BadText ?tC_BadText ?hC_BadText ?iC_BadText ?sC_BadText ?aC_TextError ?aC_DataError ?aC_CallError ?aC_DeskError ?x1_BadText ?x2_BadText ?x3_BadText ?x4_BadText ?ki_0 ?ki_1 ?n_FIGURES ?n_WRITTEN_MOST ?n_YEAR_LEAST ?n_YEAR_MOST ?z_bool ?z_int ?z_isinstance ?z_len ?z_list ?z_max ?z_min ?z_range ?z_sorted ?z_str ?z_sum ?z_tuple
    (case a_make_dates => k_is); (case l_make_dates => k_is); (case c_make_dates => k_is); (case k_make_dates => k_is); (case a_words_of => k_is); (case l_words_of => k_is); (case c_words_of => k_is); (case k_words_of => k_is); (case a_parted_words => k_is); (case l_parted_words => k_is); (case c_parted_words => k_is); (case k_parted_words => k_is); (case a_written_integer => k_is); (case l_written_integer => k_is); (case c_written_integer => k_is); (case k_written_integer => k_is); (case a_year_text => k_is); (case l_year_text => k_is); (case c_year_text => k_is); (case k_year_text => k_is); (case a_year_from => k_is); (case l_year_from => k_is); (case c_year_from => k_is); (case k_year_from => k_is); (case a_stretch_text => k_is); (case l_stretch_text => k_is); (case c_stretch_text => k_is); (case k_stretch_text => k_is); (case a_dates_text => k_is); (case l_dates_text => k_is); (case c_dates_text => k_is); (case k_dates_text => k_is); (case a_stretch_from => k_is); (case l_stretch_from => k_is); (case c_stretch_from => k_is); (case k_stretch_from => k_is); (case a_dates_from => k_is); (case l_dates_from => k_is); (case c_dates_from => k_is); (case k_dates_from => k_is); (case a_read_dates => k_is); (case l_read_dates => k_is); (case c_read_dates => k_is); (case k_read_dates => k_is); (case a_d_law_pool => k_is); (case l_d_law_pool => k_is); (case c_d_law_pool => k_is); (case k_d_law_pool => k_is); (case a_d_law_draw => k_is); (case l_d_law_draw => k_is); (case c_d_law_draw => k_is); (case k_d_law_draw => k_is); (case a_d_law_often_end => k_is); (case l_d_law_often_end => k_is); (case c_d_law_often_end => k_is); (case k_d_law_often_end => k_is); (case a_d_law_is_integer => k_is); (case l_d_law_is_integer => k_is); (case c_d_law_is_integer => k_is); (case k_d_law_is_integer => k_is); (case a_d_law_same => k_is); (case l_d_law_same => k_is); (case c_d_law_same => k_is); (case k_d_law_same => k_is); (case a_d_law_dates => k_is); (case l_d_law_dates => k_is); (case c_d_law_dates => k_is); (case k_d_law_dates => k_is); (case a_d_law_year_words => k_is); (case l_d_law_year_words => k_is); (case c_d_law_year_words => k_is); (case k_d_law_year_words => k_is); (case a_d_law_stretch_words => k_is); (case l_d_law_stretch_words => k_is); (case c_d_law_stretch_words => k_is); (case k_d_law_stretch_words => k_is); (case a_d_law_text => k_is); (case l_d_law_text => k_is); (case c_d_law_text => k_is); (case k_d_law_text => k_is); (case a_d_law_line => k_is); (case l_d_law_line => k_is); (case c_d_law_line => k_is); (case k_d_law_line => k_is); (case a_d_law_year_due => k_is); (case l_d_law_year_due => k_is); (case c_d_law_year_due => k_is); (case k_d_law_year_due => k_is); (case a_d_law_stretch_due => k_is); (case l_d_law_stretch_due => k_is); (case c_d_law_stretch_due => k_is); (case k_d_law_stretch_due => k_is); (case a_d_law_due => k_is); (case l_d_law_due => k_is); (case c_d_law_due => k_is); (case k_d_law_due => k_is); (case a_d_law_ask => k_is); (case l_d_law_ask => k_is); (case c_d_law_ask => k_is); (case k_d_law_ask => k_is); (case a_d_law_right => k_is); (case l_d_law_right => k_is); (case c_d_law_right => k_is); (case k_d_law_right => k_is); (case a_d_law_shuffled => k_is); (case l_d_law_shuffled => k_is); (case c_d_law_shuffled => k_is); (case k_d_law_shuffled => k_is); (case a_d_law_more_pairs => k_is); (case l_d_law_more_pairs => k_is); (case c_d_law_more_pairs => k_is); (case k_d_law_more_pairs => k_is); (case a_d_law_free_pairs => k_is); (case l_d_law_free_pairs => k_is); (case c_d_law_free_pairs => k_is); (case k_d_law_free_pairs => k_is); (case a_d_law_wrong_word => k_is); (case l_d_law_wrong_word => k_is); (case c_d_law_wrong_word => k_is); (case k_d_law_wrong_word => k_is); (case a_d_law_spoilt => k_is); (case l_d_law_spoilt => k_is); (case c_d_law_spoilt => k_is); (case k_d_law_spoilt => k_is); (case a_d_law_wrong_lines => k_is); (case l_d_law_wrong_lines => k_is); (case c_d_law_wrong_lines => k_is); (case k_d_law_wrong_lines => k_is); (case a_law => k_is); (case l_law => k_is); (case c_law => k_is); (case k_law => k_is); (case aC_BadText => k_is); (case xL_BadText => k_is); (case bm_ok_BadText => first | rfl | decide +kernel); (case sa_BadText => k_is); (case ga_BadText => k_is); (case gg_BadText => k_is); (case no_BadText_line => k_is); (case no_BadText_word => k_is); (case iI_BadText => k_is); (case tF_BadText => k_is); (case l_BadText => k_is); (case cd_ok_BadText => k_is); (case kI_BadText => k_is); (case kC_BadText => k_is); (case eC_BadText => k_is); (case tC_BadText => k_is); (case hC_BadText => k_is); (case iC_BadText => k_is); (case sC_BadText => first | rfl | k_is); (case aC_TextError => k_is); (case aC_DataError => k_is); (case aC_CallError => k_is); (case aC_DeskError => k_is); (case x1_BadText => first | rfl | k_is); (case x2_BadText => first | rfl | k_is); (case x3_BadText => first | rfl | k_is); (case x4_BadText => first | rfl | k_is); (case ki_0 => first | rfl | k_is); (case ki_1 => first | rfl | k_is); (case n_FIGURES => first | rfl | k_is); (case n_WRITTEN_MOST => first | rfl | k_is); (case n_YEAR_LEAST => first | rfl | k_is); (case n_YEAR_MOST => first | rfl | k_is); (case z_bool => k_is); (case z_int => k_is); (case z_isinstance => k_is); (case z_len => k_is); (case z_list => k_is); (case z_max => k_is); (case z_min => k_is); (case z_range => k_is); (case z_sorted => k_is); (case z_str => k_is); (case z_sum => k_is); (case z_tuple => k_is)
