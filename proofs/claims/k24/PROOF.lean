import PyProof.Rows.All
import HandS.ForMost
import HandS.ForExc
import HandS.IsInst
import HandS.TupAny
import HandS.Wide
import HandS.Walk
import KE.SortData
import HandS.Style
import HandS.Flt
import HandS.ExcInit
import HandS.ExcField
import KE.GoesEnum
import HandS.Deep
import HandS.More
import HandS.RaiseMore
import PyProof.AutoSeq1
import HandS.DictComp
import HandS.TryOnly
import HandS.Strs
import HandS.Conv
import HandS.Zip
import KE.KDictZip
import HandS.Exc
import HandS.ExcIs
import HandS.Text
import HandS.FStr
import HandS.StrMore
import KE.KMathGC
import HandS.SetFor
import PySem.Challenge.RW_beforeinall_k24_orders_and_their_records
set_option Elab.async false
set_option linter.all false
set_option maxRecDepth 100000
set_option maxHeartbeats 4000000
/-! Mi: mirrors of defs over pure values and a store; each combinator is held by the hand layer's judgements. -/
namespace Mi
open PySem PySem.Spec PyProof.Rows L2
/-! ### values, store, results -/
/-- a value: tuples are data; fl: a list that is never written; loc: a place of the store -/
inductive D where
  | non | bl (b : Bool) | int (i : Int) | str (x : Str)
  | tup (xs : List D) | fl (xs : List D) | loc (l : Nat) | exv (a dd : Addr) (c : Str) (fs : List (Str × D))
inductive Cell where
  | lst (xs : List D) | dic (kvs : List (Key × D)) | dct (kvs : List (List Key × D))
abbrev Store := List Cell
structure Ex where
  cls : Str
  fs : List (Str × D)
inductive R (α : Type) where
  | ok (a : α) (s : Store) | ex (e : Ex) (s : Store) | no
namespace R
def bind {α β : Type} (r : R α) (k : α → Store → R β) : R β := match r with
  | .ok a s => k a s
  | .ex e s => .ex e s
  | .no => .no
def of {α : Type} : Option (α × Store) → R α
  | some (a, s) => .ok a s
  | none => .no
@[simp] theorem bind_ok {α β : Type} (a : α) (s : Store) (k : α → Store → R β) : (R.ok a s).bind k = k a s := rfl
@[simp] theorem bind_ex {α β : Type} (e : Ex) (s : Store) (k : α → Store → R β) : (R.ex e s : R α).bind k = .ex e s := rfl
@[simp] theorem bind_no {α β : Type} (k : α → Store → R β) : (R.no : R α).bind k = .no := rfl
@[simp] theorem of_some {α : Type} (a : α) (s : Store) : R.of (some (a, s)) = .ok a s := rfl
@[simp] theorem of_none {α : Type} : (R.of none : R α) = .no := rfl
end R
/-- the slots of a def's names -/
abbrev Sl := List (Option D)
inductive RS where
  | nx (env : Sl) (s : Store) | rt (d : D) (s : Store) | bk (env : Sl) (s : Store) | ct (env : Sl) (s : Store) | ex (e : Ex) (env : Sl) (s : Store) | no
/-! ### the relation to the hand layer's heap -/
section
variable (K : PySem.W.Frag)
/-- a list that is never written: known to the object, or of the module -/
def FrL (H : Hp) (a : Addr) (vs : List V) : Prop :=
  (∃ o, H a = some (.frz o (.lst vs))) ∨
    ∃ (o : Obj) (its : Array Value) (n : Nat), K.lookup a = some o ∧ o.cls = .type "list" ∧ o.dict = none ∧ o.data = .seq its n ∧ its.size ≤ sizeLine ∧ Vals vs its.toList
theorem FrL.sq {K : PySem.W.Frag} {H : Hp} {a : Addr} {vs : List V} (h : FrL K H a vs) : SqL K H a vs := by
  rcases h with ⟨o, h⟩ | h
  · exact .inl (.inr ⟨o, h⟩)
  · exact .inr h
mutual
inductive Rep (m : List Addr) (H : Hp) : D → V → Prop where
  | non : Rep m H .non .non
  | bl (b : Bool) : Rep m H (.bl b) (.bl b)
  | int (i : Int) : Rep m H (.int i) (.int i)
  | str (x : Str) : Rep m H (.str x) (.str x)
  | tup {xs : List D} {a : Addr} {vs : List V} (h : H a = some (.tup vs)) (r : Reps m H xs vs) : Rep m H (.tup xs) (.ref a)
  | fl {xs : List D} {a : Addr} {vs : List V} (h : FrL K H a vs) (r : Reps m H xs vs) : Rep m H (.fl xs) (.ref a)
  | loc {l : Nat} {a : Addr} (h : m[l]? = some a) : Rep m H (.loc l) (.ref a)
  | exv {c : Str} {fs : List (Str × D)} {a dd : Addr} {vfs : List (Str × V)} (h : H dd = some (.xd vfs)) (n : dd ∉ m) (r : FldR m H fs vfs) : Rep m H (.exv a dd c fs) (.ref a)
inductive Reps (m : List Addr) (H : Hp) : List D → List V → Prop where
  | nil : Reps m H [] []
  | cons {x : D} {v : V} {xs : List D} {vs : List V} (h : Rep m H x v) (r : Reps m H xs vs) : Reps m H (x :: xs) (v :: vs)
inductive FldR (m : List Addr) (H : Hp) : List (Str × D) → List (Str × V) → Prop where
  | nil : FldR m H [] []
  | cons {f : Str} {x : D} {v : V} {xs : List (Str × D)} {vs : List (Str × V)} (h : Rep m H x v) (r : FldR m H xs vs) : FldR m H ((f, x) :: xs) ((f, v) :: vs)
end
inductive RepK {κ : Type} (m : List Addr) (H : Hp) : List (κ × D) → List (κ × V) → Prop where
  | nil : RepK m H [] []
  | cons {k : κ} {x : D} {v : V} {xs : List (κ × D)} {vs : List (κ × V)} (h : Rep K m H x v) (r : RepK m H xs vs) : RepK m H ((k, x) :: xs) ((k, v) :: vs)
def CellR (m : List Addr) (H : Hp) (a : Addr) : Cell → Prop
  | .lst xs => ∃ vs, H a = some (.lst vs) ∧ Reps K m H xs vs
  | .dic kvs => ∃ ws, H a = some (.dK ws) ∧ RepK K m H kvs ws
  | .dct kvs => ∃ ws, H a = some (.dT ws) ∧ RepK K m H kvs ws
structure Rel (m : List Addr) (H : Hp) (s : Store) : Prop where
  len : m.length = s.length
  nd : m.Nodup
  at_ : ∀ (l : Nat) (a : Addr) (c : Cell), m[l]? = some a → s[l]? = some c → CellR K m H a c
/-- later: what was there is there; tuples and the lists that are never written stand; what is no cell of ours stands -/
structure Le (m : List Addr) (H : Hp) (m' : List Addr) (H' : Hp) : Prop where
  pre : ∃ r, m' = m ++ r
  tup : ∀ a xs, SqT K H a xs → SqT K H' a xs
  frl : ∀ a xs, FrL K H a xs → FrL K H' a xs
  fr : ∀ b o, H b = some o → b ∉ m → H' b = some o
  nw : ∀ b, b ∈ m' → b ∈ m ∨ H b = none
  trk : ∀ a xs, H a = some (.tup xs) → H' a = some (.tup xs)
def RelE (m : List Addr) (H : Hp) (env : Sl) (σ : L2.St) : Prop :=
  env.length = σ.length ∧ ∀ (i : Nat) (d : D), env[i]? = some (some d) → ∃ v, σ[i]? = some (some v) ∧ Rep K m H d v
end
section
variable {K : PySem.W.Frag} {m m1 m2 : List Addr} {H H1 H2 : Hp} {s : Store} {a b p : Addr} {c : Cell}
theorem Le.refl : Le K m H m H := ⟨⟨[], by simp⟩, fun _ _ h => h, fun _ _ h => h, fun _ _ h _ => h, fun _ h => .inl h, fun _ _ h => h⟩
theorem Le.get (e : Le K m H m1 H1) {l : Nat} (h : m[l]? = some a) : m1[l]? = some a := by
  obtain ⟨r, rfl⟩ := e.pre
  rw [List.getElem?_append_left (by
    rcases Nat.lt_or_ge l m.length with q | q
    · exact q
    · rw [List.getElem?_eq_none q] at h; cases h)]
  exact h
theorem Le.trans (e : Le K m H m1 H1) (f : Le K m1 H1 m2 H2) : Le K m H m2 H2 := by
  refine ⟨?_, fun a xs h => f.tup a xs (e.tup a xs h), fun a xs h => f.frl a xs (e.frl a xs h), fun b o h n => ?_, fun b h => ?_, fun a xs h => f.trk a xs (e.trk a xs h)⟩
  · obtain ⟨r, rfl⟩ := e.pre
    obtain ⟨r2, rfl⟩ := f.pre
    exact ⟨r ++ r2, by simp⟩
  · refine f.fr b o (e.fr b o h n) fun z => ?_
    rcases e.nw b z with q | q
    · exact n q
    · rw [h] at q; cases q
  · by_cases z : b ∈ m
    · exact .inl z
    · rcases f.nw b h with q | q
      · exact e.nw b q
      · refine .inr ?_
        cases w : H b with
        | none => rfl
        | some o =>
          rw [e.fr b o w z] at q; cases q
mutual
theorem Rep.mono (e : Le K m H m1 H1) : ∀ {d : D} {v : V}, Rep K m H d v → Rep K m1 H1 d v
  | _, _, .non => .non
  | _, _, .bl b => .bl b
  | _, _, .int i => .int i
  | _, _, .str x => .str x
  | _, _, .tup h r => .tup (e.trk _ _ h) (Reps.mono e r)
  | _, _, .fl h r => .fl (e.frl _ _ h) (Reps.mono e r)
  | _, _, .loc h => .loc (e.get h)
  | _, _, .exv h n r => .exv (e.fr _ _ h n) (fun z => (e.nw _ z).elim n fun q => by rw [h] at q; cases q) (FldR.mono e r)
theorem Reps.mono (e : Le K m H m1 H1) : ∀ {ds : List D} {vs : List V}, Reps K m H ds vs → Reps K m1 H1 ds vs
  | _, _, .nil => .nil
  | _, _, .cons h r => .cons (Rep.mono e h) (Reps.mono e r)
theorem FldR.mono (e : Le K m H m1 H1) : ∀ {ds : List (Str × D)} {vs : List (Str × V)}, FldR K m H ds vs → FldR K m1 H1 ds vs
  | _, _, .nil => .nil
  | _, _, .cons h r => .cons (Rep.mono e h) (FldR.mono e r)
end
theorem RepK.mono {κ : Type} (e : Le K m H m1 H1) : ∀ {ds : List (κ × D)} {vs : List (κ × V)}, RepK K m H ds vs → RepK K m1 H1 ds vs
  | _, _, .nil => .nil
  | _, _, .cons h r => .cons (h.mono e) (RepK.mono e r)
theorem RelE.mono (e : Le K m H m1 H1) {env : Sl} {σ : L2.St} (h : RelE K m H env σ) : RelE K m1 H1 env σ :=
  ⟨h.1, fun i d q => let ⟨v, h1, h2⟩ := h.2 i d q; ⟨v, h1, h2.mono e⟩⟩
theorem Reps.length : ∀ {xs : List D} {vs : List V}, Reps K m H xs vs → xs.length = vs.length
  | _, _, .nil => rfl
  | _, _, .cons _ r => by simp [Reps.length r]
theorem Reps.get : ∀ {xs : List D} {vs : List V} {i : Nat} {x : D}, Reps K m H xs vs → xs[i]? = some x → ∃ v, vs[i]? = some v ∧ Rep K m H x v
  | _, _, _, _, .nil, e => by simp at e
  | _, _, 0, _, .cons h _, e => by simp at e; subst e; exact ⟨_, rfl, h⟩
  | _, _, i + 1, x, .cons _ r, e => by
    obtain ⟨v, h1, h2⟩ := Reps.get (i := i) (x := x) r (by simpa using e)
    exact ⟨v, by simpa using h1, h2⟩
theorem Reps.append : ∀ {xs ys : List D} {vs ws : List V}, Reps K m H xs vs → Reps K m H ys ws → Reps K m H (xs ++ ys) (vs ++ ws)
  | _, _, _, _, .nil, q => q
  | _, _, _, _, .cons h r, q => .cons h (Reps.append r q)
theorem Reps.take : ∀ {xs : List D} {vs : List V} (n : Nat), Reps K m H xs vs → Reps K m H (xs.take n) (vs.take n)
  | _, _, 0, _ => .nil
  | _, _, _ + 1, .nil => .nil
  | _, _, n + 1, .cons h r => .cons h (Reps.take n r)
theorem Reps.drop : ∀ {xs : List D} {vs : List V} (n : Nat), Reps K m H xs vs → Reps K m H (xs.drop n) (vs.drop n)
  | _, _, 0, r => r
  | _, _, _ + 1, .nil => .nil
  | _, _, n + 1, .cons _ r => Reps.drop n r
theorem Reps.set {x : D} {v : V} (h : Rep K m H x v) : ∀ {xs : List D} {vs : List V} (i : Nat), Reps K m H xs vs → Reps K m H (xs.set i x) (vs.set i v)
  | _, _, _, .nil => .nil
  | _, _, 0, .cons _ r => .cons h r
  | _, _, i + 1, .cons q r => .cons q (Reps.set h i r)
theorem Reps.dropLast : ∀ {xs : List D} {vs : List V}, Reps K m H xs vs → Reps K m H xs.dropLast vs.dropLast
  | _, _, .nil => .nil
  | _, _, .cons _ .nil => .nil
  | _, _, .cons h (.cons h2 r) => by
    rw [List.dropLast_cons₂, List.dropLast_cons₂]
    exact .cons h (Reps.dropLast (.cons h2 r))
theorem Reps.erase : ∀ {xs : List D} {vs : List V} (i : Nat), Reps K m H xs vs → Reps K m H (xs.eraseIdx i) (vs.eraseIdx i)
  | _, _, _, .nil => .nil
  | _, _, 0, .cons _ r => r
  | _, _, i + 1, .cons q r => .cons q (Reps.erase i r)
theorem Reps.reverse {xs : List D} {vs : List V} (h : Reps K m H xs vs) : Reps K m H xs.reverse vs.reverse := by
  induction xs generalizing vs with
  | nil => cases h; exact .nil
  | cons x xs ih =>
    cases h with
    | cons h r =>
      rw [List.reverse_cons, List.reverse_cons]
      exact (ih r).append (.cons h .nil)
theorem Reps.ints : ∀ {ns : List Int} {vs : List V}, Reps K m H (ns.map D.int) vs → vs = ns.map V.int
  | [], _, .nil => rfl
  | n :: ns, _, .cons h r => by
    cases h
    rw [List.map_cons, Reps.ints r]
theorem reps_ints (ns : List Int) : Reps K m H (ns.map D.int) (ns.map V.int) := by
  induction ns with
  | nil => exact .nil
  | cons n ns ih => exact .cons (.int n) ih
/-! ### changes of the heap -/
theorem Rel.lt (r : Rel K m H s) {l : Nat} (h : m[l]? = some a) : l < s.length := by
  rw [← r.len]
  rcases Nat.lt_or_ge l m.length with q | q
  · exact q
  · rw [List.getElem?_eq_none q] at h; cases h
theorem Rel.there (r : Rel K m H s) (h : b ∈ m) : (∃ vs, H b = some (.lst vs)) ∨ (∃ ws, H b = some (.dK ws)) ∨ ∃ ws, H b = some (.dT ws) := by
  obtain ⟨l, hl⟩ := List.getElem?_of_mem h
  have q := r.lt hl
  obtain ⟨c, hc⟩ : ∃ c, s[l]? = some c := ⟨s[l], by simp [q]⟩
  have x := r.at_ l b c hl hc
  cases c with
  | lst xs => obtain ⟨vs, e, _⟩ := x; exact .inl ⟨vs, e⟩
  | dic kvs => obtain ⟨ws, e, _⟩ := x; exact .inr (.inl ⟨ws, e⟩)
  | dct kvs => obtain ⟨ws, e, _⟩ := x; exact .inr (.inr ⟨ws, e⟩)
theorem Rel.has (r : Rel K m H s) (h : b ∈ m) : ∃ o, H b = some o ∧ (∀ xs, o ≠ .tup xs) ∧ ∀ u x, o ≠ .frz u x := by
  rcases r.there h with ⟨vs, e⟩ | ⟨ws, e⟩ | ⟨ws, e⟩
  · exact ⟨_, e, fun _ z => (by cases z), fun _ _ z => (by cases z)⟩
  · exact ⟨_, e, fun _ z => (by cases z), fun _ _ z => (by cases z)⟩
  · exact ⟨_, e, fun _ z => (by cases z), fun _ _ z => (by cases z)⟩
theorem Rel.new_notin (r : Rel K m H s) (h : H p = none) : p ∉ m := fun z => by
  obtain ⟨o, e, _⟩ := r.has z
  rw [h] at e; cases e
/-- any object laid at a free place, or written at a place that is neither tuple nor frozen -/
theorem le_upd {o : HO} (hp : ∀ u, H p = Option.some u → p ∈ m) (hm : ∀ u, H p = Option.some u → (∀ xs, u ≠ .tup xs) ∧ ∀ ob x, u ≠ .frz ob x) : Le K m H m (upd H p o) := by
  refine ⟨⟨[], by simp⟩, fun b xs h => ?_, fun b xs h => ?_, fun b u h n => ?_, fun b h => .inl h, fun b xs h => by rw [upd_ne (fun z => by subst z; exact (hm _ h).1 xs rfl)]; exact h⟩
  · rcases h with (h | ⟨ob, h⟩) | h
    · exact .inl (.inl (by rw [upd_ne (fun z => by subst z; exact (hm _ h).1 xs rfl)]; exact h))
    · exact .inl (.inr ⟨ob, by rw [upd_ne (fun z => by subst z; exact (hm _ h).2 _ _ rfl)]; exact h⟩)
    · exact .inr h
  · rcases h with ⟨ob, h⟩ | h
    · exact .inl ⟨ob, by rw [upd_ne (fun z => by subst z; exact (hm _ h).2 _ _ rfl)]; exact h⟩
    · exact .inr h
  · rw [upd_ne (fun z => by subst z; exact n (hp _ h))]; exact h
theorem le_new {o : HO} (hp : H p = none) : Le K m H m (upd H p o) :=
  le_upd (fun u h => by rw [hp] at h; cases h) (fun u h => by rw [hp] at h; cases h)
theorem le_put (r : Rel K m H s) (h : p ∈ m) {o : HO} : Le K m H m (upd H p o) :=
  le_upd (fun _ _ => h) (fun u e => by
    obtain ⟨o', e', q⟩ := r.has h
    rw [e] at e'; cases e'
    exact q)
theorem le_more (r : Rel K m H s) (hp : H p = none) {o : HO} : Le K m H (m ++ [p]) (upd H p o) := by
  have e : Le K m H m (upd H p o) := le_new hp
  refine ⟨⟨[p], rfl⟩, e.tup, e.frl, e.fr, fun b h => ?_, e.trk⟩
  rcases List.mem_append.mp h with q | q
  · exact .inl q
  · rw [List.mem_singleton.mp q]; exact .inr hp
theorem CellR.mono {m' : List Addr} {H' : Hp} (e : Le K m H m' H') (hs : H' a = H a) (h : CellR K m H a c) : CellR K m' H' a c := by
  cases c with
  | lst xs => obtain ⟨vs, h1, h2⟩ := h; exact ⟨vs, hs.trans h1, h2.mono e⟩
  | dic kvs => obtain ⟨ws, h1, h2⟩ := h; exact ⟨ws, hs.trans h1, h2.mono e⟩
  | dct kvs => obtain ⟨ws, h1, h2⟩ := h; exact ⟨ws, hs.trans h1, h2.mono e⟩
/-- an object that is no cell is laid -/
theorem Rel.tmp (r : Rel K m H s) (hp : H p = none) {o : HO} : Rel K m (upd H p o) s :=
  ⟨r.len, r.nd, fun l a c h1 h2 => (r.at_ l a c h1 h2).mono (le_new hp) (upd_ne fun z => by subst z; exact r.new_notin hp (List.mem_of_getElem? h1))⟩
theorem Rel.put (r : Rel K m H s) {l : Nat} (h : m[l]? = Option.some p) {o : HO} {c : Cell} (hc : CellR K m (upd H p o) p c) : Rel K m (upd H p o) (s.set l c) := by
  refine ⟨by rw [List.length_set]; exact r.len, r.nd, fun j b d h1 h2 => ?_⟩
  by_cases hj : j = l
  · subst hj
    rw [h] at h1; cases h1
    rw [List.getElem?_set_self (r.lt h)] at h2; cases h2
    exact hc
  · rw [List.getElem?_set_ne (Ne.symm hj)] at h2
    refine (r.at_ j b d h1 h2).mono (le_put r (List.mem_of_getElem? h)) (upd_ne fun z => hj ?_)
    subst z
    exact nd_ix r.nd h1 h
theorem Rel.new (r : Rel K m H s) (hp : H p = none) {o : HO} {c : Cell} (hc : CellR K (m ++ [p]) (upd H p o) p c) : Rel K (m ++ [p]) (upd H p o) (s ++ [c]) := by
  have hn := r.new_notin hp
  refine ⟨by simp [r.len], ?_, fun j b d h1 h2 => ?_⟩
  · rw [List.nodup_append]
    exact ⟨r.nd, by simp, fun x hx y hy => by rw [List.mem_singleton.mp hy]; exact fun z => hn (z ▸ hx)⟩
  · rcases Nat.lt_or_ge j m.length with q | q
    · rw [List.getElem?_append_left q] at h1
      rw [List.getElem?_append_left (by rw [← r.len]; exact q)] at h2
      exact (r.at_ j b d h1 h2).mono (le_more r hp) (upd_ne fun z => by subst z; exact hn (List.mem_of_getElem? h1))
    · rw [List.getElem?_append_right q] at h1
      rw [List.getElem?_append_right (by rw [← r.len]; exact q), ← r.len] at h2
      cases hk : j - m.length with
      | zero =>
        rw [hk] at h1 h2
        simp at h1 h2
        subst h1; subst h2
        exact hc
      | succ n => rw [hk] at h1; simp at h1
theorem len_get (r : Rel K m H s) : (m ++ [p])[s.length]? = some p := by
  rw [← r.len, List.getElem?_append_right (Nat.le_refl _)]; simp
/-- a new tuple -/
theorem rep_newtup {xs : List D} {vs : List V} (hp : H p = none) (h : Reps K m H xs vs) : Rep K m (upd H p (.tup vs)) (.tup xs) (.ref p) :=
  .tup upd_same (h.mono (le_new hp))
/-- a new list -/
theorem rel_newlist {xs : List D} {vs : List V} (r : Rel K m H s) (hp : H p = none) (h : Reps K m H xs vs) : Rel K (m ++ [p]) (upd H p (.lst vs)) (s ++ [.lst xs]) :=
  r.new hp ⟨vs, upd_same, h.mono (le_more r hp)⟩
theorem Rel.list (r : Rel K m H s) {l : Nat} {xs : List D} (h : m[l]? = Option.some a) (hs : s[l]? = Option.some (.lst xs)) : ∃ vs, H a = Option.some (.lst vs) ∧ Reps K m H xs vs := r.at_ l a _ h hs
end
/-- a list that is being made is no cell yet: what a value's standing needs -/
structure Lw (K : PySem.W.Frag) (m : List Addr) (H : Hp) (m' : List Addr) (H' : Hp) : Prop where
  pre : ∃ r, m' = m ++ r
  tup : ∀ a xs, SqT K H a xs → SqT K H' a xs
  frl : ∀ a xs, FrL K H a xs → FrL K H' a xs
  xd : ∀ b vfs, H b = some (.xd vfs) → b ∉ m → H' b = some (.xd vfs) ∧ b ∉ m'
  trk : ∀ a xs, H a = some (.tup xs) → H' a = some (.tup xs)
section
variable {K : PySem.W.Frag} {mg : Str → Option Value} {m m1 m2 : List Addr} {H H1 H2 : Hp} {s : Store} {p : Addr}
theorem Le.w (e : Le K m H m1 H1) : Lw K m H m1 H1 := ⟨e.pre, e.tup, e.frl, fun b vfs h n => ⟨e.fr _ _ h n, fun z => (e.nw _ z).elim n fun q => by rw [h] at q; cases q⟩, e.trk⟩
theorem Lw.get (e : Lw K m H m1 H1) {l : Nat} {a : Addr} (h : m[l]? = some a) : m1[l]? = some a := by
  obtain ⟨r, rfl⟩ := e.pre
  rw [List.getElem?_append_left (by
    rcases Nat.lt_or_ge l m.length with q | q
    · exact q
    · rw [List.getElem?_eq_none q] at h; cases h)]
  exact h
mutual
theorem Rep.monoW (e : Lw K m H m1 H1) : ∀ {d : D} {v : V}, Rep K m H d v → Rep K m1 H1 d v
  | _, _, .non => .non
  | _, _, .bl b => .bl b
  | _, _, .int i => .int i
  | _, _, .str x => .str x
  | _, _, .tup h r => .tup (e.trk _ _ h) (Reps.monoW e r)
  | _, _, .fl h r => .fl (e.frl _ _ h) (Reps.monoW e r)
  | _, _, .loc h => .loc (e.get h)
  | _, _, .exv h n r => .exv (e.xd _ _ h n).1 (e.xd _ _ h n).2 (FldR.monoW e r)
theorem Reps.monoW (e : Lw K m H m1 H1) : ∀ {ds : List D} {vs : List V}, Reps K m H ds vs → Reps K m1 H1 ds vs
  | _, _, .nil => .nil
  | _, _, .cons h r => .cons (Rep.monoW e h) (Reps.monoW e r)
theorem FldR.monoW (e : Lw K m H m1 H1) : ∀ {ds : List (Str × D)} {vs : List (Str × V)}, FldR K m H ds vs → FldR K m1 H1 ds vs
  | _, _, .nil => .nil
  | _, _, .cons h r => .cons (Rep.monoW e h) (FldR.monoW e r)
end
theorem RepK.monoW {κ : Type} (e : Lw K m H m1 H1) : ∀ {ds : List (κ × D)} {vs : List (κ × V)}, RepK K m H ds vs → RepK K m1 H1 ds vs
  | _, _, .nil => .nil
  | _, _, .cons h r => .cons (h.monoW e) (RepK.monoW e r)
theorem RelE.monoW (e : Lw K m H m1 H1) {env : Sl} {σ : L2.St} (h : RelE K m H env σ) : RelE K m1 H1 env σ :=
  ⟨h.1, fun i d q => let ⟨v, h1, h2⟩ := h.2 i d q; ⟨v, h1, h2.monoW e⟩⟩
theorem CellR.monoW {c : Cell} {a : Addr} (e : Lw K m H m1 H1) (hs : H1 a = H a) (h : CellR K m H a c) : CellR K m1 H1 a c := by
  cases c with
  | lst xs => obtain ⟨vs, h1, h2⟩ := h; exact ⟨vs, hs.trans h1, h2.monoW e⟩
  | dic kvs => obtain ⟨ws, h1, h2⟩ := h; exact ⟨ws, hs.trans h1, h2.monoW e⟩
  | dct kvs => obtain ⟨ws, h1, h2⟩ := h; exact ⟨ws, hs.trans h1, h2.monoW e⟩
/-- a list of ours that is no cell is written -/
theorem lw_side {vs ws : List V} (h : H p = some (.lst vs)) : Lw K m H m (upd H p (HO.lst ws)) :=
  ⟨⟨[], by simp⟩, fun b xs q => by
    rcases q with (q | ⟨ob, q⟩) | q
    · exact .inl (.inl (by rw [upd_ne (fun z => by subst z; rw [h] at q; cases q)]; exact q))
    · exact .inl (.inr ⟨ob, by rw [upd_ne (fun z => by subst z; rw [h] at q; cases q)]; exact q⟩)
    · exact .inr q, fun b xs q => by
    rcases q with ⟨ob, q⟩ | q
    · exact .inl ⟨ob, by rw [upd_ne (fun z => by subst z; rw [h] at q; cases q)]; exact q⟩
    · exact .inr q, fun b vfs q n => ⟨by rw [upd_ne (fun z => by subst z; rw [h] at q; cases q)]; exact q, n⟩, fun b xs q => by rw [upd_ne (fun z => by subst z; rw [h] at q; cases q)]; exact q⟩
theorem Rel.side (r : Rel K m H s) {vs ws : List V} (h : H p = some (.lst vs)) (n : p ∉ m) : Rel K m (upd H p (HO.lst ws)) s :=
  ⟨r.len, r.nd, fun l a c h1 h2 => (r.at_ l a c h1 h2).monoW (lw_side h) (upd_ne fun z => by subst z; exact n (List.mem_of_getElem? h1))⟩
theorem Le.side (e : Le K m H m1 H1) {vs ws : List V} (h0 : H p = none) (h : H1 p = some (.lst vs)) : Le K m H m1 (upd H1 p (HO.lst ws)) :=
  ⟨e.pre, fun a xs q => (lw_side (m := m1) h).tup a xs (e.tup a xs q), fun a xs q => (lw_side (m := m1) h).frl a xs (e.frl a xs q), fun b o q n => by
    rw [upd_ne (fun z => by subst z; rw [h0] at q; cases q)]; exact e.fr b o q n, e.nw, fun a xs q => (lw_side (K := K) (m := m1) h).trk a xs (e.trk a xs q)⟩
theorem lw_adopt {vs : List V} (h : H p = some (.lst vs)) : Lw K m H (m ++ [p]) H := ⟨⟨[p], rfl⟩, fun _ _ q => q, fun _ _ q => q, fun b vfs q n => ⟨q, fun z => by
    rcases List.mem_append.mp z with z | z
    · exact n z
    · rw [List.mem_singleton.mp z, h] at q; cases q⟩, fun _ _ q => q⟩
theorem Rel.adopt (r : Rel K m H s) {xs : List D} {vs : List V} (n : p ∉ m) (h : H p = some (.lst vs)) (q : Reps K m H xs vs) : Rel K (m ++ [p]) H (s ++ [Cell.lst xs]) := by
  refine ⟨by simp [r.len], ?_, fun j b d h1 h2 => ?_⟩
  · rw [List.nodup_append]
    exact ⟨r.nd, by simp, fun x hx y hy => by rw [List.mem_singleton.mp hy]; exact fun z => n (z ▸ hx)⟩
  · rcases Nat.lt_or_ge j m.length with w | w
    · rw [List.getElem?_append_left w] at h1
      rw [List.getElem?_append_left (by rw [← r.len]; exact w)] at h2
      exact (r.at_ j b d h1 h2).monoW (lw_adopt h) rfl
    · rw [List.getElem?_append_right w] at h1
      rw [List.getElem?_append_right (by rw [← r.len]; exact w), ← r.len] at h2
      cases hk : j - m.length with
      | zero =>
        rw [hk] at h1 h2
        simp at h1 h2
        subst h1; subst h2
        exact ⟨vs, h, q.monoW (lw_adopt h)⟩
      | succ n => rw [hk] at h1; simp at h1
theorem Le.adopt (e : Le K m H m1 H1) (h0 : H p = none) : Le K m H (m1 ++ [p]) H1 := by
  refine ⟨?_, e.tup, e.frl, e.fr, fun b h => ?_, e.trk⟩
  · obtain ⟨r, rfl⟩ := e.pre
    exact ⟨r ++ [p], by simp⟩
  · rcases List.mem_append.mp h with q | q
    · exact e.nw b q
    · rw [List.mem_singleton.mp q]; exact .inr h0
end
end Mi
namespace Mi
open PySem PySem.Spec PyProof.Rows L2
/-! ### readings of mirrors -/
section
variable (K : PySem.W.Frag) (mg : Str → Option Value)
/-- an exception: its class, its own dict -/
def ExR (m : List Addr) (H : Hp) (e : Ex) (c : Value) (dd : Option Addr) : Prop :=
  mg e.cls = some c ∧ ((e.fs = [] ∧ dd = none) ∨ ∃ d vfs, dd = some d ∧ H d = some (.xd vfs) ∧ d ∉ m ∧ FldR K m H e.fs vfs)
/-- what a result is to bring about -/
def G {α β : Type} (ρ : List Addr → Hp → α → β → Prop) (W : WX) (σ : L2.St) (m : List Addr) (H : Hp) (Q : β → Hp → Prop) : R α → Prop
  | .ok a s => ∀ m' H' b, Le K m H m' H' → Rel K m' H' s → ρ m' H' a b → Q b H'
  | .ex e s => ∀ m' H' c dd, Le K m H m' H' → Rel K m' H' s → ExR K mg m' H' e c dd → W c dd σ H'
  | .no => False
def Tm {α β : Type} (ρ : List Addr → Hp → α → β → Prop) (W : WX) (f : Sl → Store → R α) : L2.St → Hp → (β → Hp → Prop) → Prop := fun σ H Q =>
  ∃ m env s, Rel K m H s ∧ RelE K m H env σ ∧ G K mg ρ W σ m H Q (f env s)
abbrev ME (α : Type) := Sl → Store → R α
/-- a test's -/
def ρB : List Addr → Hp → Bool → Bool → Prop := fun _ _ a b => a = b
abbrev Te (W : WX) (f : ME D) : TE := Tm K mg (Rep K) W f
abbrev Tt (W : WX) (f : ME Bool) : TT := Tm K mg ρB W f
abbrev Ta (W : WX) (f : ME (List D)) : TA := Tm K mg (Reps K) W f
end
section
variable {K : PySem.W.Frag} {mg : Str → Option Value} {m m1 : List Addr} {H H1 : Hp} {s : Store} {W : WX} {σ : L2.St}
section
variable {α α' β β' : Type} {ρ : List Addr → Hp → α → β → Prop} {ρ' : List Addr → Hp → α' → β' → Prop} {Q : β → Hp → Prop} {Q' : β' → Hp → Prop}
theorem G.mono (e : Le K m H m1 H1) {r : R α} (h : G K mg ρ W σ m H Q r) : G K mg ρ W σ m1 H1 Q r := by
  cases r with
  | ok a s => exact fun m' H' b l r q => h m' H' b (e.trans l) r q
  | ex x s => exact fun m' H' c d l r q => h m' H' c d (e.trans l) r q
  | no => exact h
theorem G.bind {r : R α} {k : α → Store → R α'} (h : G K mg ρ' W σ m H Q' (r.bind k))
    (q : ∀ m1 H1 a b s1, Le K m H m1 H1 → Rel K m1 H1 s1 → ρ m1 H1 a b → G K mg ρ' W σ m1 H1 Q' (k a s1) → Q b H1) : G K mg ρ W σ m H Q r := by
  cases r with
  | ok a s => exact fun m' H' b l r p => q m' H' a b s l r p (G.mono l h)
  | ex x s => exact h
  | no => exact h
theorem G.imp {r : R α} (h : G K mg ρ W σ m H Q r) {Q1 : β → Hp → Prop} (q : ∀ m' H' a b s, r = .ok a s → Le K m H m' H' → Rel K m' H' s → ρ m' H' a b → Q b H' → Q1 b H') : G K mg ρ W σ m H Q1 r := by
  cases r with
  | ok a s => exact fun m' H' b l r p => q m' H' a b s rfl l r p (h m' H' b l r p)
  | ex x s => exact h
  | no => exact h
/-- run the first part -/
theorem Tm.bind {f : Sl → Store → R α} {k : Sl → α → Store → R α'} (h : Tm K mg ρ' W (fun env s => (f env s).bind (k env)) σ H Q')
    (q : ∀ m1 H1 env a b s1, Rel K m1 H1 s1 → RelE K m1 H1 env σ → ρ m1 H1 a b → G K mg ρ' W σ m1 H1 Q' (k env a s1) → Q b H1) : Tm K mg ρ W f σ H Q := by
  obtain ⟨m, env, s, r, e, g⟩ := h
  exact ⟨m, env, s, r, e, G.bind g fun m1 H1 a b s1 l r1 p g1 => q m1 H1 env a b s1 r1 (e.mono l) p g1⟩
/-- a further part runs -/
theorem Tm.of {f : Sl → Store → R α} {env : Sl} (r : Rel K m H s) (e : RelE K m H env σ) (g : G K mg ρ W σ m H Q (f env s)) : Tm K mg ρ W f σ H Q := ⟨m, env, s, r, e, g⟩
end
/-- the end: a value that is there -/
theorem G.now {d : D} {v : V} {Q : VK} (h : G K mg (Rep K) W σ m H Q (.ok d s)) (r : Rel K m H s) (p : Rep K m H d v) : Q v H := h m H v .refl r p
theorem G.nowB {d : Bool} {Q : Bool → Hp → Prop} (h : G K mg ρB W σ m H Q (.ok d s)) (r : Rel K m H s) : Q d H := h m H d .refl r rfl
end
theorem PE.imp {X : Cx} {e : Expr} {t t' : TE} (h : PE X e t) (i : ∀ σ H Q, t' σ H Q → t σ H Q) : PE X e t' := ⟨fun pins s σ H Q I q => h.run pins s σ H Q I (i σ H Q q)⟩
theorem PT.imp {X : Cx} {e : Expr} {t t' : TT} (h : PT X e t) (i : ∀ σ H Q, t' σ H Q → t σ H Q) : PT X e t' := ⟨fun pins s σ H Q I q => h.run pins s σ H Q I (i σ H Q q)⟩
theorem PW.imp {X : Cx} {e : Expr} {t t' : TT} (h : PW X e t) (i : ∀ σ H Q, t' σ H Q → t σ H Q) : PW X e t' := ⟨fun wh pins s σ H Q I q => h.run wh pins s σ H Q I (i σ H Q q)⟩
theorem PA.imp {X : Cx} {e : List Expr} {t t' : TA} (h : PA X e t) (i : ∀ σ H Q, t' σ H Q → t σ H Q) : PA X e t' := ⟨fun pos pins s σ H Q I q => h.run pos pins s σ H Q I (i σ H Q q)⟩
theorem PS.imp {X : Cx} {e : Stmt} {t t' : TS} (h : PS X e t) (i : ∀ D σ H, t' D σ H → t D σ H) : PS X e t' := ⟨fun pins s σ H D I q => h.run pins s σ H D I (i D σ H q)⟩
theorem PSs.imp {X : Cx} {e : List Stmt} {t t' : TS} (h : PSs X e t) (i : ∀ D σ H, t' D σ H → t D σ H) : PSs X e t' := ⟨fun pins s σ H D I q => h.run pins s σ H D I (i D σ H q)⟩
/-! ### combinators: expressions -/
def eC (d : D) : ME D := fun _ s => .ok d s
def eV (i : Nat) : ME D := fun env s => match env[i]? with
  | some (some d) => .ok d s
  | _ => .no
/-- two values -/
def e2 (g : D → D → Store → Option (D × Store)) (a b : ME D) : ME D := fun env s => (a env s).bind fun x s => (b env s).bind fun y s => R.of (g x y s)
def e1 (g : D → Store → Option (D × Store)) (a : ME D) : ME D := fun env s => (a env s).bind fun x s => R.of (g x s)
def aNil : ME (List D) := fun _ s => .ok [] s
def aCons (a : ME D) (r : ME (List D)) : ME (List D) := fun env s => (a env s).bind fun x s => (r env s).bind fun xs s => .ok (x :: xs) s
def eFn (g : List D → Store → Option (D × Store)) (a : ME (List D)) : ME D := fun env s => (a env s).bind fun xs s => R.of (g xs s)
def eTup (a : ME (List D)) : ME D := fun env s => (a env s).bind fun xs s => if xs.length ≤ sizeLine then .ok (.tup xs) s else .no
def eLst (a : ME (List D)) : ME D := fun env s => (a env s).bind fun xs s => if xs.length ≤ sizeLine then .ok (.loc s.length) (s ++ [.lst xs]) else .no
def eCall (g : List D → Store → R D) (a : ME (List D)) : ME D := fun env s => (a env s).bind g
/-- a value as a test: a bool -/
def tV (a : ME D) : ME Bool := fun env s => (a env s).bind fun x s => match x with
  | .bl b => .ok b s
  | _ => .no
def tAnd (a b : ME Bool) : ME Bool := fun env s => (a env s).bind fun x s => if x then b env s else .ok false s
def tOr (a b : ME Bool) : ME Bool := fun env s => (a env s).bind fun x s => if x then .ok true s else b env s
def tNot (a : ME Bool) : ME Bool := fun env s => (a env s).bind fun x s => .ok (!x) s
def eIf (c : ME Bool) (a b : ME D) : ME D := fun env s => (c env s).bind fun x s => if x then a env s else b env s
/-- and, or, not as values (bools) -/
def eAnd (a b : ME D) : ME D := fun env s => (a env s).bind fun x s => match x with
  | .bl true => b env s
  | .bl false => .ok (.bl false) s
  | _ => .no
def eOr (a b : ME D) : ME D := fun env s => (a env s).bind fun x s => match x with
  | .bl true => .ok (.bl true) s
  | .bl false => b env s
  | _ => .no
def eNot (a : ME D) : ME D := fun env s => (a env s).bind fun x s => match x with
  | .bl c => .ok (.bl !c) s
  | _ => .no
def eChain (g g' : D → D → Store → Option (D × Store)) (a b c : ME D) : ME D := fun env s => (a env s).bind fun x s => (b env s).bind fun y s => (R.of (g x y s)).bind fun z s => match z with
  | .bl true => (c env s).bind fun w s => R.of (g' y w s)
  | .bl false => .ok (.bl false) s
  | _ => .no
section
variable {X : Cx} {W : WX} {pos : Pos} {a b c e : Expr} {es : List Expr} {fa fb fc : ME D} {ga gb : ME Bool} {fs : ME (List D)}
theorem ce_v (i : Nat) {x : Str} (hN : X.N[i]? = some x := by rfl) (hv : Vis X.env.scope x := by first | exact Or.inl rfl | exact Or.inr (Or.inl rfl) | exact Or.inr (Or.inr rfl)) (hd : (x == ("__debug__" : Str)) = false := by decide)
    (hcd : (x == ("__classdict__" : Str)) = false := by decide) : PE X (.Name x pos) (Te X.K X.mg W (eV i)) := by
  refine PE.imp (pe_var (i := i) hN hv hd hcd) fun σ H Q h => ?_
  obtain ⟨m, env, s, r, E, g⟩ := h
  unfold eV at g
  cases q : env[i]? with
  | none => rw [q] at g; exact g.elim
  | some o =>
    cases o with
    | none => rw [q] at g; exact g.elim
    | some d =>
      rw [q] at g
      obtain ⟨v, h1, h2⟩ := E.2 i d q
      exact ⟨v, h1, g.now r h2⟩
theorem ce_c {d : D} {v : V} (h : PE X e (tC v)) (r : ∀ m H, Rep X.K m H d v) : PE X e (Te X.K X.mg W (eC d)) :=
  PE.imp h fun σ H Q ⟨m, env, s, rl, E, g⟩ => g.now rl (r m H)
theorem ce_int {i j} : PE X (.Constant (.int i) j pos) (Te X.K X.mg W (eC (.int i))) := ce_c pe_int fun _ _ => .int _
theorem ce_bl {i j} : PE X (.Constant (.bool i) j pos) (Te X.K X.mg W (eC (.bl i))) := ce_c pe_bl fun _ _ => .bl _
theorem ce_non {j} : PE X (.Constant .none j pos) (Te X.K X.mg W (eC .non)) := ce_c pe_non fun _ _ => .non
theorem ce_str {x j} : PE X (.Constant (.str x) j pos) (Te X.K X.mg W (eC (.str x))) := ce_c pe_str fun _ _ => .str _
theorem ce_glob {x : Str} {d : D} {v : V} {u : Value} (hg : Gl X x) (hm : X.mg x = some u) (r : RelV v u) (q : ∀ m H, Rep X.K m H d v) (hd : (x == ("__debug__" : Str)) = false := by decide) : PE X (.Name x pos) (Te X.K X.mg W (eC d)) := ce_c (pe_glob hg hm r hd) q
/-- an operation on values, with its mirror -/
def OpS (K : PySem.W.Frag) (r : R2) (g : D → D → Store → Option (D × Store)) : Prop :=
  ∀ {mg : Str → Option Value} {W : WX} {σ : L2.St} {m : List Addr} {H : Hp} {s : Store} {x y : V} {dx dy : D} {Q : VK}, Rel K m H s → Rep K m H dx x → Rep K m H dy y → G K mg (Rep K) W σ m H Q (R.of (g dx dy s)) → r x y H Q
theorem e2_run {r : R2} {g : D → D → Store → Option (D × Store)} (hs : OpS X.K r g) : ∀ σ H Q, Te X.K X.mg W (e2 g fa fb) σ H Q → tOp r (Te X.K X.mg W fa) (Te X.K X.mg W fb) σ H Q := fun σ H Q h =>
  Tm.bind (k := fun env x s => (fb env s).bind fun y s => R.of (g x y s)) h fun m1 H1 env x v s1 r1 E1 p1 g1 =>
    ⟨m1, env, s1, r1, E1, G.bind g1 fun m2 H2 y u s2 l2 r2 p2 g2 => hs r2 (p1.mono l2) p2 g2⟩
theorem ce_op {op : Operator} {r : R2} {g : D → D → Store → Option (D × Store)} (ho : OpR X (binaryOp op) r) (hs : OpS X.K r g) (ha : PE X a (Te X.K X.mg W fa)) (hb : PE X b (Te X.K X.mg W fb)) :
    PE X (.BinOp a op b pos) (Te X.K X.mg W (e2 g fa fb)) := PE.imp (pe_op ho ha hb) (e2_run hs)
theorem ce_cmp {op : CmpOp} {r : R2} {g : D → D → Store → Option (D × Store)} (ho : OpR X (compareOp op) r) (hs : OpS X.K r g) (ha : PE X a (Te X.K X.mg W fa)) (hb : PE X b (Te X.K X.mg W fb)) (hm : behindInMarks op b = false) :
    PE X (.Compare a [op] [b] pos) (Te X.K X.mg W (e2 g fa fb)) := PE.imp (pe_cmpR ho ha hb hm) (e2_run hs)
theorem ce_ix {r : R2} {g : D → D → Store → Option (D × Store)} (ho : IxR X r) (hs : OpS X.K r g) (ha : PE X a (Te X.K X.mg W fa)) (hb : PE X b (Te X.K X.mg W fb)) (hp : PlainIx b) :
    PE X (.Subscript a b pos) (Te X.K X.mg W (e2 g fa fb)) := PE.imp (pe_ix ho ha hb hp) (e2_run hs)
/-- a test of a value that is a bool -/
theorem tv_run {t : TE} (hp : ∀ σ H Q, Te X.K X.mg W fa σ H Q → t σ H Q) : ∀ σ H Q, Tt X.K X.mg W (tV fa) σ H Q → t σ H fun x H' => ∃ k, x = .bl k ∧ Q k H' := fun σ H Q h =>
  hp σ H _ (Tm.bind (k := fun _ x s => match x with | .bl b => R.ok b s | _ => R.no) h fun m1 H1 env x v s1 r1 E1 p1 g1 => by
    cases x with
    | bl k => cases p1; exact ⟨k, rfl, g1.nowB r1⟩
    | _ => exact g1.elim)
theorem ct_v (ha : PE X a (Te X.K X.mg W fa)) (he : ∀ whole, isTrue a X.env whole = (do let v ← whole; standAt a.pos; holding [v] (truthy v)) := by intro _; rfl) : PT X a (Tt X.K X.mg W (tV fa)) :=
  PT.imp (pt_val ha he) (tv_run fun _ _ _ h => h)
theorem ct_cmp {op : CmpOp} {r : R2} {g : D → D → Store → Option (D × Store)} (ho : OpR X (compareOp op) r) (hs : OpS X.K r g) (ha : PE X a (Te X.K X.mg W fa)) (hb : PE X b (Te X.K X.mg W fb)) (hm : behindInMarks op b = false) :
    PT X (.Compare a [op] [b] pos) (Tt X.K X.mg W (tV (e2 g fa fb))) := PT.imp (pt_cmpR ho ha hb hm) (tv_run (e2_run hs))
theorem chain_run {r r' : R2} {g g' : D → D → Store → Option (D × Store)} (hs : OpS X.K r g) (hs' : OpS X.K r' g') : ∀ σ H Q, Te X.K X.mg W (eChain g g' fa fb fc) σ H Q → tChain r r' (Te X.K X.mg W fa) (Te X.K X.mg W fb) (Te X.K X.mg W fc) σ H Q := fun σ H Q h =>
  Tm.bind (k := fun env x s => (fb env s).bind fun y s => (R.of (g x y s)).bind fun z s => match z with | .bl true => (fc env s).bind fun w s => R.of (g' y w s) | .bl false => R.ok (D.bl false) s | _ => R.no) h fun m1 H1 env x v s1 r1 E1 p1 g1 =>
    ⟨m1, env, s1, r1, E1, G.bind g1 fun m2 H2 y u s2 l2 r2 p2 g2 => hs r2 (p1.mono l2) p2 (G.bind g2 fun m3 H3 z w s3 l3 r3 p3 g3 => by
      cases z with
      | bl k =>
        cases p3
        refine ⟨k, rfl, ?_⟩
        cases k with
        | true => exact iteT ⟨m3, env, s3, r3, (E1.mono l2).mono l3, G.bind g3 fun m4 H4 z w s4 l4 r4 p4 g4 => hs' r4 ((p2.mono l3).mono l4) p4 g4⟩
        | false => exact iteF (g3.now r3 (.bl false))
      | _ => exact g3.elim)⟩
theorem ce_chain {op op' : CmpOp} {r r' : R2} {g g' : D → D → Store → Option (D × Store)} (ho : OpR X (compareOp op) r) (hs : OpS X.K r g) (ho' : OpR X (compareOp op') r') (hs' : OpS X.K r' g') (ha : PE X a (Te X.K X.mg W fa)) (hb : PE X b (Te X.K X.mg W fb)) (hc : PE X c (Te X.K X.mg W fc))
    (hm : lastMarks [op, op'] [b, c] = false := by with_unfolding_all rfl) : PE X (.Compare a [op, op'] [b, c] pos) (Te X.K X.mg W (eChain g g' fa fb fc)) := PE.imp (pe_chain ho ho' ha hb hc hm) (chain_run hs hs')
theorem ct_chain {op op' : CmpOp} {r r' : R2} {g g' : D → D → Store → Option (D × Store)} (ho : OpR X (compareOp op) r) (hs : OpS X.K r g) (ho' : OpR X (compareOp op') r') (hs' : OpS X.K r' g') (ha : PE X a (Te X.K X.mg W fa)) (hb : PE X b (Te X.K X.mg W fb)) (hc : PE X c (Te X.K X.mg W fc))
    (hm : lastMarks [op, op'] [b, c] = false := by with_unfolding_all rfl) : PT X (.Compare a [op, op'] [b, c] pos) (Tt X.K X.mg W (tV (eChain g g' fa fb fc))) := PT.imp (pt_chain ho ho' ha hb hc hm) (tv_run (chain_run hs hs'))
/-! #### tests -/
theorem cw_and1 (ha : PT X a (Tt X.K X.mg W ga)) : PW X (.BoolOp .And [a] pos) (Tt X.K X.mg W ga) := pw_and1 ha
theorem cw_or1 (ha : PT X a (Tt X.K X.mg W ga)) : PW X (.BoolOp .Or [a] pos) (Tt X.K X.mg W ga) := pw_or1 ha
theorem cw_and {rest : List Expr} (ha : PT X a (Tt X.K X.mg W ga)) (hb : PW X (.BoolOp .And (b :: rest) pos) (Tt X.K X.mg W gb)) : PW X (.BoolOp .And (a :: b :: rest) pos) (Tt X.K X.mg W (tAnd ga gb)) :=
  PW.imp (pw_and ha hb) fun σ H Q h => Tm.bind (k := fun env x s => if x then gb env s else R.ok false s) h fun m1 H1 env x v s1 r1 E1 p1 g1 => by
    cases (show x = v from p1)
    cases x with
    | true => exact iteT ⟨m1, env, s1, r1, E1, g1⟩
    | false => exact iteF (G.nowB g1 r1)
theorem cw_or {rest : List Expr} (ha : PT X a (Tt X.K X.mg W ga)) (hb : PW X (.BoolOp .Or (b :: rest) pos) (Tt X.K X.mg W gb)) : PW X (.BoolOp .Or (a :: b :: rest) pos) (Tt X.K X.mg W (tOr ga gb)) :=
  PW.imp (pw_or ha hb) fun σ H Q h => Tm.bind (k := fun env x s => if x then R.ok true s else gb env s) h fun m1 H1 env x v s1 r1 E1 p1 g1 => by
    cases (show x = v from p1)
    cases x with
    | true => exact iteT (G.nowB g1 r1)
    | false => exact iteF ⟨m1, env, s1, r1, E1, g1⟩
theorem ct_not (ha : PT X a (Tt X.K X.mg W ga)) : PT X (.UnaryOp .Not a pos) (Tt X.K X.mg W (tNot ga)) :=
  PT.imp (pt_not ha) fun σ H Q h => Tm.bind (k := fun env x s => R.ok (!x) s) h fun m1 H1 env x v s1 r1 E1 p1 g1 => by
    cases (show x = v from p1)
    exact G.nowB g1 r1
theorem ce_ifExp (hc : PT X c (Tt X.K X.mg W ga)) (ha : PE X a (Te X.K X.mg W fa)) (hb : PE X b (Te X.K X.mg W fb)) : PE X (.IfExp c a b pos) (Te X.K X.mg W (eIf ga fa fb)) :=
  PE.imp (pe_ifExp hc ha hb) fun σ H Q h => Tm.bind (k := fun env x s => if x then fa env s else fb env s) h fun m1 H1 env x v s1 r1 E1 p1 g1 => by
    cases (show x = v from p1)
    cases x with
    | true => exact iteT ⟨m1, env, s1, r1, E1, g1⟩
    | false => exact iteF ⟨m1, env, s1, r1, E1, g1⟩
theorem ce_one {op} {t : TE} (h : PE X a t) : PE X (.BoolOp op [a] pos) t := pe_one h
theorem ce_and {rest : List Expr} (ha : PE X a (Te X.K X.mg W fa)) (hb : PE X (.BoolOp .And (b :: rest) pos) (Te X.K X.mg W fb)) : PE X (.BoolOp .And (a :: b :: rest) pos) (Te X.K X.mg W (eAnd fa fb)) :=
  PE.imp (pe_and ha hb) fun σ H Q h => Tm.bind (k := fun env x s => match x with | .bl true => fb env s | .bl false => R.ok (D.bl false) s | _ => R.no) h fun m1 H1 env x v s1 r1 E1 p1 g1 => by
    cases x with
    | bl k =>
      cases p1
      refine ⟨k, rfl, ?_⟩
      cases k with
      | true => exact iteT ⟨m1, env, s1, r1, E1, g1⟩
      | false => exact iteF (g1.now r1 (.bl false))
    | _ => exact g1.elim
theorem ce_or {rest : List Expr} (ha : PE X a (Te X.K X.mg W fa)) (hb : PE X (.BoolOp .Or (b :: rest) pos) (Te X.K X.mg W fb)) : PE X (.BoolOp .Or (a :: b :: rest) pos) (Te X.K X.mg W (eOr fa fb)) :=
  PE.imp (pe_or ha hb) fun σ H Q h => Tm.bind (k := fun env x s => match x with | .bl true => R.ok (D.bl true) s | .bl false => fb env s | _ => R.no) h fun m1 H1 env x v s1 r1 E1 p1 g1 => by
    cases x with
    | bl k =>
      cases p1
      refine ⟨k, rfl, ?_⟩
      cases k with
      | true => exact iteT (g1.now r1 (.bl true))
      | false => exact iteF ⟨m1, env, s1, r1, E1, g1⟩
    | _ => exact g1.elim
theorem ce_not (ha : PE X a (Te X.K X.mg W fa)) : PE X (.UnaryOp .Not a pos) (Te X.K X.mg W (eNot fa)) :=
  PE.imp (pe_not ha) fun σ H Q h => Tm.bind (k := fun env x s => match x with | .bl c => R.ok (D.bl !c) s | _ => R.no) h fun m1 H1 env x v s1 r1 E1 p1 g1 => by
    cases x with
    | bl k => cases p1; exact ⟨k, rfl, g1.now r1 (.bl _)⟩
    | _ => exact g1.elim
/-! #### argument lists, displays -/
theorem ca_nil : PA X [] (Ta X.K X.mg W aNil) := PA.imp pa_nil fun σ H Q ⟨m, env, s, r, E, g⟩ => g m H [] .refl r .nil
theorem ca_cons (ha : PE X e (Te X.K X.mg W fa)) (hr : PA X es (Ta X.K X.mg W fs)) (hs : starEach (e :: es) X.env = (false, eval e X.env) :: starEach es X.env := by rfl) : PA X (e :: es) (Ta X.K X.mg W (aCons fa fs)) :=
  PA.imp (pa_cons ha hr hs) fun σ H Q h => Tm.bind (k := fun env x s => (fs env s).bind fun xs s => R.ok (x :: xs) s) h fun m1 H1 env x v s1 r1 E1 p1 g1 =>
    ⟨m1, env, s1, r1, E1, G.bind g1 fun m2 H2 xs vs s2 l2 r2 p2 g2 => g2 m2 H2 _ .refl r2 (.cons (p1.mono l2) p2)⟩
theorem ce_tup {k : Nat} (h : PA X es (Ta X.K X.mg W fs)) : PE X (.Tuple es k pos) (Te X.K X.mg W (eTup fs)) :=
  PE.imp (pe_tup h) fun σ H Q h => Tm.bind (k := fun env xs s => if xs.length ≤ sizeLine then R.ok (D.tup xs) s else R.no) h fun m1 H1 env xs vs s1 r1 E1 p1 g1 => by
    by_cases hz : xs.length ≤ sizeLine
    · simp only [hz, if_true] at g1
      exact ⟨by rw [← p1.length]; exact hz, fun p hp => g1 m1 _ _ (le_new hp) (r1.tmp hp) (rep_newtup hp p1)⟩
    · simp only [hz, if_false] at g1
      exact g1.elim
theorem newlist {xs : List D} {vs : List V} {m : List Addr} {H : Hp} {s : Store} {σ : L2.St} {Q : VK} {mg : Str → Option Value} (r : Rel X.K m H s) (p : Reps X.K m H xs vs) (g : G X.K mg (Rep X.K) W σ m H Q (.ok (.loc s.length) (s ++ [.lst xs]))) :
    ∀ q, H q = none → Q (.ref q) (upd H q (.lst vs)) := fun q hq => g (m ++ [q]) _ _ (le_more r hq) (rel_newlist r hq p) (.loc (len_get r))
theorem ce_lst (h : PA X es (Ta X.K X.mg W fs)) : PE X (.List es pos) (Te X.K X.mg W (eLst fs)) :=
  PE.imp (pe_lst h) fun σ H Q h => Tm.bind (k := fun env xs s => if xs.length ≤ sizeLine then R.ok (D.loc s.length) (s ++ [.lst xs]) else R.no) h fun m1 H1 env xs vs s1 r1 E1 p1 g1 => by
    by_cases hz : xs.length ≤ sizeLine
    · simp only [hz, if_true] at g1
      exact ⟨by rw [← p1.length]; exact hz, newlist r1 p1 g1⟩
    · simp only [hz, if_false] at g1
      exact g1.elim
/-! #### calls of builtins, by values -/
def FnS (K : PySem.W.Frag) (r : List V → Hp → VK → Prop) (g : List D → Store → Option (D × Store)) : Prop :=
  ∀ {mg : Str → Option Value} {W : WX} {σ : L2.St} {m : List Addr} {H : Hp} {s : Store} {xs : List V} {ds : List D} {Q : VK}, Rel K m H s → Reps K m H ds xs → G K mg (Rep K) W σ m H Q (R.of (g ds s)) → r xs H Q
theorem eFn_run {r : List V → Hp → VK → Prop} {g : List D → Store → Option (D × Store)} (hs : FnS X.K r g) : ∀ σ H Q, Te X.K X.mg W (eFn g fs) σ H Q → tCB r (Ta X.K X.mg W fs) σ H Q := fun σ H Q h =>
  Tm.bind (k := fun env xs s => R.of (g xs s)) h fun m1 H1 env x v s1 r1 E1 p1 g1 => hs r1 p1 g1
theorem ce_callB {x id : String} {p : Pos} {r : List V → Hp → VK → Prop} {g : List D → Store → Option (D × Store)} (hc : CallR X (.builtin id) r) (hs : FnS X.K r g) (hg : Gl X x) (hm : X.mg x = none) (hv : bootBuiltins x = some (.builtin id)) (ha : PA X (e :: es) (Ta X.K X.mg W fs))
    (hn : (x : Str) ≠ "__name__" := by decide) (hdb : ((x : Str) == ("__debug__" : Str)) = false := by decide)
    (he : starEach (e :: es) X.env = (false, eval e X.env) :: starEach es X.env := by rfl) (hpl : (backTo pos (starEach es X.env)).any (·.1) = false := by rfl) : PE X (.Call (.Name x p) (e :: es) [] pos) (Te X.K X.mg W (eFn g fs)) :=
  PE.imp (pe_callB hc hg hm hv ha hn hdb he hpl) (eFn_run hs)
theorem ce_callTy {x id : String} {p : Pos} {r : List V → Hp → VK → Prop} {g : List D → Store → Option (D × Store)} (hc : CallR X (.type id) r) (hs : FnS X.K r g) (hg : Gl X x) (hm : X.mg x = none) (hv : bootBuiltins x = some (.type id)) (ha : PA X (e :: es) (Ta X.K X.mg W fs))
    (hn : (x : Str) ≠ "__name__" := by decide) (hdb : ((x : Str) == ("__debug__" : Str)) = false := by decide)
    (he : starEach (e :: es) X.env = (false, eval e X.env) :: starEach es X.env := by rfl) (hpl : (backTo pos (starEach es X.env)).any (·.1) = false := by rfl) : PE X (.Call (.Name x p) (e :: es) [] pos) (Te X.K X.mg W (eFn g fs)) :=
  PE.imp (pe_callTy hc hg hm hv ha hn hdb he hpl) (eFn_run hs)
/-! #### one-place -/
def UnS (K : PySem.W.Frag) (r : V → Hp → VK → Prop) (g : D → Store → Option (D × Store)) : Prop :=
  ∀ {mg : Str → Option Value} {W : WX} {σ : L2.St} {m : List Addr} {H : Hp} {s : Store} {x : V} {d : D} {Q : VK}, Rel K m H s → Rep K m H d x → G K mg (Rep K) W σ m H Q (R.of (g d s)) → r x H Q
theorem ce_un {op : UnaryOp} {r : V → Hp → VK → Prop} {g : D → Store → Option (D × Store)} (ho : UnR X (unaryOp op) r) (hs : UnS X.K r g) (ha : PE X a (Te X.K X.mg W fa)) : PE X (.UnaryOp op a pos) (Te X.K X.mg W (e1 g fa)) :=
  PE.imp (pe_un ho ha) fun σ H Q h => Tm.bind (k := fun env x s => R.of (g x s)) h fun m1 H1 env x v s1 r1 E1 p1 g1 => hs r1 p1 g1
/-! #### a def's promise: its mirror's value -/
def spM (K : PySem.W.Frag) (mg : Str → Option Value) (n : Nat) (g : List D → Store → R D) : Sp := fun vs H Q E => vs.length = n ∧
  ∃ m s ds, Rel K m H s ∧ Reps K m H ds vs ∧ G K mg (Rep K) (fun c d _ H => E c d H) [] m H Q (g ds s)
theorem ce_call {k n : Nat} {f : Addr} {fd : FuncData} {ps : List Str} {x : Str} {p : Pos} {g : List D → Store → R D} (F : FnOk X.prog X.w X.K X.mg X.base (L2.CX X.prog X.w) k f fd ps (spM X.K X.mg n g)) (hr : Room k X.A) (tk : Takes X W) (hg : Gl X x) (hm : X.mg x = some (.ref f)) (hk : PySem.W.keepIn X.K (.ref f) = true) (hb : Binds X.K fd ps [])
    (hn : ∀ xs s env, ∀ s', fs env s = .ok xs s' → xs.length = n) (ha : PA X (e :: es) (Ta X.K X.mg W fs)) (hdb : (x == ("__debug__" : Str)) = false := by decide) (he : starEach (e :: es) X.env = (false, eval e X.env) :: starEach es X.env := by rfl) (hpl : (backTo pos (starEach es X.env)).any (·.1) = false := by rfl) :
    PE X (.Call (.Name x p) (e :: es) [] pos) (Te X.K X.mg W (eCall g fs)) :=
  PE.imp (pe_callS (E := WE W) F hr hg hm hk hb (fun σ => passAt tk σ) ha hdb he hpl) fun σ H Q h => by
    obtain ⟨m, env, s, r, E, g0⟩ := h
    refine ⟨m, env, s, r, E, ?_⟩
    unfold eCall at g0
    cases hf : fs env s with
    | ok xs s1 =>
      rw [hf] at g0
      intro m1 H1 vs l1 r1 p1
      refine ⟨by rw [← p1.length]; exact hn xs s env s1 hf, m1, s1, xs, r1, p1, ?_⟩
      have g1 : G X.K X.mg (Rep X.K) W σ m H Q (g xs s1) := g0
      have g2 := g1.mono l1
      cases hgx : g xs s1 with
      | ok a s2 => rw [hgx] at g2; exact g2
      | ex x2 s2 => rw [hgx] at g2; exact g2
      | no => rw [hgx] at g2; exact g2
    | ex x s1 => rw [hf] at g0; exact g0
    | no => rw [hf] at g0; exact g0.elim
end
end Mi
namespace Mi
open PySem PySem.Spec PyProof.Rows L2
/-! ### operations on values: mirrors and their rules -/
section
variable {K : PySem.W.Frag}
theorem OpS.or {r r' : R2} {g : D → D → Store → Option (D × Store)} (h : ∀ {mg : Str → Option Value} {W : WX} {σ : L2.St} {m : List Addr} {H : Hp} {s : Store} {x y : V} {dx dy : D} {Q : VK}, Rel K m H s → Rep K m H dx x → Rep K m H dy y → G K mg (Rep K) W σ m H Q (R.of (g dx dy s)) → r x y H Q ∨ r' x y H Q) : OpS K (fun x y H Q => r x y H Q ∨ r' x y H Q) g := h
/-- two ints -/
def dI (f : Int → Int → Option D) : D → D → Store → Option (D × Store)
  | .int i, .int j, s => (f i j).map fun d => (d, s)
  | _, _, _ => none
theorem ops_dI {C : Int → Int → Prop} {gv : Int → Int → V} {f : Int → Int → Option D} (h : ∀ i j d, f i j = some d → C i j ∧ ∀ m H, Rep K m H d (gv i j)) : OpS K (rI C gv) (dI f) := by
  intro mg W σ m H s x y dx dy Q r px py g
  cases dx with
  | int i =>
    cases dy with
    | int j =>
      cases px; cases py
      cases e : f i j with
      | none => rw [show R.of (dI f (.int i) (.int j) s) = R.no by simp [dI, e]] at g; exact g.elim
      | some d =>
        rw [show R.of (dI f (.int i) (.int j) s) = .ok d s by simp [dI, e]] at g
        obtain ⟨h1, h2⟩ := h i j d e
        exact ⟨i, j, rfl, rfl, h1, g.now r (h2 m H)⟩
    | _ => exact g.elim
  | _ => exact g.elim
theorem ops_dI0 {gv : Int → Int → V} {f : Int → Int → D} (h : ∀ i j m H, Rep K m H (f i j) (gv i j)) : OpS K (rI0 gv) (dI fun i j => some (f i j)) := by
  intro mg W σ m H s x y dx dy Q r px py g
  obtain ⟨i, j, e1, e2, _, q⟩ := ops_dI (K := K) (C := fun _ _ => True) (gv := gv) (fun i j d e => ⟨trivial, by cases e; exact h i j⟩) r px py g
  exact ⟨i, j, e1, e2, q⟩
def dAdd : D → D → Store → Option (D × Store)
  | .int i, .int j, s => some (.int (i + j), s)
  | .str x, .str y, s => if x.length + y.length ≤ sizeLine then some (.str (x ++ y), s) else none
  | .tup xs, .tup ys, s => if xs.length + ys.length ≤ sizeLine then some (.tup (xs ++ ys), s) else none
  | .loc l, .loc k, s => match s[l]?, s[k]? with
    | some (.lst xs), some (.lst ys) => if xs.length + ys.length ≤ sizeLine then some (.loc s.length, s ++ [.lst (xs ++ ys)]) else none
    | _, _ => none
  | _, _, _ => none
def rAddA (K : PySem.W.Frag) : R2 := fun x y H Q => rI0 (fun i j => .int (i + j)) x y H Q ∨ (∃ i j, x = .str i ∧ y = .str j ∧ i.length + j.length ≤ sizeLine ∧ Q (.str (i ++ j)) H) ∨ rCatA K x y H Q ∨ rCat x y H Q
theorem op_addA {X : Cx} : OpR X (binaryOp .Add) (rAddA X.K) := op_add.or (op_add_str.or (op_catA.or op_cat))
theorem ops_add : OpS K (rAddA K) dAdd := by
  intro mg W σ m H s x y dx dy Q r px py g
  cases dx with
  | int i =>
    cases dy with
    | int j => cases px; cases py; exact .inl ⟨i, j, rfl, rfl, g.now r (.int _)⟩
    | _ => exact g.elim
  | str i =>
    cases dy with
    | str j =>
      cases px; cases py
      by_cases hz : i.length + j.length ≤ sizeLine
      · rw [show dAdd (.str i) (.str j) s = some (.str (i ++ j), s) by simp [dAdd, hz]] at g
        exact .inr (.inl ⟨i, j, rfl, rfl, hz, g.now r (.str _)⟩)
      · rw [show dAdd (.str i) (.str j) s = none by simp [dAdd, hz]] at g; exact g.elim
    | _ => exact g.elim
  | tup xs =>
    cases dy with
    | tup ys =>
      cases px with
      | tup h1 r1 =>
        cases py with
        | tup h2 r2 =>
          by_cases hz : xs.length + ys.length ≤ sizeLine
          · rw [show dAdd (.tup xs) (.tup ys) s = some (.tup (xs ++ ys), s) by simp [dAdd, hz]] at g
            refine .inr (.inr (.inl ⟨_, _, _, _, rfl, rfl, .inl (.inl h1), .inl (.inl h2), by rw [← r1.length, ← r2.length]; exact hz, fun e => ?_, fun _ e => ?_, fun _ _ p hp => ?_⟩))
            · subst e; cases r1; exact g.now r (.tup h2 r2)
            · subst e; cases r2; rw [List.append_nil] at g; exact g.now r (.tup h1 r1)
            · exact g m _ _ (le_new hp) (r.tmp hp) (rep_newtup hp (r1.append r2))
          · rw [show dAdd (.tup xs) (.tup ys) s = none by simp [dAdd, hz]] at g; exact g.elim
    | _ => exact g.elim
  | loc l =>
    cases dy with
    | loc k =>
      cases px with
      | loc h1 =>
        cases py with
        | loc h2 =>
          cases e1 : s[l]? with
          | none => rw [show dAdd (.loc l) (.loc k) s = none by simp [dAdd, e1]] at g; exact g.elim
          | some c1 =>
            cases c1 with
            | dic _ => rw [show dAdd (.loc l) (.loc k) s = none by simp [dAdd, e1]] at g; exact g.elim
            | dct _ => rw [show dAdd (.loc l) (.loc k) s = none by simp [dAdd, e1]] at g; exact g.elim
            | lst xs =>
              cases e2 : s[k]? with
              | none => rw [show dAdd (.loc l) (.loc k) s = none by simp [dAdd, e1, e2]] at g; exact g.elim
              | some c2 =>
                cases c2 with
                | dic _ => rw [show dAdd (.loc l) (.loc k) s = none by simp [dAdd, e1, e2]] at g; exact g.elim
                | dct _ => rw [show dAdd (.loc l) (.loc k) s = none by simp [dAdd, e1, e2]] at g; exact g.elim
                | lst ys =>
                  by_cases hz : xs.length + ys.length ≤ sizeLine
                  · rw [show dAdd (.loc l) (.loc k) s = some (.loc s.length, s ++ [.lst (xs ++ ys)]) by simp [dAdd, e1, e2, hz]] at g
                    obtain ⟨vs, q1, p1⟩ := r.list h1 e1
                    obtain ⟨ws, q2, p2⟩ := r.list h2 e2
                    refine .inr (.inr (.inr ⟨_, _, vs, ws, rfl, rfl, q1, q2, by rw [← p1.length, ← p2.length]; exact hz, fun p hp => ?_⟩))
                    exact g (m ++ [p]) _ _ (le_more r hp) (rel_newlist r hp (p1.append p2)) (.loc (len_get r))
                  · rw [show dAdd (.loc l) (.loc k) s = none by simp [dAdd, e1, e2, hz]] at g; exact g.elim
    | _ => exact g.elim
  | _ => exact g.elim
def dSub := dI fun i j => some (.int (i - j))
theorem ops_sub : OpS K (rI0 fun i j => .int (i - j)) dSub := ops_dI0 fun _ _ _ _ => .int _
noncomputable instance (i j : Int) : Decidable (CMul i j) := Classical.propDecidable _
noncomputable instance (i j : Int) : Decidable (CDiv i j) := Classical.propDecidable _
noncomputable instance (i j : Int) : Decidable (CDivN i j) := Classical.propDecidable _
noncomputable instance (i j : Int) : Decidable (CPow i j) := Classical.propDecidable _
noncomputable def dMul := dI fun i j => if CMul i j then some (.int (i * j)) else none
theorem ops_mul : OpS K (rI CMul fun i j => .int (i * j)) dMul := ops_dI fun i j d h => by
  split at h
  · cases h; exact ⟨by assumption, fun _ _ => .int _⟩
  · cases h
noncomputable def dDiv := dI fun i j => if CDiv i j then some (.int (i / j)) else none
theorem ops_div : OpS K (rI CDiv fun i j => .int (i / j)) dDiv := ops_dI fun i j d h => by
  split at h
  · cases h; exact ⟨by assumption, fun _ _ => .int _⟩
  · cases h
noncomputable def dMod := dI fun i j => if 0 < j then some (.int (i % j)) else none
theorem ops_mod : OpS K (rI (fun _ j => 0 < j) fun i j => .int (i % j)) dMod := ops_dI fun i j d h => by
  split at h
  · cases h; exact ⟨by assumption, fun _ _ => .int _⟩
  · cases h
noncomputable def dPow := dI fun i j => if CPow i j then some (.int (i ^ j.toNat)) else none
theorem ops_pow : OpS K (rI CPow fun i j => .int (i ^ j.toNat)) dPow := ops_dI fun i j d h => by
  split at h
  · cases h; exact ⟨by assumption, fun _ _ => .int _⟩
  · cases h
def dNeg : D → Store → Option (D × Store)
  | .int i, s => some (.int (-i), s)
  | _, _ => none
theorem uns_neg : UnS K (rU fun i => .int (-i)) dNeg := by
  intro mg W σ m H s x d Q r p g
  cases d with
  | int i => cases p; exact ⟨i, rfl, g.now r (.int _)⟩
  | _ => exact g.elim
/-! #### comparisons -/
def dLt : D → D → Store → Option (D × Store)
  | .int i, .int j, s => some (.bl (decide (i < j)), s)
  | .str x, .str y, s => some (.bl (decide (x.cps.toList < y.cps.toList)), s)
  | _, _, _ => none
def dLe : D → D → Store → Option (D × Store)
  | .int i, .int j, s => some (.bl (decide (i ≤ j)), s)
  | .str x, .str y, s => some (.bl (!decide (y.cps.toList < x.cps.toList)), s)
  | _, _, _ => none
def dGt : D → D → Store → Option (D × Store)
  | .int i, .int j, s => some (.bl (decide (j < i)), s)
  | .str x, .str y, s => some (.bl (decide (y.cps.toList < x.cps.toList)), s)
  | _, _, _ => none
def dGe : D → D → Store → Option (D × Store)
  | .int i, .int j, s => some (.bl (decide (j ≤ i)), s)
  | .str x, .str y, s => some (.bl (!decide (x.cps.toList < y.cps.toList)), s)
  | _, _, _ => none
def rCmpA (f : Int → Int → Bool) (k : Str → Str → Bool) : R2 := fun x y H Q => rI0 (fun i j => .bl (f i j)) x y H Q ∨ ∃ i j, x = .str i ∧ y = .str j ∧ Q (.bl (k i j)) H
theorem ops_cmp {f : Int → Int → Bool} {k : Str → Str → Bool} {g : D → D → Store → Option (D × Store)} (h1 : ∀ i j s, g (.int i) (.int j) s = some (.bl (f i j), s)) (h2 : ∀ i j s, g (.str i) (.str j) s = some (.bl (k i j), s))
    (h3 : ∀ x y s, (∀ i j, x = .int i → y = .int j → False) → (∀ i j, x = .str i → y = .str j → False) → g x y s = none) : OpS K (rCmpA f k) g := by
  intro mg W σ m H s x y dx dy Q r px py q
  by_cases ha : ∃ i j, dx = .int i ∧ dy = .int j
  · obtain ⟨i, j, rfl, rfl⟩ := ha
    cases px; cases py
    rw [h1] at q
    exact .inl ⟨i, j, rfl, rfl, q.now r (.bl _)⟩
  · by_cases hb : ∃ i j, dx = .str i ∧ dy = .str j
    · obtain ⟨i, j, rfl, rfl⟩ := hb
      cases px; cases py
      rw [h2] at q
      exact .inr ⟨i, j, rfl, rfl, q.now r (.bl _)⟩
    · rw [h3 dx dy s (fun i j e1 e2 => ha ⟨i, j, e1, e2⟩) (fun i j e1 e2 => hb ⟨i, j, e1, e2⟩)] at q
      exact q.elim
theorem ops_lt : OpS K (rCmpA (fun i j => decide (i < j)) fun x y => decide (x.cps.toList < y.cps.toList)) dLt :=
  ops_cmp (fun _ _ _ => rfl) (fun _ _ _ => rfl) fun x y s h1 h2 => by cases x <;> cases y <;> first | rfl | exact (h1 _ _ rfl rfl).elim | exact (h2 _ _ rfl rfl).elim
theorem ops_le : OpS K (rCmpA (fun i j => decide (i ≤ j)) fun x y => !decide (y.cps.toList < x.cps.toList)) dLe :=
  ops_cmp (fun _ _ _ => rfl) (fun _ _ _ => rfl) fun x y s h1 h2 => by cases x <;> cases y <;> first | rfl | exact (h1 _ _ rfl rfl).elim | exact (h2 _ _ rfl rfl).elim
theorem ops_gt : OpS K (rCmpA (fun i j => decide (j < i)) fun x y => decide (y.cps.toList < x.cps.toList)) dGt :=
  ops_cmp (fun _ _ _ => rfl) (fun _ _ _ => rfl) fun x y s h1 h2 => by cases x <;> cases y <;> first | rfl | exact (h1 _ _ rfl rfl).elim | exact (h2 _ _ rfl rfl).elim
theorem ops_ge : OpS K (rCmpA (fun i j => decide (j ≤ i)) fun x y => !decide (x.cps.toList < y.cps.toList)) dGe :=
  ops_cmp (fun _ _ _ => rfl) (fun _ _ _ => rfl) fun x y s h1 h2 => by cases x <;> cases y <;> first | rfl | exact (h1 _ _ rfl rfl).elim | exact (h2 _ _ rfl rfl).elim
theorem opA_lt {X : Cx} : OpR X (compareOp .Lt) (rCmpA (fun i j => decide (i < j)) fun x y => decide (x.cps.toList < y.cps.toList)) := op_lt.or op_lt_str
theorem opA_le {X : Cx} : OpR X (compareOp .LtE) (rCmpA (fun i j => decide (i ≤ j)) fun x y => !decide (y.cps.toList < x.cps.toList)) := op_le.or op_le_str
theorem opA_gt {X : Cx} : OpR X (compareOp .Gt) (rCmpA (fun i j => decide (j < i)) fun x y => decide (y.cps.toList < x.cps.toList)) := op_gt.or op_gt_str
theorem opA_ge {X : Cx} : OpR X (compareOp .GtE) (rCmpA (fun i j => decide (j ≤ i)) fun x y => !decide (x.cps.toList < y.cps.toList)) := op_ge.or op_ge_str
/-! #### == and != -/
mutual
/-- data without places -/
def py0 : D → Option PyData
  | .non => some .none
  | .bl b => some (.bool b)
  | .int i => some (.int i)
  | .str x => some (.str x)
  | .tup xs => (pys0 xs).map .tuple
  | .fl xs => (pys0 xs).map .list
  | .loc _ => none
  | .exv _ _ _ _ => none
def pys0 : List D → Option (List PyData)
  | [] => some []
  | x :: xs => (py0 x).bind fun a => (pys0 xs).map fun r => a :: r
end
/-- data, a list of the store at its head -/
def py1 (s : Store) : D → Option PyData
  | .loc l => match s[l]? with
    | some (.lst xs) => (pys0 xs).map .list
    | _ => none
  | d => py0 d
mutual
theorem py0_dp {m : List Addr} {H : Hp} : ∀ {d : D} {v : V} {p : PyData}, Rep K m H d v → py0 d = some p → Dp K H v p
  | .non, _, _, .non, e => by cases e; exact .non
  | .bl b, _, _, .bl _, e => by cases e; exact .bl b
  | .int b, _, _, .int _, e => by cases e; exact .int b
  | .str b, _, _, .str _, e => by cases e; exact .str b
  | .tup xs, _, _, .tup h r, e => by
    unfold py0 at e
    cases q : pys0 xs with
    | none => rw [q] at e; cases e
    | some ps => rw [q] at e; cases e; exact .tup (.inl (.inl h)) (pys0_dp r q)
  | .fl xs, _, _, .fl h r, e => by
    unfold py0 at e
    cases q : pys0 xs with
    | none => rw [q] at e; cases e
    | some ps => rw [q] at e; cases e; exact .lst h.sq (pys0_dp r q)
  | .loc _, _, _, _, e => by cases e
  | .exv _ _ _ _, _, _, _, e => by cases e
theorem pys0_dp {m : List Addr} {H : Hp} : ∀ {ds : List D} {vs : List V} {ps : List PyData}, Reps K m H ds vs → pys0 ds = some ps → DpAll K H vs ps
  | [], _, _, .nil, e => by cases e; exact .nil
  | x :: xs, _, _, .cons h r, e => by
    unfold pys0 at e
    cases q : py0 x with
    | none => rw [q] at e; cases e
    | some a =>
      cases q2 : pys0 xs with
      | none => rw [q, q2] at e; cases e
      | some b => rw [q, q2] at e; cases e; exact .cons (py0_dp h q) (pys0_dp r q2)
end
theorem py1_dp {m : List Addr} {H : Hp} {s : Store} (r : Rel K m H s) {d : D} {v : V} {p : PyData} (h : Rep K m H d v) (e : py1 s d = some p) : Dp K H v p := by
  cases d with
  | loc l =>
    cases h with
    | loc h =>
      unfold py1 at e
      cases q : s[l]? with
      | none => simp [q] at e
      | some c =>
        cases c with
        | dic _ => simp [q] at e
        | dct _ => simp [q] at e
        | lst xs =>
          simp only [q] at e
          obtain ⟨vs, q1, p1⟩ := r.list h q
          cases q2 : pys0 xs with
          | none => rw [q2] at e; cases e
          | some ps => rw [q2] at e; cases e; exact .lst (.inl (.inl q1)) (pys0_dp p1 q2)
  | _ => exact py0_dp h e
/-- scalars that == tells apart without more -/
def dScal : D → D → Option Bool
  | .non, .non => some true
  | .non, .int _ => some false | .int _, .non => some false | .non, .bl _ => some false | .bl _, .non => some false | .non, .str _ => some false | .str _, .non => some false
  | .int i, .int j => some (decide (i = j)) | .bl i, .bl j => some (decide (i = j)) | .str i, .str j => some (decide (i = j))
  | .int _, .str _ => some false | .str _, .int _ => some false | .bl _, .str _ => some false | .str _, .bl _ => some false
  | _, _ => none
def dEqB (x y : D) (s : Store) : Option Bool := match dScal x y with
  | some b => some b
  | none => (py1 s x).bind fun a => (py1 s y).bind fun b => if SeqAt.shaped a && SeqAt.shaped b then some (PyData.eqv a b) else none
def dEq (x y : D) (s : Store) : Option (D × Store) := (dEqB x y s).map fun b => (.bl b, s)
def dNe (x y : D) (s : Store) : Option (D × Store) := (dEqB x y s).map fun b => (.bl !b, s)
def rEqA (K : PySem.W.Frag) : R2 := fun x y H Q => rEq x y H Q ∨ rEqD K x y H Q
def rNeA (K : PySem.W.Frag) : R2 := fun x y H Q => rNe x y H Q ∨ rNeD K x y H Q
theorem opA_eq {X : Cx} (hu : X.A.units + 64 < cLine) : OpR X (compareOp .Eq) (rEqA X.K) := op_eq.or (op_eqD hu)
theorem opA_ne {X : Cx} (hu : X.A.units + 64 < cLine) : OpR X (compareOp .NotEq) (rNeA X.K) := op_ne.or (op_neD hu)
theorem scal_of {m : List Addr} {H : Hp} {dx dy : D} {x y : V} {b : Bool} (px : Rep K m H dx x) (py : Rep K m H dy y) (e : dScal dx dy = some b) : scal x y = true ∧ decide (x = y) = b := by
  cases px <;> cases py <;> first | (cases e; done) | (cases e; exact ⟨rfl, by simp⟩)
theorem eqB_cases {m : List Addr} {H : Hp} {s : Store} (r : Rel K m H s) {dx dy : D} {x y : V} {b : Bool} (px : Rep K m H dx x) (py : Rep K m H dy y) (e : dEqB dx dy s = some b) :
    (scal x y = true ∧ decide (x = y) = b) ∨ ∃ d e', Dp K H x d ∧ Dp K H y e' ∧ SeqAt.shaped d = true ∧ SeqAt.shaped e' = true ∧ PyData.eqv d e' = b := by
  unfold dEqB at e
  cases q : dScal dx dy with
  | some c => rw [q] at e; cases e; exact .inl (scal_of px py q)
  | none =>
    rw [q] at e
    cases q1 : py1 s dx with
    | none => rw [q1] at e; cases e
    | some a =>
      cases q2 : py1 s dy with
      | none => rw [q1, q2] at e; cases e
      | some c =>
        rw [q1, q2] at e
        simp only [Option.bind_some] at e
        split at e
        · rename_i hs
          rw [Bool.and_eq_true] at hs
          cases e
          exact .inr ⟨a, c, py1_dp r px q1, py1_dp r py q2, hs.1, hs.2, rfl⟩
        · cases e
theorem ops_eq : OpS K (rEqA K) dEq := by
  intro mg W σ m H s x y dx dy Q r px py g
  unfold dEq at g
  cases e : dEqB dx dy s with
  | none => rw [e] at g; exact g.elim
  | some b =>
    rw [e] at g
    have q := g.now r (.bl b)
    rcases eqB_cases r px py e with ⟨h1, h2⟩ | ⟨d, e', h1, h2, h3, h4, h5⟩
    · exact .inl ⟨h1, by rw [h2]; exact q⟩
    · exact .inr ⟨d, e', h1, h2, h3, h4, by rw [h5]; exact q⟩
theorem ops_ne : OpS K (rNeA K) dNe := by
  intro mg W σ m H s x y dx dy Q r px py g
  unfold dNe at g
  cases e : dEqB dx dy s with
  | none => rw [e] at g; exact g.elim
  | some b =>
    rw [e] at g
    have q := g.now r (.bl (!b))
    rcases eqB_cases r px py e with ⟨h1, h2⟩ | ⟨d, e', h1, h2, h3, h4, h5⟩
    · exact .inl ⟨h1, by rw [h2]; exact q⟩
    · exact .inr ⟨d, e', h1, h2, h3, h4, by rw [h5]; exact q⟩
/-! #### is, is not: None, True, False -/
theorem is_bool_gen {M : Model} {A : Around} {E : Value → Shared → Prop} {s : Shared} {Q : Value → Shared → Prop} {v : Value} {b : Bool} (hn : ∀ i, v ≠ .builtin i) (h : Q (.bool (v == .bool b)) s) : wpAny M A (compareOp .Is v (.bool b)) Q E s := by
  cases v <;> first | exact wpAny_pure h | exact (hn _ rfl).elim
theorem isnot_bool_gen {M : Model} {A : Around} {E : Value → Shared → Prop} {s : Shared} {Q : Value → Shared → Prop} {v : Value} {b : Bool} (hn : ∀ i, v ≠ .builtin i) (h : Q (.bool (!(v == .bool b))) s) : wpAny M A (compareOp .IsNot v (.bool b)) Q E s := by
  cases v <;> first | exact wpAny_pure h | exact (hn _ rfl).elim
theorem relv_nb {x : V} {v : Value} (r : RelV x v) : ∀ i, v ≠ .builtin i := fun i e => by
  subst e
  cases x with
  | non => cases r
  | bl c => cases r
  | int i => obtain ⟨t, e⟩ := r; cases e
  | str i => obtain ⟨t, e⟩ := r; cases e
  | byt i => obtain ⟨t, e⟩ := r; cases e
  | flt i => obtain ⟨t, e⟩ := r; cases e
  | ref i => cases r
  | ty i => cases r
theorem relv_bool {x : V} {v : Value} {b : Bool} (r : RelV x v) : (v == .bool b) = decide (x = .bl b) := by
  cases x with
  | non => cases r; simp
  | bl c => cases r; cases c <;> cases b <;> rfl
  | int i => obtain ⟨t, rfl⟩ := r; simp
  | str i => obtain ⟨t, rfl⟩ := r; simp
  | byt i => obtain ⟨t, rfl⟩ := r; simp
  | flt i => obtain ⟨t, rfl⟩ := r; simp
  | ref i => cases r; simp
  | ty i => cases r; simp
theorem op_isB {X : Cx} : OpR X (compareOp .Is) (fun x y H Q => ∃ b, y = .bl b ∧ Q (.bl (decide (x = .bl b))) H) := by
  intro pins s σ H x y v u Q I rx ry h
  obtain ⟨b, rfl, q⟩ := h
  cases ry
  exact is_bool_gen (relv_nb rx) (fin_bl I q (relv_bool rx).symm)
theorem op_notB {X : Cx} : OpR X (compareOp .IsNot) (fun x y H Q => ∃ b, y = .bl b ∧ Q (.bl (!decide (x = .bl b))) H) := by
  intro pins s σ H x y v u Q I rx ry h
  obtain ⟨b, rfl, q⟩ := h
  cases ry
  exact isnot_bool_gen (relv_nb rx) (fin_bl I q (by rw [relv_bool rx]))
def dIsB : D → D → Option Bool
  | .non, .non => some true
  | _, .non => some false
  | .bl c, .bl b => some (decide (c = b))
  | _, .bl _ => some false
  | _, _ => none
def dIs (x y : D) (s : Store) : Option (D × Store) := (dIsB x y).map fun b => (.bl b, s)
def dIsNot (x y : D) (s : Store) : Option (D × Store) := (dIsB x y).map fun b => (.bl !b, s)
def rIsA : R2 := fun x y H Q => (y = .non ∧ Q (.bl (decide (x = .non))) H) ∨ ∃ b, y = .bl b ∧ Q (.bl (decide (x = .bl b))) H
def rNotA : R2 := fun x y H Q => (y = .non ∧ Q (.bl (!decide (x = .non))) H) ∨ ∃ b, y = .bl b ∧ Q (.bl (!decide (x = .bl b))) H
theorem opA_is {X : Cx} : OpR X (compareOp .Is) rIsA := op_isN.or op_isB
theorem opA_isnot {X : Cx} : OpR X (compareOp .IsNot) rNotA := op_notN.or op_notB
theorem isB_cases {m : List Addr} {H : Hp} {dx dy : D} {x y : V} {b : Bool} (px : Rep K m H dx x) (py : Rep K m H dy y) (e : dIsB dx dy = some b) : (y = .non ∧ decide (x = .non) = b) ∨ ∃ c, y = .bl c ∧ decide (x = .bl c) = b := by
  cases py with
  | non => refine .inl ⟨rfl, ?_⟩; cases px <;> (cases e; simp)
  | bl c => refine .inr ⟨c, rfl, ?_⟩; cases px <;> (cases e; simp)
  | _ => cases px <;> cases e
theorem ops_is : OpS K rIsA dIs := by
  intro mg W σ m H s x y dx dy Q r px py g
  unfold dIs at g
  cases e : dIsB dx dy with
  | none => rw [e] at g; exact g.elim
  | some b =>
    rw [e] at g
    have q := g.now r (.bl b)
    rcases isB_cases px py e with ⟨rfl, h⟩ | ⟨c, rfl, h⟩
    · exact .inl ⟨rfl, by rw [h]; exact q⟩
    · exact .inr ⟨c, rfl, by rw [h]; exact q⟩
theorem ops_isnot : OpS K rNotA dIsNot := by
  intro mg W σ m H s x y dx dy Q r px py g
  unfold dIsNot at g
  cases e : dIsB dx dy with
  | none => rw [e] at g; exact g.elim
  | some b =>
    rw [e] at g
    have q := g.now r (.bl (!b))
    rcases isB_cases px py e with ⟨rfl, h⟩ | ⟨c, rfl, h⟩
    · exact .inl ⟨rfl, by rw [h]; exact q⟩
    · exact .inr ⟨c, rfl, by rw [h]; exact q⟩
end
end Mi
namespace Mi
open PySem PySem.Spec PyProof.Rows L2
section
variable {K : PySem.W.Frag} {m : List Addr} {H : Hp} {s : Store}
theorem Rep.sqT {xs : List D} {v : V} (h : Rep K m H (.tup xs) v) : ∃ a vs, v = .ref a ∧ SqT K H a vs ∧ Reps K m H xs vs := by
  cases h with
  | tup h r => exact ⟨_, _, rfl, .inl (.inl h), r⟩
theorem Rep.trk {xs : List D} {v : V} (h : Rep K m H (.tup xs) v) : ∃ a vs, v = .ref a ∧ H a = some (.tup vs) ∧ Reps K m H xs vs := by
  cases h with
  | tup h r => exact ⟨_, _, rfl, h, r⟩
/-- the items of a list: of the store, or never written -/
def lstOf (s : Store) : D → Option (List D)
  | .loc l => match s[l]? with
    | some (.lst xs) => some xs
    | _ => none
  | .fl xs => some xs
  | _ => none
theorem lstOf_sq (r : Rel K m H s) {d : D} {v : V} {xs : List D} (p : Rep K m H d v) (e : lstOf s d = some xs) : ∃ a vs, v = .ref a ∧ SqL K H a vs ∧ Reps K m H xs vs := by
  cases d with
  | loc l =>
    cases p with
    | loc h =>
      unfold lstOf at e
      cases q : s[l]? with
      | none => simp [q] at e
      | some c =>
        cases c with
        | dic _ => simp [q] at e
        | dct _ => simp [q] at e
        | lst ys =>
          simp only [q] at e
          cases e
          obtain ⟨vs, h1, h2⟩ := r.list h q
          exact ⟨_, vs, rfl, .inl (.inl h1), h2⟩
  | fl ys =>
    cases e
    cases p with
    | fl h q => exact ⟨_, _, rfl, h.sq, q⟩
  | _ => cases e
/-- list or tuple -/
def seqOf (s : Store) : D → Option (List D)
  | .tup xs => some xs
  | d => lstOf s d
theorem seqOf_sq (r : Rel K m H s) {d : D} {v : V} {xs : List D} (p : Rep K m H d v) (e : seqOf s d = some xs) : ∃ a vs, v = .ref a ∧ (SqL K H a vs ∨ SqT K H a vs) ∧ Reps K m H xs vs := by
  cases d with
  | tup ys =>
    cases e
    obtain ⟨a, vs, h1, h2, h3⟩ := p.sqT
    exact ⟨a, vs, h1, .inr h2, h3⟩
  | loc l => obtain ⟨a, vs, h1, h2, h3⟩ := lstOf_sq (d := .loc l) r p e; exact ⟨a, vs, h1, .inl h2, h3⟩
  | fl l => obtain ⟨a, vs, h1, h2, h3⟩ := lstOf_sq (d := .fl l) r p e; exact ⟨a, vs, h1, .inl h2, h3⟩
  | _ => cases e
/-! #### a[i] -/
def dIx (x i : D) (s : Store) : Option (D × Store) := match i with
  | .int i => match x with
    | .str z => if z.length ≤ sizeLine then (atI z.cps.toList i).map fun c => (.str ⟨#[c]⟩, s) else none
    | x => (seqOf s x).bind fun xs => (atI xs i).map fun d => (d, s)
  | _ => none
theorem Reps.atI {xs : List D} {vs : List V} {i : Int} {d : D} (r : Reps K m H xs vs) (e : L2.atI xs i = some d) : ∃ v, L2.atI vs i = some v ∧ Rep K m H d v := by
  unfold L2.atI at e ⊢
  rw [← r.length]
  cases q : ixN xs.length i with
  | none => rw [q] at e; cases e
  | some j =>
    rw [q] at e
    exact r.get e
theorem ops_ix : OpS K (rIx K) dIx := by
  intro mg W σ m H s x y dx dy Q r px py g
  cases dy with
  | int i =>
    cases py
    have seq : ∀ xs, seqOf s dx = some xs → (∀ d, L2.atI xs i = some d → G K mg (Rep K) W σ m H Q (.ok d s)) → (L2.atI xs i).isSome → rIx K x (.int i) H Q := by
      intro xs e q hs
      obtain ⟨d, hd⟩ := Option.isSome_iff_exists.mp hs
      obtain ⟨a, vs, rfl, hq, rr⟩ := seqOf_sq r px e
      obtain ⟨v, hv, rv⟩ := rr.atI hd
      have q2 := (q d hd).now r rv
      rcases hq with hq | hq
      · exact .inl ⟨a, vs, i, v, rfl, rfl, hq, hv, q2⟩
      · exact .inr (.inl ⟨a, vs, i, v, rfl, rfl, hq, hv, q2⟩)
    have gen : (∀ z, dx ≠ .str z) → rIx K x (.int i) H Q := by
      intro hn
      have e : dIx dx (.int i) s = (seqOf s dx).bind fun xs => (L2.atI xs i).map fun d => (d, s) := by
        cases dx <;> first | rfl | exact (hn _ rfl).elim
      rw [e] at g
      cases q : seqOf s dx with
      | none => rw [q] at g; exact g.elim
      | some xs =>
        rw [q] at g
        cases q2 : L2.atI xs i with
        | none => simp [q2] at g; exact g.elim
        | some d =>
          simp [q2] at g
          exact seq xs q (fun d' h => by rw [q2] at h; cases h; exact g) (by simp [q2])
    cases dx with
    | str z =>
      cases px
      by_cases hz : z.length ≤ sizeLine
      · cases q2 : L2.atI z.cps.toList i with
        | none => simp [dIx, hz, q2] at g; exact g.elim
        | some c =>
          simp [dIx, hz, q2] at g
          exact .inr (.inr ⟨z, i, c, rfl, rfl, hz, q2, g.now r (.str _)⟩)
      · simp [dIx, hz] at g; exact g.elim
    | _ => exact gen (fun z e => by cases e)
  | _ => exact g.elim
/-! #### slices -/
def cutD (xs : List D) (lo hi : Option Int) : List D := (xs.drop (HT.sIx xs.length 0 lo)).take (HT.sIx xs.length xs.length hi - HT.sIx xs.length 0 lo)
theorem Reps.cut {xs : List D} {vs : List V} (r : Reps K m H xs vs) (lo hi : Option Int) : Reps K m H (cutD xs lo hi) (cutV vs lo hi) := by
  unfold cutD cutV
  rw [← r.length]
  exact (r.drop _).take _
def dSl (x : D) (lo hi : Option Int) (s : Store) : Option (D × Store) := match x with
  | .tup xs => some (.tup (cutD xs lo hi), s)
  | x => (lstOf s x).map fun xs => (.loc s.length, s ++ [.lst (cutD xs lo hi)])
def SlS (K : PySem.W.Frag) (r : V → Option Int → Option Int → Hp → VK → Prop) (g : D → Option Int → Option Int → Store → Option (D × Store)) : Prop :=
  ∀ {mg : Str → Option Value} {W : WX} {σ : L2.St} {m : List Addr} {H : Hp} {s : Store} {x : V} {d : D} {lo hi : Option Int} {Q : VK}, Rel K m H s → Rep K m H d x → G K mg (Rep K) W σ m H Q (R.of (g d lo hi s)) → r x lo hi H Q
def rSlS : V → Option Int → Option Int → Hp → VK → Prop := fun x lo hi H Q => ∃ z : Str, x = .str z ∧ z.length ≤ sizeLine ∧ Q (.str (cutS z lo hi)) H
def rSlLT (K : PySem.W.Frag) : V → Option Int → Option Int → Hp → VK → Prop := fun x lo hi H Q => rSlL K x lo hi H Q ∨ rSlA K x lo hi H Q
theorem sl_LT {X : Cx} : SlR X (rSlLT X.K) := sl_list.or sl_tupA
theorem sls_LT : SlS K (rSlLT K) dSl := by
  intro mg W σ m H s x d lo hi Q r p g
  have lst : ∀ xs, lstOf s d = some xs → G K mg (Rep K) W σ m H Q (.ok (.loc s.length) (s ++ [.lst (cutD xs lo hi)])) → rSlLT K x lo hi H Q := by
    intro xs e q
    obtain ⟨a, vs, rfl, hq, rr⟩ := lstOf_sq r p e
    exact .inl ⟨a, vs, rfl, hq, fun q' hq' => q (m ++ [q']) _ _ (le_more r hq') (rel_newlist r hq' (rr.cut lo hi)) (.loc (len_get r))⟩
  have gen : (∀ ys, d ≠ .tup ys) → rSlLT K x lo hi H Q := by
    intro hn
    have e : dSl d lo hi s = (lstOf s d).map fun xs => (.loc s.length, s ++ [.lst (cutD xs lo hi)]) := by
      cases d <;> first | rfl | exact (hn _ rfl).elim
    rw [e] at g
    cases q : lstOf s d with
    | none => rw [q] at g; exact g.elim
    | some xs => rw [q] at g; exact lst xs q g
  cases d with
  | tup xs =>
    obtain ⟨a, vs, rfl, hq, rr⟩ := p.sqT
    have g' : G K mg (Rep K) W σ m H Q (.ok (.tup (cutD xs lo hi)) s) := g
    refine .inr ⟨a, vs, rfl, hq, fun w => ?_, fun _ q hn => g' m _ _ (le_new hn) (r.tmp hn) (rep_newtup hn (rr.cut lo hi))⟩
    have e : cutD xs lo hi = xs := by
      unfold cutD
      rw [rr.length, w.1, w.2, ← rr.length]
      simp
    rw [e] at g'
    exact g'.now r p
  | _ => exact gen (fun z e => by cases e)
def oNone : ME (Option Int) := fun _ s => .ok none s
def oSome (a : ME D) : ME (Option Int) := fun env s => (a env s).bind fun x s => match x with
  | .int i => .ok (some i) s
  | _ => .no
def ρO : List Addr → Hp → Option Int → Option Int → Prop := fun _ _ a b => a = b
abbrev To (K : PySem.W.Frag) (mg : Str → Option Value) (W : WX) (f : ME (Option Int)) : TO := Tm K mg ρO W f
def eSl (g : D → Option Int → Option Int → Store → Option (D × Store)) (a : ME D) (lo hi : ME (Option Int)) : ME D := fun env s => (a env s).bind fun x s => (lo env s).bind fun l s => (hi env s).bind fun u s => R.of (g x l u s)
end
section
variable {X : Cx} {W : WX} {pos p2 : Pos} {a b c e : Expr} {es : List Expr} {fa fb fc : ME D} {ga gb : ME Bool} {fs : ME (List D)} {ol oh : ME (Option Int)} {lo hi : Option Expr}
theorem co_none : PO X none (To X.K X.mg W oNone) := ⟨fun pins s σ H Q I ⟨m, env, st, r, E, g⟩ => po_none.run pins s σ H Q I (g m H none .refl r rfl)⟩
theorem co_some (h : PE X e (Te X.K X.mg W fa)) : PO X (some e) (To X.K X.mg W (oSome fa)) := ⟨fun pins s σ H Q I q =>
  (po_some h).run pins s σ H Q I (Tm.bind (k := fun _ x s => match x with | .int i => R.ok (some i) s | _ => R.no) q fun m1 H1 env x v s1 r1 E1 p1 g1 => by
    cases x with
    | int i => cases p1; exact ⟨i, rfl, g1 m1 H1 (some i) .refl r1 rfl⟩
    | _ => exact g1.elim)⟩
theorem ce_sl {r : V → Option Int → Option Int → Hp → VK → Prop} {g : D → Option Int → Option Int → Store → Option (D × Store)} (hr : SlR X r) (hs : SlS X.K r g) (ha : PE X a (Te X.K X.mg W fa)) (hl : PO X lo (To X.K X.mg W ol)) (hu : PO X hi (To X.K X.mg W oh)) :
    PE X (.Subscript a (.Slice lo hi none p2) pos) (Te X.K X.mg W (eSl g fa ol oh)) :=
  PE.imp (pe_slice hr ha hl hu) fun σ H Q h => Tm.bind (k := fun env x s => (ol env s).bind fun l s => (oh env s).bind fun u s => R.of (g x l u s)) h fun m1 H1 env x v s1 r1 E1 p1 g1 =>
    ⟨m1, env, s1, r1, E1, G.bind g1 fun m2 H2 l l' s2 l2 r2 p2 g2 => ⟨m2, env, s2, r2, E1.mono l2, G.bind g2 fun m3 H3 u u' s3 l3 r3 p3 g3 => by
      cases (show l = l' from p2); cases (show u = u' from p3)
      exact hs r3 ((p1.mono l2).mono l3) g3⟩⟩
end
/-! #### calls of builtins -/
section
variable {K : PySem.W.Frag}
def dLen : List D → Store → Option (D × Store)
  | [.str z], s => if z.length ≤ sizeLine then some (.int z.length, s) else none
  | [x], s => (seqOf s x).map fun xs => (.int xs.length, s)
  | _, _ => none
theorem fns_len : FnS K (fun xs H Q => ∃ x n, xs = [x] ∧ LenV K x H n ∧ Q (.int n) H) dLen := by
  intro mg W σ m H s xs ds Q r p g
  cases p with
  | nil => exact g.elim
  | @cons d v ds2 vs2 h p =>
    cases p with
    | cons h2 p2 => cases d <;> exact g.elim
    | nil =>
      have seq : ∀ xs, seqOf s d = some xs → G K mg (Rep K) W σ m H Q (.ok (.int xs.length) s) → ∃ x n, [v] = [x] ∧ LenV K x H n ∧ Q (.int n) H := by
        intro xs e q
        obtain ⟨a, vs, rfl, hq, rr⟩ := seqOf_sq r h e
        refine ⟨.ref a, xs.length, rfl, ?_, q.now r (.int _)⟩
        rcases hq with hq | hq
        · exact .inl ⟨vs, hq, rr.length⟩
        · exact .inr ⟨vs, hq, rr.length⟩
      have gen : (∀ z, d ≠ .str z) → ∃ x n, [v] = [x] ∧ LenV K x H n ∧ Q (.int n) H := by
        intro hn
        have e : dLen [d] s = (seqOf s d).map fun xs => (.int xs.length, s) := by cases d <;> first | rfl | exact (hn _ rfl).elim
        rw [e] at g
        cases q : seqOf s d with
        | none => rw [q] at g; exact g.elim
        | some xs => rw [q] at g; exact seq xs q g
      cases d with
      | str z =>
        cases h
        by_cases hz : z.length ≤ sizeLine
        · simp [dLen, hz] at g
          exact ⟨.str z, z.length, rfl, ⟨hz, rfl⟩, g.now r (.int _)⟩
        · simp [dLen, hz] at g; exact g.elim
      | _ => exact gen (fun z e => by cases e)
def dInt : List D → Store → Option (D × Store)
  | [.int i], s => some (.int i, s)
  | [.bl k], s => some (.int (if k then 1 else 0), s)
  | _, _ => none
theorem reps1 {m : List Addr} {H : Hp} {d : D} {xs : List V} (p : Reps K m H [d] xs) : ∃ v, xs = [v] ∧ Rep K m H d v := by
  cases p with
  | cons h p => cases p; exact ⟨_, rfl, h⟩
theorem reps2 {m : List Addr} {H : Hp} {d e : D} {xs : List V} (p : Reps K m H [d, e] xs) : ∃ v w, xs = [v, w] ∧ Rep K m H d v ∧ Rep K m H e w := by
  cases p with
  | cons h p =>
    obtain ⟨w, rfl, q⟩ := reps1 p
    exact ⟨_, w, rfl, h, q⟩
theorem fns_int : FnS K (fun xs H Q => (∃ i, xs = [.int i] ∧ Q (.int i) H) ∨ ∃ k, xs = [.bl k] ∧ Q (.int (if k then 1 else 0)) H) dInt := by
  intro mg W σ m H s xs ds Q r p g
  unfold dInt at g
  split at g
  · obtain ⟨v, rfl, h⟩ := reps1 p
    cases h
    exact .inl ⟨_, rfl, g.now r (.int _)⟩
  · obtain ⟨v, rfl, h⟩ := reps1 p
    cases h
    exact .inr ⟨_, rfl, g.now r (.int _)⟩
  · exact g.elim
def dAbs : List D → Store → Option (D × Store)
  | [.int i], s => some (.int (if i < 0 then -i else i), s)
  | _, _ => none
theorem fns_abs : FnS K (fun xs H Q => ∃ i, xs = [.int i] ∧ Q (.int (if i < 0 then -i else i)) H) dAbs := by
  intro mg W σ m H s xs ds Q r p g
  unfold dAbs at g
  split at g
  · obtain ⟨v, rfl, h⟩ := reps1 p
    cases h
    exact ⟨_, rfl, g.now r (.int _)⟩
  · exact g.elim
def dMax2 : List D → Store → Option (D × Store)
  | [.int i, .int j], s => some (.int (if j > i then j else i), s)
  | _, _ => none
theorem fns_max2 : FnS K (fun xs H Q => ∃ i j, xs = [.int i, .int j] ∧ Q (.int (if j > i then j else i)) H) dMax2 := by
  intro mg W σ m H s xs ds Q r p g
  unfold dMax2 at g
  split at g
  · obtain ⟨v, w, rfl, h, h2⟩ := reps2 p
    cases h; cases h2
    exact ⟨_, _, rfl, g.now r (.int _)⟩
  · exact g.elim
def dMin2 : List D → Store → Option (D × Store)
  | [.int i, .int j], s => some (.int (if j < i then j else i), s)
  | _, _ => none
theorem fns_min2 : FnS K (fun xs H Q => ∃ i j, xs = [.int i, .int j] ∧ Q (.int (if j < i then j else i)) H) dMin2 := by
  intro mg W σ m H s xs ds Q r p g
  unfold dMin2 at g
  split at g
  · obtain ⟨v, w, rfl, h, h2⟩ := reps2 p
    cases h; cases h2
    exact ⟨_, _, rfl, g.now r (.int _)⟩
  · exact g.elim
/-- all ints -/
def intsOf : List D → Option (List Int)
  | [] => some []
  | .int i :: r => (intsOf r).map fun x => i :: x
  | _ :: _ => none
theorem intsOf_map (ns : List Int) : intsOf (ns.map D.int) = some ns := by
  induction ns with
  | nil => rfl
  | cons n ns ih => simp [intsOf, ih]
theorem of_intsOf : ∀ {ds : List D} {ns : List Int}, intsOf ds = some ns → ds = ns.map D.int
  | [], _, e => by cases e; rfl
  | d :: ds, ns, e => by
    cases d with
    | int i =>
      unfold intsOf at e
      cases q : intsOf ds with
      | none => rw [q] at e; cases e
      | some x => rw [q] at e; cases e; rw [List.map_cons, of_intsOf q]
    | _ => cases e
def dSum : List D → Store → Option (D × Store)
  | [x], s => (lstOf s x).bind fun xs => (intsOf xs).map fun ns => (.int ns.sum, s)
  | _, _ => none
theorem fns_sum : FnS K (rSum K) dSum := by
  intro mg W σ m H s xs ds Q r p g
  unfold dSum at g
  split at g
  · obtain ⟨v, rfl, h⟩ := reps1 p
    rename_i x
    cases q : lstOf s x with
    | none => rw [q] at g; exact g.elim
    | some ys =>
      rw [q] at g
      cases q2 : intsOf ys with
      | none => simp [q2] at g; exact g.elim
      | some ns =>
        simp [q2] at g
        obtain ⟨a, vs, rfl, hq, rr⟩ := lstOf_sq r h q
        rw [of_intsOf q2] at rr
        have e := rr.ints
        subst e
        exact ⟨a, ns, rfl, hq, g.now r (.int _)⟩
  · exact g.elim
def dTuple : List D → Store → Option (D × Store)
  | [x], s => (seqOf s x).map fun xs => (.tup xs, s)
  | _, _ => none
theorem fns_tuple : FnS K (fun xs H Q => ∃ p ys, xs = [.ref p] ∧ ((SqL K H p ys ∧ ∀ l, H l = none → Q (.ref l) (upd H l (.tup ys))) ∨ (SqT K H p ys ∧ Q (.ref p) H))) dTuple := by
  intro mg W σ m H s xs ds Q r p g
  unfold dTuple at g
  split at g
  · obtain ⟨v, rfl, h⟩ := reps1 p
    rename_i x
    cases q : seqOf s x with
    | none => rw [q] at g; exact g.elim
    | some ys =>
      rw [q] at g
      have g' : G K mg (Rep K) W σ m H Q (.ok (.tup ys) s) := g
      have gen : (∀ zs, x ≠ .tup zs) → ∃ p ys, [v] = [V.ref p] ∧ ((SqL K H p ys ∧ ∀ l, H l = none → Q (.ref l) (upd H l (.tup ys))) ∨ (SqT K H p ys ∧ Q (.ref p) H)) := fun hn => by
        have q' : lstOf s x = some ys := by cases x <;> first | exact q | exact (hn _ rfl).elim
        obtain ⟨a, vs, rfl, hq, rr⟩ := lstOf_sq r h q'
        exact ⟨a, vs, rfl, .inl ⟨hq, fun l hl => g' m _ _ (le_new hl) (r.tmp hl) (rep_newtup hl rr)⟩⟩
      cases x with
      | tup zs =>
        cases q
        obtain ⟨a, vs, rfl, hq, rr⟩ := h.sqT
        exact ⟨a, vs, rfl, .inr ⟨hq, g'.now r h⟩⟩
      | _ => exact gen fun _ e => by cases e
  · exact g.elim
def dList : List D → Store → Option (D × Store)
  | [x], s => (seqOf s x).map fun xs => (.loc s.length, s ++ [.lst xs])
  | _, _ => none
theorem fns_list : FnS K (fun xs H Q => ∃ p ys, xs = [.ref p] ∧ (SqL K H p ys ∨ SqT K H p ys) ∧ ∀ l, H l = none → Q (.ref l) (upd H l (.lst ys))) dList := by
  intro mg W σ m H s xs ds Q r p g
  unfold dList at g
  split at g
  · obtain ⟨v, rfl, h⟩ := reps1 p
    rename_i x
    cases q : seqOf s x with
    | none => rw [q] at g; exact g.elim
    | some ys =>
      rw [q] at g
      have g' : G K mg (Rep K) W σ m H Q (.ok (.loc s.length) (s ++ [.lst ys])) := g
      obtain ⟨a, vs, rfl, hq, rr⟩ := seqOf_sq r h q
      exact ⟨a, vs, rfl, hq, fun l hl => g' (m ++ [l]) _ _ (le_more r hl) (rel_newlist r hl rr) (.loc (len_get r))⟩
  · exact g.elim
/-! #### isinstance(x, T), T a built-in type -/
def tyN (s : Store) : D → Option String
  | .non => some "NoneType"
  | .bl _ => some "bool"
  | .int _ => some "int"
  | .str _ => some "str"
  | .tup _ => some "tuple"
  | .fl _ => some "list"
  | .loc l => match s[l]? with
    | some (.lst _) => some "list"
    | some (.dic _) => some "dict"
    | some (.dct _) => some "dict"
    | none => none
  | .exv _ _ _ _ => none
theorem tyN_tyx {m : List Addr} {H : Hp} {s : Store} (r : Rel K m H s) {d : D} {v : V} {t : String} (p : Rep K m H d v) (e : tyN s d = some t) : TyX K H v (.type t) := by
  cases p with
  | non => cases e; exact .base .non
  | bl b => cases e; exact .base (.bl b)
  | int b => cases e; exact .base (.int b)
  | str b => cases e; exact .base (.str b)
  | tup h q =>
    have e' : t = "tuple" := (Option.some.inj e).symm
    subst e'
    exact .base (.tup h)
  | fl h q =>
    cases e
    rcases h with ⟨o, h⟩ | ⟨o, _, _, h1, h2, _⟩
    · exact .base (.frz h)
    · exact .kList h1 h2
  | @loc l a h =>
    unfold tyN at e
    cases q : s[l]? with
    | none => simp [q] at e
    | some c =>
      cases c with
      | lst xs => simp [q] at e; subst e; obtain ⟨vs, h1, _⟩ := r.list h q; exact .base (.lst h1)
      | dic xs => simp [q] at e; subst e; obtain ⟨vs, h1, _⟩ := r.at_ l a _ h q; exact .base (.dK h1)
      | dct xs => simp [q] at e; subst e; obtain ⟨vs, h1, _⟩ := r.at_ l a _ h q; exact .base (.dT h1)
  | exv h n r => cases e
def dIsi (T : String) (x : D) (s : Store) : Option (D × Store) := (tyN s x).bind fun t => (kitB t T).map fun b => (.bl b, s)
end
section
variable {X : Cx} {W : WX} {pos p p2 : Pos} {a b c e : Expr} {es : List Expr} {fa fb fc : ME D} {ga gb : ME Bool} {fs : ME (List D)}
theorem ce_isi {T : String} (hg : Gl X "isinstance") (hm : X.mg "isinstance" = none) (hgT : Gl X (T : Str)) (hmT : X.mg (T : Str) = none) (hvT : bootBuiltins (T : Str) = some (.type T)) (ha : PE X a (Te X.K X.mg W fa))
    (hnT : (T : Str) ≠ "__name__" := by decide) (hdT : ((T : Str) == ("__debug__" : Str)) = false := by decide)
    (hv : bootBuiltins "isinstance" = some (.builtin "isinstance") := by decide +kernel) (he : starEach [a, .Name T p2] X.env = (false, eval a X.env) :: starEach [.Name T p2] X.env := by rfl)
    (he2 : starEach [.Name T p2] X.env = (false, eval (.Name T p2) X.env) :: starEach [] X.env := by rfl)
    (hpl : (backTo pos (starEach [.Name T p2] X.env)).any (·.1) = false := by rfl) : PE X (.Call (.Name "isinstance" p) [a, .Name T p2] [] pos) (Te X.K X.mg W (e1 (dIsi T) fa)) :=
  PE.imp (pe_callB call_isi hg hm hv (pa_cons ha (pa_cons (pe_bltn (v := .ty T) hgT hmT hvT rfl hnT hdT) pa_nil he2) he) (by decide) (by decide) he hpl) fun σ H Q h =>
    Tm.bind (k := fun _ x s => R.of (dIsi T x s)) h fun m1 H1 env x v s1 r1 E1 p1 g1 => by
      unfold dIsi at g1
      cases q : tyN s1 x with
      | none => rw [q] at g1; exact g1.elim
      | some t =>
        rw [q] at g1
        cases q2 : kitB t T with
        | none => simp [q2] at g1; exact g1.elim
        | some k =>
          simp [q2] at g1
          exact ⟨v, .ty T, .type t, .type T, k, rfl, .ty T, tyN_tyx r1 p1 q, kit_ty q2, g1.now r1 (.bl _)⟩
/-! #### methods of builtin types -/
def tyOk (T : String) (s : Store) : D → Bool
  | .str _ => T == "str"
  | .int _ => T == "int"
  | .loc l => match s[l]? with
    | some (.lst _) => T == "list"
    | some (.dic _) => T == "dict"
    | some (.dct _) => T == "dict"
    | none => false
  | .fl _ => T == "list"
  | _ => false
theorem tyOk_tyV {T : String} {m : List Addr} {H : Hp} {s : Store} {K : PySem.W.Frag} (r : Rel K m H s) {d : D} {v : V} (p : Rep K m H d v) (e : tyOk T s d = true) : tyV K T v H := by
  cases p with
  | str b => exact beq_iff_eq.mp e
  | int b => exact beq_iff_eq.mp e
  | fl h q => exact .inl ⟨beq_iff_eq.mp e, _, h.sq⟩
  | @loc l a h =>
    unfold tyOk at e
    cases q : s[l]? with
    | none => simp [q] at e
    | some c =>
      cases c with
      | lst xs => simp [q] at e; obtain ⟨vs, h1, _⟩ := r.list h q; exact .inl ⟨e, vs, .inl (.inl h1)⟩
      | dic xs => simp [q] at e; obtain ⟨vs, h1, _⟩ := r.at_ l a _ h q; exact .inr (.inr (.inl ⟨e, .inl ⟨vs, h1⟩⟩))
      | dct xs => simp [q] at e; obtain ⟨vs, h1, _⟩ := r.at_ l a _ h q; exact .inr (.inr (.inl ⟨e, .inr ⟨vs, h1⟩⟩))
  | _ => cases e
def eMt (T : String) (g : D → List D → Store → Option (D × Store)) (a : ME D) (fs : ME (List D)) : ME D := fun env s => (a env s).bind fun x s => if tyOk T s x = true then (fs env s).bind fun xs s => R.of (g x xs s) else .no
def eMt0 (T : String) (g : D → List D → Store → Option (D × Store)) (a : ME D) : ME D := fun env s => (a env s).bind fun x s => if tyOk T s x = true then R.of (g x [] s) else .no
def MtS (K : PySem.W.Frag) (r : V → List V → Hp → VK → Prop) (g : D → List D → Store → Option (D × Store)) : Prop :=
  ∀ {mg : Str → Option Value} {W : WX} {σ : L2.St} {m : List Addr} {H : Hp} {s : Store} {x : V} {d : D} {xs : List V} {ds : List D} {Q : VK}, Rel K m H s → Rep K m H d x → Reps K m H ds xs → G K mg (Rep K) W σ m H Q (R.of (g d ds s)) → r x xs H Q
variable {o : Expr} {T id : String} {name : Str} {apos cpos : Pos} {r : V → List V → Hp → VK → Prop} {g : D → List D → Store → Option (D × Store)} {fo : ME D}
theorem ce_bm0 (pa : PlainAttrs T) (slot : Slot T name id) (hty : typeOf (.builtin id) = pure (.type "method_descriptor")) (hm : MtR X id r) (hs : MtS X.K r g) (ho : PE X o (Te X.K X.mg W fo))
    (hbase : attributeBase o name X.env (eval o X.env) = eval o X.env := by rfl) (hline : (apos.endLine == cpos.line) = true := by rfl) : PE X (.Call (.Attribute o name apos) [] [] cpos) (Te X.K X.mg W (eMt0 T g fo)) :=
  PE.imp (pe_bm0 pa slot hty hm ho hbase hline) fun σ H Q h => Tm.bind (k := fun env x s => if tyOk T s x = true then R.of (g x [] s) else R.no) h fun m1 H1 env x v s1 r1 E1 p1 g1 => by
    by_cases q : tyOk T s1 x = true
    · simp only [q, if_true] at g1
      exact ⟨tyOk_tyV r1 p1 q, hs r1 p1 .nil g1⟩
    · simp only [q, if_false] at g1
      exact g1.elim
theorem ce_bm (pa : PlainAttrs T) (slot : Slot T name id) (hty : typeOf (.builtin id) = pure (.type "method_descriptor")) (hm : MtR X id r) (hs : MtS X.K r g) (ho : PE X o (Te X.K X.mg W fo)) (ha : PA X (e :: es) (Ta X.K X.mg W fs))
    (hbase : attributeBase o name X.env (eval o X.env) = eval o X.env := by rfl)
    (hfew : ((backTo cpos (starEach (e :: es) X.env)).all (fun x => !x.1) && (backToKw cpos (keywordEach [] X.env)).all (fun x => x.1.isSome)
      && decide ((e :: es).length + ([] : List Keyword).length + (if ([] : List Keyword).isEmpty then 0 else 1) < 30)) = true := by rfl)
    (hline : (apos.endLine == cpos.line) = true := by rfl) (hst : starEach (e :: es) X.env = (false, eval e X.env) :: starEach es X.env := by rfl) (hplain : (backTo cpos (starEach es X.env)).any (·.1) = false := by rfl) :
    PE X (.Call (.Attribute o name apos) (e :: es) [] cpos) (Te X.K X.mg W (eMt T g fo fs)) :=
  PE.imp (pe_bm pa slot hty hm ho ha hbase hfew hline hst hplain) fun σ H Q h => Tm.bind (k := fun env x s => if tyOk T s x = true then (fs env s).bind fun xs s => R.of (g x xs s) else R.no) h fun m1 H1 env x v s1 r1 E1 p1 g1 => by
    by_cases q : tyOk T s1 x = true
    · simp only [q, if_true] at g1
      exact ⟨tyOk_tyV r1 p1 q, ⟨m1, env, s1, r1, E1, G.bind g1 fun m2 H2 xs vs s2 l2 r2 p2 g2 => hs r2 (p1.mono l2) p2 g2⟩⟩
    · simp only [q, if_false] at g1
      exact g1.elim
end
section
variable {K : PySem.W.Frag}
theorem le_setlist {m : List Addr} {H : Hp} {s : Store} (r : Rel K m H s) {l : Nat} {a : Addr} (h : m[l]? = some a) {vs : List V} {xs : List D} (p : Reps K m H xs vs) : Le K m H m (upd H a (.lst vs)) ∧ Rel K m (upd H a (.lst vs)) (s.set l (.lst xs)) :=
  have le := le_put (o := .lst vs) r (List.mem_of_getElem? h)
  ⟨le, r.put h ⟨vs, upd_same, p.mono le⟩⟩
def dAppend (x : D) (ys : List D) (s : Store) : Option (D × Store) := match x, ys with
  | .loc l, [y] => match s[l]? with
    | some (.lst xs) => if xs.length < sizeLine then some (.non, s.set l (.lst (xs ++ [y]))) else none
    | _ => none
  | _, _ => none
theorem mts_append : MtS K rAppend dAppend := by
  intro mg W σ m H s x d xs ds Q r p ps g
  unfold dAppend at g
  split at g
  · rename_i l y
    obtain ⟨w, rfl, h⟩ := reps1 ps
    cases p with
    | loc hl =>
      split at g
      · rename_i ys q
        split at g
        · rename_i hz
          obtain ⟨vs, h1, h2⟩ := r.list hl q
          obtain ⟨le, r2⟩ := le_setlist r hl (h2.append (.cons h .nil))
          exact ⟨_, vs, w, rfl, rfl, h1, by rw [← h2.length]; exact hz, g m _ _ le r2 .non⟩
        · exact g.elim
      · exact g.elim
  · exact g.elim
def dPop (x : D) (ys : List D) (s : Store) : Option (D × Store) := match x, ys with
  | .loc l, [] => match s[l]? with
    | some (.lst xs) => (xs[xs.length - 1]?).map fun y => (y, s.set l (.lst xs.dropLast))
    | _ => none
  | _, _ => none
theorem mts_pop : MtS K rPop dPop := by
  intro mg W σ m H s x d xs ds Q r p ps g
  unfold dPop at g
  split at g
  · rename_i l
    cases ps
    cases p with
    | loc hl =>
      split at g
      · rename_i ys q
        cases q2 : ys[ys.length - 1]? with
        | none => rw [q2] at g; exact g.elim
        | some y =>
          rw [q2] at g
          obtain ⟨vs, h1, h2⟩ := r.list hl q
          obtain ⟨v, hv, rv⟩ := h2.get q2
          obtain ⟨le, r2⟩ := le_setlist r hl h2.dropLast
          exact ⟨_, vs, v, rfl, rfl, h1, by rw [← h2.length]; exact hv, g m _ _ le r2 (rv.mono le)⟩
      · exact g.elim
  · exact g.elim
end
end Mi
namespace Mi
open PySem PySem.Spec PyProof.Rows L2
/-! ### targets -/
def gN (i : Nat) : D → Sl → Option Sl := fun d env => some (env.set i (some d))
def gsN : List D → Sl → Option Sl := fun xs env => match xs with
  | [] => some env
  | _ => none
def gsC (g : D → Sl → Option Sl) (r : List D → Sl → Option Sl) : List D → Sl → Option Sl := fun xs env => match xs with
  | x :: xs => (g x env).bind (r xs)
  | [] => none
def gT (n : Nat) (r : List D → Sl → Option Sl) : D → Sl → Option Sl := fun d env => match d with
  | .tup xs => if xs.length = n then r xs env else none
  | _ => none
def GTm (K : PySem.W.Frag) (vs : List Nat) (g : D → Sl → Option Sl) : TG := fun v σ H Q =>
  ∃ m env s d env', Rel K m H s ∧ RelE K m H env σ ∧ Rep K m H d v ∧ g d env = some env' ∧ ∀ σ', RelE K m H env' σ' → (∀ i, i ∉ vs → σ'[i]? = σ[i]?) → σ'.length = σ.length → Q σ' H
def GTs (K : PySem.W.Frag) (vs : List Nat) (g : List D → Sl → Option Sl) : TGs := fun xs σ H Q =>
  ∃ m env s ds env', Rel K m H s ∧ RelE K m H env σ ∧ Reps K m H ds xs ∧ g ds env = some env' ∧ ∀ σ', RelE K m H env' σ' → (∀ i, i ∉ vs → σ'[i]? = σ[i]?) → σ'.length = σ.length → Q σ' H
theorem relE_set {K : PySem.W.Frag} {m : List Addr} {H : Hp} {env : Sl} {σ : L2.St} (E : RelE K m H env σ) {d : D} {v : V} (p : Rep K m H d v) (i : Nat) : RelE K m H (env.set i (some d)) (σ.set i (some v)) := by
  refine ⟨by simp [E.1], fun j d' h => ?_⟩
  by_cases hj : i = j
  · subst hj
    by_cases hi : i < env.length
    · rw [List.getElem?_set_self hi] at h
      cases h
      exact ⟨v, by rw [List.getElem?_set_self (by rw [← E.1]; exact hi)], p⟩
    · rw [List.getElem?_eq_none (by simpa using hi)] at h; cases h
  · rw [List.getElem?_set_ne hj] at h
    rw [List.getElem?_set_ne hj]
    exact E.2 j d' h
section
variable {X : Cx} {pos : Pos}
theorem PG.imp {e : Expr} {t t' : TG} (h : PG X e t) (i : ∀ v σ H Q, t' v σ H Q → t v σ H Q) : PG X e t' := ⟨fun pins s σ H v u Q I r q => h.run pins s σ H v u Q I r (i v σ H Q q)⟩
theorem PGs.imp {e : List Expr} {t t' : TGs} (h : PGs X e t) (i : ∀ v σ H Q, t' v σ H Q → t v σ H Q) : PGs X e t' := ⟨fun pins s σ H v u Q I r q => h.run pins s σ H v u Q I r (i v σ H Q q)⟩
theorem cg_name {i : Nat} {x : Str} (hN : X.N.Nodup) (hi : X.N[i]? = some x) (hx : Loc X.env.scope x) (hf : X.fn x = true ∨ X.env.scope.names.lookup x = some .local := by first | exact .inl rfl | exact .inr rfl | assumption) : PG X (.Name x pos) (GTm X.K [i] (gN i)) :=
  PG.imp (pg_name hN hi hx hf) fun v σ H Q ⟨m, env, s, d, env', r, E, p, e, q⟩ => by
    cases e
    exact q _ (relE_set E p i) (fun j hj => List.getElem?_set_ne (by simpa [eq_comm] using hj)) (by simp)
theorem cgs_nil {vs : List Nat} : PGs X [] (GTs X.K vs gsN) := PGs.imp pgs_nil fun v σ H Q ⟨m, env, s, ds, env', r, E, p, e, q⟩ => by
  cases ds with
  | nil => cases e; cases p; exact ⟨rfl, q σ E (fun _ _ => rfl) rfl⟩
  | cons _ _ => cases e
theorem cgs_cons {e : Expr} {es : List Expr} {g : D → Sl → Option Sl} {r : List D → Sl → Option Sl} {vs ws us : List Nat} (h1 : PG X e (GTm X.K vs g)) (h2 : PGs X es (GTs X.K ws r)) (hv : ∀ i, i ∈ vs ∨ i ∈ ws → i ∈ us := by simp)
    (hs : (assignEach (e :: es) X.env).map (·.2) = assign e X.env :: (assignEach es X.env).map (·.2) := by rfl) : PGs X (e :: es) (GTs X.K us (gsC g r)) :=
  PGs.imp (pgs_cons h1 h2 hs) fun v σ H Q ⟨m, env, s, ds, env', rl, E, p, e, q⟩ => by
    cases ds with
    | nil => cases e
    | cons d ds =>
      cases p with
      | cons pd p =>
        have e : (g d env).bind (r ds) = some env' := e
        cases q1 : g d env with
        | none => rw [q1] at e; cases e
        | some env1 =>
          rw [q1] at e
          refine ⟨_, _, rfl, m, env, s, d, env1, rl, E, pd, q1, fun σ1 E1 k1 n1 => ⟨m, env1, s, ds, env', rl, E1, p, e, fun σ2 E2 k2 n2 => q σ2 E2 (fun i hi => ?_) (n2.trans n1)⟩⟩
          rw [k2 i (fun z => hi (hv i (.inr z))), k1 i (fun z => hi (hv i (.inl z)))]
theorem cg_tup {es : List Expr} {k n : Nat} {r : List D → Sl → Option Sl} {vs : List Nat} (hc : X.calm = true) (h : PGs X es (GTs X.K vs r)) (hn : (assignEach es X.env).length = n := by rfl) (hst : (assignEach es X.env).findIdx? (·.1) = none := by rfl) :
    PG X (.Tuple es k pos) (GTm X.K vs (gT n r)) := PG.imp (pg_tup (n := n) hc h hn hst) fun v σ H Q ⟨m, env, s, d, env', rl, E, p, e, q⟩ => by
  cases d with
  | tup xs =>
    obtain ⟨a, ws, rfl, hq, rr⟩ := p.sqT
    have e : (if xs.length = n then r xs env else none) = some env' := e
    split at e
    · rename_i hl
      exact ⟨a, ws, rfl, hq, by rw [← rr.length]; exact hl, m, env, s, xs, env', rl, E, rr, e, q⟩
    · cases e
  | _ => cases e
end
/-! ### statements -/
abbrev MS := Sl → Store → RS
section
variable (K : PySem.W.Frag) (mg : Str → Option Value)
def GS (W : WX) (Dn : Ends) (m : List Addr) (H : Hp) : RS → Prop
  | .nx env s => ∀ m' σ' H', Le K m H m' H' → Rel K m' H' s → RelE K m' H' env σ' → Dn.nx σ' H'
  | .rt d s => ∀ m' H' v, Le K m H m' H' → Rel K m' H' s → Rep K m' H' d v → Dn.rt v H'
  | .bk env s => ∀ m' σ' H', Le K m H m' H' → Rel K m' H' s → RelE K m' H' env σ' → Dn.bk σ' H'
  | .ct env s => ∀ m' σ' H', Le K m H m' H' → Rel K m' H' s → RelE K m' H' env σ' → Dn.ct σ' H'
  | .ex e env s => ∀ m' σ' H' c dd, Le K m H m' H' → Rel K m' H' s → RelE K m' H' env σ' → ExR K mg m' H' e c dd → W c dd σ' H'
  | .no => False
def Ts (W : WX) (f : MS) : TS := fun Dn σ H => ∃ m env s, Rel K m H s ∧ RelE K m H env σ ∧ GS K mg W Dn m H (f env s)
end
def RS.bind (r : RS) (k : Sl → Store → RS) : RS := match r with
  | .nx env s => k env s
  | r => r
/-- behind an expression -/
def R.then {α : Type} (r : R α) (env : Sl) (k : α → Store → RS) : RS := match r with
  | .ok a s => k a s
  | .ex e s => .ex e env s
  | .no => .no
@[simp] theorem RS.bind_nx (env : Sl) (s : Store) (k : Sl → Store → RS) : (RS.nx env s).bind k = k env s := rfl
@[simp] theorem RS.bind_rt (d : D) (s : Store) (k : Sl → Store → RS) : (RS.rt d s).bind k = .rt d s := rfl
@[simp] theorem RS.bind_bk (env : Sl) (s : Store) (k : Sl → Store → RS) : (RS.bk env s).bind k = .bk env s := rfl
@[simp] theorem RS.bind_ct (env : Sl) (s : Store) (k : Sl → Store → RS) : (RS.ct env s).bind k = .ct env s := rfl
@[simp] theorem RS.bind_ex (e : Ex) (env : Sl) (s : Store) (k : Sl → Store → RS) : (RS.ex e env s).bind k = .ex e env s := rfl
@[simp] theorem RS.bind_no (k : Sl → Store → RS) : (RS.no).bind k = .no := rfl
@[simp] theorem R.then_ok {α : Type} (a : α) (s : Store) (env : Sl) (k : α → Store → RS) : (R.ok a s).then env k = k a s := rfl
@[simp] theorem R.then_ex {α : Type} (e : Ex) (s : Store) (env : Sl) (k : α → Store → RS) : (R.ex e s : R α).then env k = .ex e env s := rfl
@[simp] theorem R.then_no {α : Type} (env : Sl) (k : α → Store → RS) : (R.no : R α).then env k = .no := rfl
def sNil : MS := fun env s => .nx env s
def sSeq (f g : MS) : MS := fun env s => (f env s).bind g
def sSet (i : Nat) (e : ME D) : MS := fun env s => (e env s).then env fun d s => .nx (env.set i (some d)) s
def sAsg (g : D → Sl → Option Sl) (e : ME D) : MS := fun env s => (e env s).then env fun d s => match g d env with
  | some env' => .nx env' s
  | none => .no
def sIf (c : ME Bool) (f g : MS) : MS := fun env s => (c env s).then env fun b s => if b then f env s else g env s
def sRet (e : ME D) : MS := fun env s => (e env s).then env fun d s => .rt d s
def sRetN : MS := fun _ s => .rt .non s
def sExpr (e : ME D) : MS := fun env s => (e env s).then env fun _ s => .nx env s
def sBrk : MS := fun env s => .bk env s
def sCnt : MS := fun env s => .ct env s
/-- o[i] = e: e, o, i in this sequence -/
def sPut (g : D → D → D → Store → Option Store) (o i e : ME D) : MS := fun env s => (e env s).then env fun d s => (o env s).then env fun x s => (i env s).then env fun y s => match g x y d s with
  | some s' => .nx env s'
  | none => .no
/-- name op= e -/
def sAug (i : Nat) (g : D → D → Store → Option (D × Store)) (e : ME D) : MS := fun env s => match env[i]? with
  | some (some x) => (e env s).then env fun y s => match g x y s with
    | some (z, s') => .nx (env.set i (some z)) s'
    | none => .no
  | _ => .no
structure Itm where
  xs : List D
  guard : Store → Prop
open Classical in
noncomputable def forL (guard : Store → Prop) (g : D → Sl → Option Sl) (b : MS) : List D → Sl → Store → RS
  | [], env, s => if guard s then .nx env s else .no
  | x :: xs, env, s => if guard s then (match g x env with
    | none => .no
    | some env1 => match b env1 s with
      | .nx env2 s2 => forL guard g b xs env2 s2
      | .ct env2 s2 => forL guard g b xs env2 s2
      | .bk env2 s2 => .nx env2 s2
      | .rt d s2 => .rt d s2
      | .ex e env2 s2 => .ex e env2 s2
      | .no => .no) else .no
noncomputable def sFor (it : ME Itm) (g : D → Sl → Option Sl) (b : MS) : MS := fun env s => (it env s).then env fun i s => forL i.guard g b i.xs env s
def whileN (c : ME Bool) (b : MS) : Nat → Sl → Store → RS
  | 0, _, _ => .no
  | n + 1, env, s => (c env s).then env fun k s => if k then (match b env s with
      | .nx env2 s2 => whileN c b n env2 s2
      | .ct env2 s2 => whileN c b n env2 s2
      | .bk env2 s2 => .nx env2 s2
      | .rt d s2 => .rt d s2
      | .ex e env2 s2 => .ex e env2 s2
      | .no => .no) else .nx env s
open Classical in
/-- a while: some number of turns is enough -/
noncomputable def sWhile (c : ME Bool) (b : MS) : MS := fun env s => if h : ∃ n, whileN c b n env s ≠ .no then whileN c b (Classical.choose h) env s else .no
section
variable {K : PySem.W.Frag} {mg : Str → Option Value} {m m1 : List Addr} {H H1 : Hp} {s : Store} {W : WX} {σ : L2.St} {Dn : Ends}
theorem GS.mono (e : Le K m H m1 H1) {r : RS} (h : GS K mg W Dn m H r) : GS K mg W Dn m1 H1 r := by
  cases r with
  | nx env s => exact fun m' σ' H' l => h m' σ' H' (e.trans l)
  | rt d s => exact fun m' σ' H' l => h m' σ' H' (e.trans l)
  | bk env s => exact fun m' σ' H' l => h m' σ' H' (e.trans l)
  | ct env s => exact fun m' σ' H' l => h m' σ' H' (e.trans l)
  | ex x env s => exact fun m' σ' H' c d l => h m' σ' H' c d (e.trans l)
  | no => exact h
/-- an expression first -/
theorem GS.ofE {α β : Type} {ρ : List Addr → Hp → α → β → Prop} {r : R α} {env : Sl} {k : α → Store → RS} {Q : β → Hp → Prop} (E : RelE K m H env σ) (h : GS K mg W Dn m H (r.then env k))
    (q : ∀ m1 H1 a b s1, Le K m H m1 H1 → Rel K m1 H1 s1 → ρ m1 H1 a b → GS K mg W Dn m1 H1 (k a s1) → Q b H1) : G K mg ρ W σ m H Q r := by
  cases r with
  | ok a s => exact fun m' H' b l r p => q m' H' a b s l r p (GS.mono l h)
  | ex x s => exact fun m' H' c d l r p => h m' σ H' c d l r (E.mono l) p
  | no => exact h
theorem Ts.ofE {α β : Type} {ρ : List Addr → Hp → α → β → Prop} {f : Sl → Store → R α} {k : Sl → α → Store → RS} {Q : β → Hp → Prop} (h : Ts K mg W (fun env s => (f env s).then env (k env)) Dn σ H)
    (q : ∀ m1 H1 env a b s1, Rel K m1 H1 s1 → RelE K m1 H1 env σ → ρ m1 H1 a b → GS K mg W Dn m1 H1 (k env a s1) → Q b H1) : Tm K mg ρ W f σ H Q := by
  obtain ⟨m, env, s, r, E, g⟩ := h
  exact ⟨m, env, s, r, E, GS.ofE E g fun m1 H1 a b s1 l r1 p g1 => q m1 H1 env a b s1 r1 (E.mono l) p g1⟩
end
section
variable {X : Cx} {W : WX} {pos : Pos} {e o i c tg iter : Expr} {st : Stmt} {rest body els : List Stmt} {fe fo fi : ME D} {gc : ME Bool} {f g : MS}
theorem css_nil : PSs X [] (Ts X.K X.mg W sNil) := PSs.imp pss_nil fun Dn σ H ⟨m, env, s, r, E, q⟩ => q m σ H .refl r E
theorem css_cons (h1 : PS X st (Ts X.K X.mg W f)) (h2 : PSs X rest (Ts X.K X.mg W g)) : PSs X (st :: rest) (Ts X.K X.mg W (sSeq f g)) :=
  PSs.imp (pss_cons h1 h2) fun Dn σ H ⟨m, env, s, r, E, q⟩ => by
    refine ⟨m, env, s, r, E, ?_⟩
    unfold sSeq at q
    cases hf : f env s with
    | nx env1 s1 => rw [hf] at q; exact fun m' σ' H' l r' E' => ⟨m', env1, s1, r', E', GS.mono l q⟩
    | rt d s1 => rw [hf] at q; exact q
    | bk env1 s1 => rw [hf] at q; exact q
    | ct env1 s1 => rw [hf] at q; exact q
    | ex x env1 s1 => rw [hf] at q; exact q
    | no => rw [hf] at q; exact q
theorem css_one (h1 : PS X st (Ts X.K X.mg W f)) : PSs X [st] (Ts X.K X.mg W f) := pss_one h1
theorem cs_pass : PS X (.Pass pos) (Ts X.K X.mg W sNil) := PS.imp ps_pass fun Dn σ H ⟨m, env, s, r, E, q⟩ => q m σ H .refl r E
theorem cs_doc {x j pos'} : PS X (.Expr (.Constant (.str x) j pos) pos') (Ts X.K X.mg W sNil) := PS.imp ps_doc fun Dn σ H ⟨m, env, s, r, E, q⟩ => q m σ H .refl r E
theorem cs_break : PS X (.Break pos) (Ts X.K X.mg W sBrk) := PS.imp ps_break fun Dn σ H ⟨m, env, s, r, E, q⟩ => q m σ H .refl r E
theorem cs_cont : PS X (.Continue pos) (Ts X.K X.mg W sCnt) := PS.imp ps_continue fun Dn σ H ⟨m, env, s, r, E, q⟩ => q m σ H .refl r E
theorem cs_set {j : Nat} {x : Str} {pos' : Pos} (hN : X.N.Nodup) (hi : X.N[j]? = some x) (hx : Loc X.env.scope x) (he : PE X e (Te X.K X.mg W fe)) (hs : swapsWith e (some (.Name x pos')) pos.line X.env = pure false := by rfl) (hf : X.fn x = true ∨ X.env.scope.names.lookup x = some .local := by first | exact .inl rfl | exact .inr rfl | assumption) :
    PS X (.Assign [.Name x pos'] e pos) (Ts X.K X.mg W (sSet j fe)) := PS.imp (ps_set (i := j) hN hi hx he hs hf) fun Dn σ H h =>
  Ts.ofE (k := fun env d s => .nx (env.set j (some d)) s) h fun m1 H1 env d v s1 r1 E1 p1 g1 => g1 m1 _ H1 .refl r1 (relE_set E1 p1 j)
theorem cs_asg {vs : List Nat} {g : D → Sl → Option Sl} (he : PE X e (Te X.K X.mg W fe)) (hg : PG X tg (GTm X.K vs g)) (hs : swapsWithSole [tg] e pos.line X.env = pure false := by rfl) (hw : swappedStores [tg] e X.env = pure none := by rfl)
    (h1 : (assignEach [tg] X.env).map (·.2) = [assign tg X.env] := by rfl) : PS X (.Assign [tg] e pos) (Ts X.K X.mg W (sAsg g fe)) := PS.imp (ps_asg he hg hs hw h1) fun Dn σ H h =>
  Ts.ofE (k := fun env d s => match g d env with | some env' => RS.nx env' s | none => RS.no) h fun m1 H1 env d v s1 r1 E1 p1 g1 => by
    cases q : g d env with
    | none => simp only [q] at g1; exact g1.elim
    | some env' =>
      simp only [q] at g1
      exact ⟨m1, env, s1, d, env', r1, E1, p1, q, fun σ' E' _ _ => g1 m1 σ' H1 .refl r1 E'⟩
theorem cs_expr (he : PE X e (Te X.K X.mg W fe)) (hs : swapsWith e none pos.line X.env = pure false := by rfl) : PS X (.Expr e pos) (Ts X.K X.mg W (sExpr fe)) := PS.imp (ps_expr he hs) fun Dn σ H h =>
  Ts.ofE (k := fun env _ s => RS.nx env s) h fun m1 H1 env d v s1 r1 E1 p1 g1 => g1 m1 σ H1 .refl r1 E1
theorem cs_ret (he : PE X e (Te X.K X.mg W fe)) : PS X (.Return (some e) pos) (Ts X.K X.mg W (sRet fe)) := PS.imp (ps_ret he) fun Dn σ H h =>
  Ts.ofE (k := fun _ d s => RS.rt d s) h fun m1 H1 env d v s1 r1 E1 p1 g1 => g1 m1 H1 v .refl r1 p1
theorem cs_retN : PS X (.Return none pos) (Ts X.K X.mg W sRetN) := PS.imp ps_retN fun Dn σ H ⟨m, env, s, r, E, q⟩ => q m H _ .refl r .non
theorem cs_if (hc : PT X c (Tt X.K X.mg W gc)) (ha : PSs X body (Ts X.K X.mg W f)) (hb : PSs X els (Ts X.K X.mg W g)) : PS X (.If c body els pos) (Ts X.K X.mg W (sIf gc f g)) := PS.imp (ps_if hc ha hb) fun Dn σ H h =>
  Ts.ofE (k := fun env (b : Bool) s => if b then f env s else g env s) h fun m1 H1 env d v s1 r1 E1 p1 g1 => by
    cases (show d = v from p1)
    cases d with
    | true => exact iteT ⟨m1, env, s1, r1, E1, g1⟩
    | false => exact iteF ⟨m1, env, s1, r1, E1, g1⟩
def PutS (K : PySem.W.Frag) (t : TSet) (g : D → D → D → Store → Option Store) : Prop :=
  ∀ {m : List Addr} {H : Hp} {s s' : Store} {x y z : V} {dx dy dz : D} {Q : Hp → Prop}, Rel K m H s → Rep K m H dx x → Rep K m H dy y → Rep K m H dz z → g dx dy dz s = some s' → (∀ H', Le K m H m H' → Rel K m H' s' → Q H') → t x y z H Q
theorem cs_put {t : TSet} {g : D → D → D → Store → Option Store} (he : PE X e (Te X.K X.mg W fe)) (ho : PE X o (Te X.K X.mg W fo)) (hi : PE X i (Te X.K X.mg W fi)) (hs : PSet X t) (hp : PutS X.K t g)
    (ha : ∀ v, assign (.Subscript o i pos) X.env v = (do
      let ov ← holding [v] (eval o X.env)
      let iv ← holding [v, ov] (eval i X.env)
      standAt pos
      holding [v, ov, iv] (setItem ov iv v)
      release [v, ov, iv] []) := by intro _; rfl) {pos' : Pos} (hs1 : swapsWithSole [.Subscript o i pos] e pos'.line X.env = pure false := by rfl) (hw : swappedStores [.Subscript o i pos] e X.env = pure none := by rfl)
    (h1 : (assignEach [.Subscript o i pos] X.env).map (·.2) = [assign (.Subscript o i pos) X.env] := by rfl) : PS X (.Assign [.Subscript o i pos] e pos') (Ts X.K X.mg W (sPut g fo fi fe)) :=
  PS.imp (ps_asg he (pg_sub ho hi hs ha) hs1 hw h1) fun Dn σ H h =>
    Ts.ofE (k := fun env d s => (fo env s).then env fun x s => (fi env s).then env fun y s => match g x y d s with | some s' => RS.nx env s' | none => RS.no) h fun m1 H1 env d v s1 r1 E1 p1 g1 =>
      ⟨m1, env, s1, r1, E1, GS.ofE E1 g1 fun m2 H2 x vx s2 l2 r2 p2 g2 => ⟨m2, env, s2, r2, E1.mono l2, GS.ofE (E1.mono l2) g2 fun m3 H3 y vy s3 l3 r3 p3 g3 => by
        cases q : g x y d s3 with
        | none => simp only [q] at g3; exact g3.elim
        | some s' =>
          simp only [q] at g3
          exact hp r3 (p2.mono l3) p3 ((p1.mono l2).mono l3) q fun H' l' r' => g3 m3 σ H' l' r' (((E1.mono l2).mono l3).mono l')⟩⟩
def IpS (K : PySem.W.Frag) (t : TIp) (g : D → D → Store → Option (D × Store)) : Prop := OpS K t g
theorem cs_aug {j : Nat} {x : Str} {op : Operator} {ti : TIp} {g : D → D → Store → Option (D × Store)} {pos' : Pos} (hN : X.N.Nodup) (hi : X.N[j]? = some x) (hx : Loc X.env.scope x) (he : PE X e (Te X.K X.mg W fe)) (ho : PIp X op ti) (hp : OpS X.K ti g) (hf : X.fn x = true ∨ X.env.scope.names.lookup x = some .local := by first | exact .inl rfl | exact .inr rfl | assumption) :
    PS X (.AugAssign (.Name x pos') op e pos) (Ts X.K X.mg W (sAug j g fe)) := PS.imp (ps_aug (i := j) hN hi hx he ho hf) fun Dn σ H ⟨m, env, s, r, E, q⟩ => by
  unfold sAug at q
  cases q1 : env[j]? with
  | none => simp only [q1] at q; exact q.elim
  | some o1 =>
    cases o1 with
    | none => simp only [q1] at q; exact q.elim
    | some d =>
      simp only [q1] at q
      obtain ⟨v, h1, h2⟩ := E.2 j d q1
      refine ⟨v, h1, m, env, s, r, E, GS.ofE E q fun m1 H1 y vy s1 l1 r1 p1 g1 => ?_⟩
      refine hp (mg := X.mg) (W := W) (σ := σ) r1 (h2.mono l1) p1 ?_
      cases q2 : g d y s1 with
      | none => simp only [q2] at g1; exact g1.elim
      | some zs =>
        obtain ⟨z, s'⟩ := zs
        simp only [q2] at g1
        exact fun m' H' b l r p => g1 m' _ H' l r (relE_set ((E.mono l1).mono l) p j)
/-! #### loops -/
def ItR (K : PySem.W.Frag) (m : List Addr) (H : Hp) (it : Itm) (J : It) : Prop := ∀ m2 H2 s2, Lw K m H m2 H2 → Rel K m2 H2 s2 → it.guard s2 →
  (∀ i d, it.xs[i]? = some d → J.go i H2 ∧ ∀ v H3, J.yld i H2 v H3 → Le K m2 H2 m2 H3 ∧ Rel K m2 H3 s2 ∧ Rep K m2 H3 d v) ∧ J.stop it.xs.length H2
abbrev Ti (K : PySem.W.Frag) (mg : Str → Option Value) (W : WX) (f : ME Itm) : TI := Tm K mg (ItR K) W f
theorem cs_for {fi : ME Itm} {vs : List Nat} {gt : D → Sl → Option Sl} (hp : PassesOwn (model X.prog X.w) X.A X.env X.xe) (hc : X.calm = true) (hi : PI X tg iter (Ti X.K X.mg W fi)) (hg : PG X tg (GTm X.K vs gt)) (hb : PSs X body (Ts X.K X.mg W f))
    (hs : ∀ x, foldedSetIterable iter X.env x = pure x := by intro _; rfl) : PS X (.For tg iter body [] pos) (Ts X.K X.mg W (sFor fi gt f)) :=
  PS.imp (ps_for hp hc hi hg hb hs) fun Dn σ H h => Ts.ofE (k := fun env (i : Itm) s => forL i.guard gt f i.xs env s) h fun m1 H1 env it J s1 r1 E1 p1 g1 => by
    refine ⟨fun i k σ H => k = it.xs.length - i ∧ i ≤ it.xs.length ∧ ∃ m2 env2 s2, Le X.K m1 H1 m2 H ∧ Rel X.K m2 H s2 ∧ RelE X.K m2 H env2 σ ∧ GS X.K X.mg W Dn m2 H (forL it.guard gt f (it.xs.drop i) env2 s2),
      ⟨it.xs.length, by simp, Nat.zero_le _, m1, env, s1, .refl, r1, E1, g1⟩, ?_⟩
    rintro i k σ2 H2 ⟨rfl, hi, m2, env2, s2, l2, r2, E2, g2⟩
    by_cases hlt : i < it.xs.length
    · have hx : it.xs[i]? = some it.xs[i] := by simp [hlt]
      have hd : it.xs.drop i = it.xs[i] :: it.xs.drop (i + 1) := List.drop_eq_getElem_cons hlt
      rw [hd] at g2
      unfold forL at g2
      by_cases hgd : it.guard s2
      · simp only [hgd, if_true] at g2
        obtain ⟨hall, _⟩ := p1 m2 H2 s2 l2.w r2 hgd
        obtain ⟨hgo, hy⟩ := hall i _ hx
        refine .inr ⟨hgo, fun σ' H' => ∃ m3 env3 s3, Le X.K m1 H1 m3 H' ∧ Rel X.K m3 H' s3 ∧ RelE X.K m3 H' env3 σ' ∧ GS X.K X.mg W Dn m3 H' (forL it.guard gt f (it.xs.drop (i + 1)) env3 s3),
          fun σ' H' ⟨m3, env3, s3, l3, r3, E3, g3⟩ => ⟨it.xs.length - (i + 1), by omega, rfl, hlt, m3, env3, s3, l3, r3, E3, g3⟩, fun v H3 y => ?_⟩
        obtain ⟨l3, r3, p3⟩ := hy v H3 y
        cases q : gt it.xs[i] env2 with
        | none => simp only [q] at g2; exact g2.elim
        | some env3 =>
          simp only [q] at g2
          refine ⟨m2, env2, s2, it.xs[i], env3, r3, E2.mono l3, p3, q, fun σ4 E4 _ _ => ⟨m2, env3, s2, r3, E4, ?_⟩⟩
          have g3 := GS.mono l3 g2
          have l4 := l2.trans l3
          cases hb2 : f env3 s2 with
          | nx env5 s5 => rw [hb2] at g3; exact fun m' σ' H' l r E => ⟨m', env5, s5, l4.trans l, r, E, GS.mono l g3⟩
          | ct env5 s5 => rw [hb2] at g3; exact fun m' σ' H' l r E => ⟨m', env5, s5, l4.trans l, r, E, GS.mono l g3⟩
          | bk env5 s5 => rw [hb2] at g3; exact g3
          | rt d s5 => rw [hb2] at g3; exact g3
          | ex x env5 s5 => rw [hb2] at g3; exact g3
          | no => rw [hb2] at g3; exact g3
      · simp only [hgd, if_false] at g2
        exact g2.elim
    · have e : i = it.xs.length := by omega
      subst e
      rw [List.drop_length] at g2
      unfold forL at g2
      by_cases hgd : it.guard s2
      · simp only [hgd, if_true] at g2
        exact .inl ⟨(p1 m2 H2 s2 l2.w r2 hgd).2, g2 m2 σ2 H2 .refl r2 E2⟩
      · simp only [hgd, if_false] at g2
        exact g2.elim
theorem cs_while (hp : PassesOwn (model X.prog X.w) X.A X.env X.xe) (hc : PT X c (Tt X.K X.mg W gc)) (hb : PSs X body (Ts X.K X.mg W f)) : PS X (.While c body [] pos) (Ts X.K X.mg W (sWhile gc f)) :=
  PS.imp (ps_while hp hc hb) fun Dn σ H ⟨m, env, s, r, E, g⟩ => by
    unfold sWhile at g
    split at g
    · rename_i hx
      refine ⟨fun n σ H => ∃ m2 env2 s2, Rel X.K m2 H s2 ∧ RelE X.K m2 H env2 σ ∧ GS X.K X.mg W Dn m2 H (whileN gc f n env2 s2), ⟨_, m, env, s, r, E, g⟩, ?_⟩
      rintro n σ1 H1 ⟨m1, env1, s1, r1, E1, g1⟩
      cases n with
      | zero => exact g1.elim
      | succ n =>
        unfold whileN at g1
        refine ⟨m1, env1, s1, r1, E1, GS.ofE E1 g1 fun m2 H2 k kb s2 l2 r2 p2 g2 => ?_⟩
        cases (show k = kb from p2)
        cases k with
        | false => exact iteF (g2 m2 σ1 H2 .refl r2 (E1.mono l2))
        | true =>
          refine iteT ⟨fun σ' H' => ∃ m3 env3 s3, Rel X.K m3 H' s3 ∧ RelE X.K m3 H' env3 σ' ∧ GS X.K X.mg W Dn m3 H' (whileN gc f n env3 s3), fun σ' H' q => ⟨n, Nat.lt_succ_self n, q⟩, m2, env1, s2, r2, E1.mono l2, ?_⟩
          simp only [if_true] at g2
          cases hb2 : f env1 s2 with
          | nx env5 s5 => rw [hb2] at g2; exact fun m' σ' H' l r E => ⟨m', env5, s5, r, E, GS.mono l g2⟩
          | ct env5 s5 => rw [hb2] at g2; exact fun m' σ' H' l r E => ⟨m', env5, s5, r, E, GS.mono l g2⟩
          | bk env5 s5 => rw [hb2] at g2; exact g2
          | rt d s5 => rw [hb2] at g2; exact g2
          | ex x env5 s5 => rw [hb2] at g2; exact g2
          | no => rw [hb2] at g2; exact g2
    · exact g.elim
end
/-! #### what a loop walks -/
def always : Store → Prop := fun _ => True
/-- a list, a tuple, a text -/
def iSeq (a : ME D) : ME Itm := fun env s => (a env s).bind fun x s => match x with
  | .tup xs => .ok (Itm.mk (xs) (always)) s
  | .fl xs => .ok (Itm.mk (xs) (always)) s
  | .str z => .ok (Itm.mk (z.cps.toList.map fun c => .str ⟨#[c]⟩) (always)) s
  | .loc l => match s[l]? with
    | some (.lst xs) => .ok (Itm.mk (xs) (fun s2 => s2[l]? = some (.lst xs))) s
    | _ => .no
  | _ => .no
/-- a bound of a range -/
def InR (j : Int) : Prop := -(2 ^ 62) ≤ j ∧ j < 2 ^ 62
noncomputable instance (j : Int) : Decidable (InR j) := Classical.propDecidable _
noncomputable def iRange1 (a : ME (List D)) : ME Itm := fun env s => (a env s).bind fun x s => match x with
  | [.int j] => if InR j then .ok (Itm.mk ((List.range j.toNat).map fun i => .int ((0 : Int) + (i : Nat))) (always)) s else .no
  | _ => .no
noncomputable def iRange2 (a : ME (List D)) : ME Itm := fun env s => (a env s).bind fun x s => match x with
  | [.int i, .int j] => if InR i ∧ InR j then .ok (Itm.mk ((List.range (j - i).toNat).map fun k => .int (i + (k : Nat))) (always)) s else .no
  | _ => .no
section
variable {K : PySem.W.Frag} {m : List Addr} {H : Hp}
theorem itr_list {l : Nat} {xs : List D} {a : Addr} (h : m[l]? = some a) : ItR K m H ⟨xs, fun s2 => s2[l]? = some (.lst xs)⟩ (Itl K a) := fun m2 H2 s2 l2 r2 g => by
  have g' : s2[l]? = some (.lst xs) := g
  obtain ⟨vs, h1, h2⟩ := r2.list (l2.get h) g'
  have hq : SqL K H2 a vs := .inl (.inl h1)
  refine ⟨fun i d e => ?_, ⟨vs, hq, by rw [← h2.length]; exact Nat.le_refl _⟩⟩
  obtain ⟨v, hv, rv⟩ := h2.get e
  refine ⟨⟨vs, v, hq, hv⟩, fun w H3 y => ?_⟩
  obtain ⟨rfl, y⟩ := y
  have e2 := y vs hq
  rw [hv] at e2; cases e2
  exact ⟨.refl, r2, rv⟩
theorem itr_fl {xs : List D} {vs : List V} {a : Addr} (h : FrL K H a vs) (p : Reps K m H xs vs) : ItR K m H ⟨xs, always⟩ (Itl K a) := fun m2 H2 s2 l2 r2 g => by
  have hq : SqL K H2 a vs := (l2.frl a vs h).sq
  have h2 := p.monoW l2
  refine ⟨fun i d e => ?_, ⟨vs, hq, by rw [← h2.length]; exact Nat.le_refl _⟩⟩
  obtain ⟨v, hv, rv⟩ := h2.get e
  refine ⟨⟨vs, v, hq, hv⟩, fun w H3 y => ?_⟩
  obtain ⟨rfl, y⟩ := y
  have e2 := y vs hq
  rw [hv] at e2; cases e2
  exact ⟨.refl, r2, rv⟩
theorem itr_tup {xs : List D} {vs : List V} {a : Addr} (h : SqT K H a vs) (p : Reps K m H xs vs) : ItR K m H ⟨xs, always⟩ (Itt K a) := fun m2 H2 s2 l2 r2 g => by
  have hq : SqT K H2 a vs := l2.tup a vs h
  have h2 := p.monoW l2
  refine ⟨fun i d e => ?_, ⟨vs, hq, by rw [← h2.length]; exact Nat.le_refl _⟩⟩
  obtain ⟨v, hv, rv⟩ := h2.get e
  refine ⟨⟨vs, v, hq, hv⟩, fun w H3 y => ?_⟩
  obtain ⟨rfl, y⟩ := y
  have e2 := y vs hq
  rw [hv] at e2; cases e2
  exact ⟨.refl, r2, rv⟩
theorem itr_str {z : Str} : ItR K m H ⟨z.cps.toList.map fun c => .str ⟨#[c]⟩, always⟩ (Its z) := fun m2 H2 s2 l2 r2 g => by
  have w := walk_str (z := z)
  refine ⟨fun i d e => ?_, by
    have q := w.stops H2 trivial
    show (Its z).stop (List.map _ z.cps.toList).length H2
    rw [List.length_map, Array.length_toList]
    exact q⟩
  rw [List.getElem?_map, Array.getElem?_toList] at e
  cases hc : z.cps[i]? with
  | none => rw [hc] at e; cases e
  | some c =>
    rw [hc] at e; cases e
    have hi : i < z.cps.size := (Array.getElem?_eq_some_iff.mp hc).1
    refine ⟨w.goes i H2 hi trivial, fun v H3 y => ?_⟩
    obtain ⟨rfl, c', h1, rfl⟩ := w.yields i H2 v H3 hi trivial y
    rw [hc] at h1; cases h1
    exact ⟨.refl, r2, .str _⟩
theorem itr_range {lo : Int} {n : Nat} : ItR K m H ⟨(List.range n).map fun (i : Nat) => .int (lo + (i : Int)), always⟩ (Itr lo n) := fun m2 H2 s2 l2 r2 g => by
  refine ⟨fun i d e => ?_, by show n ≤ (List.map _ (List.range n)).length; simp⟩
  rw [List.getElem?_map] at e
  by_cases hi : i < n
  · rw [List.getElem?_range hi] at e
    cases e
    refine ⟨hi, fun v H3 y => ?_⟩
    obtain ⟨rfl, rfl⟩ := y
    exact ⟨.refl, r2, .int _⟩
  · rw [List.getElem?_eq_none (by simpa using hi)] at e; cases e
end
section
variable {X : Cx} {W : WX} {tg e a b : Expr} {p pos : Pos} {fe : ME D} {fs : ME (List D)}
theorem PI.imp {e : Expr} {t t' : TI} (h : PI X tg e t) (i : ∀ σ H Q, t' σ H Q → t σ H Q) : PI X tg e t' := ⟨fun pins s σ H Q I q => h.run pins s σ H Q I (i σ H Q q)⟩
def iAny (K : PySem.W.Frag) (tl : TE) : TI := fun σ H R => tl σ H fun x H1 => (∃ a, x = .ref a ∧ ((∃ xs, SqL K H1 a xs) ∧ R (Itl K a) H1 ∨ (∃ xs, SqT K H1 a xs) ∧ R (Itt K a) H1)) ∨ ∃ z, x = .str z ∧ R (Its z) H1
theorem pi_any {tl : TE} (hl : PE X e tl) : PI X tg e (iAny X.K tl) := by
  refine ⟨fun pins s σ H R I h => ?_⟩
  refine thn (hl.run pins s σ H _ I h) fun v s1 ⟨x, H1, I1, r1, q1⟩ => ?_
  rcases q1 with ⟨a, rfl, ⟨⟨xs, hq⟩, q⟩ | ⟨⟨xs, hq⟩, q⟩⟩ | ⟨z, rfl, q⟩
  · cases r1
    obtain ⟨its, rv, p, hz⟩ := I1.list hq
    refine wpAny_pyIter_list p.isList ?_
    refine ⟨s1.heap.objs.size, [s1.heap.objs.size], _, _, H1, rfl, I1.kept (t' := s1.toks) fun b o e => Heap.get?_push_of_some _ e, turn_list a _, ⟨_, Heap.get?_push_size _ rfl, rfl, rfl⟩, fun b hb => ?_, q⟩
    have e : b = s1.heap.objs.size := by simpa using hb
    subst e
    exact I1.fpOk (Nat.le_refl _) (I1.hok.fresh (Nat.le_refl _))
  · cases r1
    obtain ⟨its, rv, p, hz⟩ := I1.tuple hq
    refine wpAny_pyIter_tuple (show s1.heap.IsTuple a its.toArray from p) ?_
    refine ⟨s1.heap.objs.size, [s1.heap.objs.size], _, _, H1, rfl, I1.kept (t' := s1.toks) fun b o e => Heap.get?_push_of_some _ e, turn_tuple a _, ⟨_, Heap.get?_push_size _ rfl, rfl, rfl⟩, fun b hb => ?_, q⟩
    have e : b = s1.heap.objs.size := by simpa using hb
    subst e
    exact I1.fpOk (Nat.le_refl _) (I1.hok.fresh (Nat.le_refl _))
  · obtain ⟨t, rfl⟩ := r1
    cases ha : z.cps.all (· < 128)
    · exact wpAny_pyIter_wide ha (pi_one (tk := s1.toks) I1 _ (turn_str _ z t "str_iterator" (.inr rfl)) ⟨_, Heap.get?_push_size _ rfl, rfl, rfl⟩ q)
    · exact wpAny_pyIter_ascii ha (pi_one (tk := s1.toks) I1 _ (turn_str _ z t "str_ascii_iterator" (.inl rfl)) ⟨_, Heap.get?_push_size _ rfl, rfl, rfl⟩ q)
theorem ci_seq (he : PE X e (Te X.K X.mg W fe)) : PI X tg e (Ti X.K X.mg W (iSeq fe)) := PI.imp (pi_any he) fun σ H Rw h =>
  Tm.bind (k := fun _ x s => match x with
  | .tup xs => R.ok (Itm.mk (xs) (always)) s
  | .fl xs => R.ok (Itm.mk (xs) (always)) s
  | .str z => R.ok (Itm.mk (z.cps.toList.map fun c => .str ⟨#[c]⟩) (always)) s
  | .loc l => match s[l]? with
    | some (.lst xs) => R.ok (Itm.mk (xs) (fun s2 => s2[l]? = some (.lst xs))) s
    | _ => R.no
  | _ => R.no) h fun m1 H1 env x v s1 r1 E1 p1 g1 => by
    cases x with
    | tup xs =>
      obtain ⟨a, vs, rfl, hq, rr⟩ := p1.sqT
      exact .inl ⟨a, rfl, .inr ⟨⟨vs, hq⟩, g1 m1 H1 _ .refl r1 (itr_tup hq rr)⟩⟩
    | fl xs =>
      cases p1 with
      | fl hq rr => exact .inl ⟨_, rfl, .inl ⟨⟨_, hq.sq⟩, g1 m1 H1 _ .refl r1 (itr_fl hq rr)⟩⟩
    | str z => cases p1; exact .inr ⟨z, rfl, g1 m1 H1 _ .refl r1 itr_str⟩
    | loc l =>
      cases p1 with
      | loc hl =>
        cases q : s1[l]? with
        | none => simp only [q] at g1; exact g1.elim
        | some c =>
          cases c with
          | dic _ => simp only [q] at g1; exact g1.elim
          | dct _ => simp only [q] at g1; exact g1.elim
          | lst xs =>
            simp only [q] at g1
            obtain ⟨vs, h1, h2⟩ := r1.list hl q
            exact .inl ⟨_, rfl, .inl ⟨⟨vs, .inl (.inl h1)⟩, g1 m1 H1 _ .refl r1 (itr_list hl)⟩⟩
    | _ => exact g1.elim
theorem ci_range1 (hg : Gl X "range") (hm : X.mg "range" = none) (ha : PA X [a] (Ta X.K X.mg W fs)) (hs : starEach [a] X.env = [(false, eval a X.env)] := by rfl) : PI X tg (.Call (.Name "range" p) [a] [] pos) (Ti X.K X.mg W (iRange1 fs)) :=
  PI.imp (pi_range1 hg hm ha hs) fun σ H Rw h => Tm.bind (k := fun _ x s => match x with
  | [.int j] => if InR j then R.ok (Itm.mk ((List.range j.toNat).map fun i => .int ((0 : Int) + (i : Nat))) (always)) s else R.no
  | _ => R.no) h fun m1 H1 env x v s1 r1 E1 p1 g1 => by
    match x, p1, g1 with
    | [.int j], p1, g1 =>
      obtain ⟨v, rfl, h⟩ := reps1 p1
      cases h
      by_cases hj : InR j
      · simp only [hj, if_true] at g1
        exact ⟨j, rfl, hj.1, hj.2, g1 m1 H1 _ .refl r1 itr_range⟩
      · simp only [hj, if_false] at g1
        exact g1.elim
    | [], _, g1 => exact g1.elim
    | [.non], _, g1 => exact g1.elim
    | [.bl _], _, g1 => exact g1.elim
    | [.str _], _, g1 => exact g1.elim
    | [.tup _], _, g1 => exact g1.elim
    | [.fl _], _, g1 => exact g1.elim
    | [.loc _], _, g1 => exact g1.elim
    | [.exv _ _ _ _], _, g1 => exact g1.elim
    | .non :: _ :: _, _, g1 => exact g1.elim
    | .bl _ :: _ :: _, _, g1 => exact g1.elim
    | .int _ :: _ :: _, _, g1 => exact g1.elim
    | .str _ :: _ :: _, _, g1 => exact g1.elim
    | .tup _ :: _ :: _, _, g1 => exact g1.elim
    | .fl _ :: _ :: _, _, g1 => exact g1.elim
    | .loc _ :: _ :: _, _, g1 => exact g1.elim
    | .exv _ _ _ _ :: _ :: _, _, g1 => exact g1.elim
theorem ci_range2 (hg : Gl X "range") (hm : X.mg "range" = none) (ha : PA X [a, b] (Ta X.K X.mg W fs)) (hs : starEach [a, b] X.env = [(false, eval a X.env), (false, eval b X.env)] := by rfl) (hs2 : starEach [b] X.env = [(false, eval b X.env)] := by rfl) :
    PI X tg (.Call (.Name "range" p) [a, b] [] pos) (Ti X.K X.mg W (iRange2 fs)) :=
  PI.imp (pi_range2 hg hm ha hs hs2) fun σ H Rw h => Tm.bind (k := fun _ x s => match x with
  | [.int i, .int j] => if InR i ∧ InR j then R.ok (Itm.mk ((List.range (j - i).toNat).map fun k => .int (i + (k : Nat))) (always)) s else R.no
  | _ => R.no) h fun m1 H1 env x v s1 r1 E1 p1 g1 => by
    split at g1
    · rename_i i j
      obtain ⟨v, w, rfl, h, h2⟩ := reps2 p1
      cases h; cases h2
      by_cases hj : InR i ∧ InR j
      · simp only [hj, and_self, if_true] at g1
        exact ⟨i, j, rfl, ⟨hj.1.1, hj.1.2, hj.2.1, hj.2.2⟩, g1 m1 H1 _ .refl r1 itr_range⟩
      · simp only [hj, if_false] at g1
        exact g1.elim
    · exact g1.elim
end
/-- o[i] = e of a list -/
def pList (x y z : D) (s : Store) : Option Store := match x, y with
  | .loc l, .int i => match s[l]? with
    | some (.lst xs) => (ixN xs.length i).map fun j => s.set l (.lst (xs.set j z))
    | _ => none
  | _, _ => none
theorem puts_list {K : PySem.W.Frag} : PutS K rSetL pList := by
  intro m H s s' x y z dx dy dz Q r px py pz e q
  unfold pList at e
  split at e
  · rename_i l i
    cases px with
    | loc hl =>
      cases py
      split at e
      · rename_i xs q1
        cases q2 : ixN xs.length i with
        | none => rw [q2] at e; cases e
        | some j =>
          rw [q2] at e
          cases e
          obtain ⟨vs, h1, h2⟩ := r.list hl q1
          obtain ⟨le, r2⟩ := le_setlist r hl (h2.set pz j)
          exact ⟨_, vs, i, j, rfl, rfl, h1, by rw [← h2.length]; exact q2, q _ le r2⟩
      · cases e
  · cases e
end Mi
namespace Mi
open PySem PySem.Spec PyProof.Rows L2
/-! ### list comprehensions -/
def wipeE (env : Sl) : List Nat → Sl
  | [] => env
  | v :: vs => (wipeE env vs).set v none
theorem wipeE_length (env : Sl) : ∀ vs : List Nat, (wipeE env vs).length = env.length
  | [] => rfl
  | v :: vs => by unfold wipeE; rw [List.length_set, wipeE_length env vs]
theorem wipeE_some {env : Sl} {i : Nat} {x : D} : ∀ {vs : List Nat}, (wipeE env vs)[i]? = some (some x) → env[i]? = some (some x) ∧ i ∉ vs
  | [], h => ⟨h, by simp⟩
  | v :: vs, h => by
    unfold wipeE at h
    by_cases hi : v = i
    · subst hi
      by_cases hv : v < (wipeE env vs).length
      · rw [List.getElem?_set_self hv] at h; cases h
      · rw [List.getElem?_eq_none (by simpa using hv)] at h; cases h
    · rw [List.getElem?_set_ne hi] at h
      obtain ⟨h1, h2⟩ := wipeE_some h
      exact ⟨h1, by simp only [List.mem_cons, not_or]; exact ⟨fun e => hi e.symm, h2⟩⟩
theorem relE_wipe {K : PySem.W.Frag} {m : List Addr} {H : Hp} {env : Sl} {σ : L2.St} (E : RelE K m H env σ) (vs : List Nat) : RelE K m H (wipeE env vs) (wipe σ vs) := by
  refine ⟨by rw [wipeE_length, wipe_length]; exact E.1, fun i d h => ?_⟩
  obtain ⟨h1, h2⟩ := wipeE_some h
  obtain ⟨v, h3, h4⟩ := E.2 i d h1
  exact ⟨v, by rw [wipe_out h2]; exact h3, h4⟩
theorem wipe_in {σ : L2.St} {i : Nat} : ∀ {vs : List Nat}, i ∈ vs → i < σ.length → (wipe σ vs)[i]? = some none
  | v :: vs, h, hl => by
    unfold wipe
    by_cases hv : v = i
    · subst hv
      rw [List.getElem?_set_self (by rw [wipe_length]; exact hl)]
    · rw [List.getElem?_set_ne hv]
      exact wipe_in (by rcases List.mem_cons.mp h with e | e; exact absurd e.symm hv; exact e) hl
theorem wipe_congr {σ σ' : L2.St} {vs : List Nat} (hl : σ'.length = σ.length) (h : ∀ i, i ∉ vs → σ'[i]? = σ[i]?) : wipe σ' vs = wipe σ vs := by
  apply List.ext_getElem?
  intro i
  by_cases hi : i ∈ vs
  · by_cases hn : i < σ.length
    · rw [wipe_in hi (by rw [hl]; exact hn), wipe_in hi hn]
    · rw [List.getElem?_eq_none (by rw [wipe_length, hl]; omega), List.getElem?_eq_none (by rw [wipe_length]; omega)]
  · rw [wipe_out hi, wipe_out hi, h i hi]
theorem wipe_wipe (σ : L2.St) (vs : List Nat) : wipe (wipe σ vs) vs = wipe σ vs := wipe_congr (wipe_length σ vs) fun i hi => wipe_out hi
/-- nothing is raised within a comprehension -/
def noX {α : Type} : R α → R α
  | .ok a s => .ok a s
  | _ => .no
open Classical in
noncomputable def lcL (guard : Store → Prop) (g : D → Sl → Option Sl) (t : ME Bool) (e : ME D) (env : Sl) : List D → List D → Store → R (List D)
  | [], acc, s => if guard s then .ok acc s else .no
  | x :: xs, acc, s => if guard s then (match g x env with
    | none => .no
    | some env1 => match t env1 s with
      | .ok b s1 => if b then (match e env1 s1 with
        | .ok y s2 => if acc.length < sizeLine then lcL guard g t e env xs (acc ++ [y]) s2 else .no
        | _ => .no) else lcL guard g t e env xs acc s1
      | _ => .no) else .no
noncomputable def eLc (it : ME Itm) (vs : List Nat) (g : D → Sl → Option Sl) (t : ME Bool) (e : ME D) : ME D := fun env s => (it env s).bind fun i s => (lcL i.guard g t e (wipeE env vs) i.xs [] s).bind fun acc s => .ok (.loc s.length) (s ++ [.lst acc])
def tT : ME Bool := fun _ s => .ok true s
abbrev WF : WX := fun _ _ _ _ => False
section
variable {X : Cx} {W : WX}
theorem lc_run {fi : ME Itm} {vs : List Nat} {gt : D → Sl → Option Sl} {ft : ME Bool} {fe : ME D} : ∀ σ H Q, Te X.K X.mg W (eLc fi vs gt ft fe) σ H Q →
    tLc (Ti X.K X.mg W fi) (GTm X.K vs gt) (Tt X.K X.mg WF ft) (Te X.K X.mg WF fe) vs σ H Q := fun σ H Q h =>
  Tm.bind (k := fun env (i : Itm) s => (lcL i.guard gt ft fe (wipeE env vs) i.xs [] s).bind fun acc s => R.ok (D.loc s.length) (s ++ [Cell.lst acc])) h fun m1 H1 env it J s1 r1 E1 p1 g1 => by
    intro P hP
    refine ⟨fun i k H => k = it.xs.length - i ∧ i ≤ it.xs.length ∧ ∃ m2 s2 acc accV, Le X.K m1 H1 m2 H ∧ Rel X.K m2 H s2 ∧ H P = some (.lst accV) ∧ P ∉ m2 ∧ Reps X.K m2 H acc accV ∧
        G X.K X.mg (Rep X.K) W σ m1 H1 Q ((lcL it.guard gt ft fe (wipeE env vs) (it.xs.drop i) acc s2).bind fun acc s => R.ok (D.loc s.length) (s ++ [Cell.lst acc])),
      ⟨it.xs.length, by simp, Nat.zero_le _, m1, s1, [], [], le_new hP, r1.tmp hP, upd_same, r1.new_notin hP, .nil, g1⟩, ?_⟩
    rintro i k H2 ⟨rfl, hi, m2, s2, acc, accV, l2, r2, hD, nD, pA, g2⟩
    by_cases hlt : i < it.xs.length
    · have hx : it.xs[i]? = some it.xs[i] := by simp [hlt]
      have hd : it.xs.drop i = it.xs[i] :: it.xs.drop (i + 1) := List.drop_eq_getElem_cons hlt
      rw [hd] at g2
      unfold lcL at g2
      by_cases hgd : it.guard s2
      · simp only [hgd, if_true] at g2
        obtain ⟨hall, _⟩ := p1 m2 H2 s2 l2.w r2 hgd
        obtain ⟨hgo, hy⟩ := hall i _ hx
        refine .inr ⟨hgo, fun H' => ∃ m2 s2 acc accV, Le X.K m1 H1 m2 H' ∧ Rel X.K m2 H' s2 ∧ H' P = some (.lst accV) ∧ P ∉ m2 ∧ Reps X.K m2 H' acc accV ∧
          G X.K X.mg (Rep X.K) W σ m1 H1 Q ((lcL it.guard gt ft fe (wipeE env vs) (it.xs.drop (i + 1)) acc s2).bind fun acc s => R.ok (D.loc s.length) (s ++ [Cell.lst acc])),
          fun H' q => ⟨it.xs.length - (i + 1), by omega, rfl, hlt, q⟩, fun v H3 y => ?_⟩
        obtain ⟨l3, r3, p3⟩ := hy v H3 y
        cases q : gt it.xs[i] (wipeE env vs) with
        | none => simp only [q] at g2; exact g2.elim
        | some env3 =>
          simp only [q] at g2
          have l13 := l2.trans l3
          have hD3 := l3.fr P _ hD nD
          refine ⟨m2, wipeE env vs, s2, it.xs[i], env3, r3, relE_wipe (E1.mono l13) vs, p3, q, fun σ4 E4 k4 n4 => ⟨by rw [wipe_congr n4 k4, wipe_wipe], m2, env3, s2, r3, E4, ?_⟩⟩
          cases ht : ft env3 s2 with
          | no => rw [ht] at g2; exact g2.elim
          | ex x s4 => rw [ht] at g2; exact g2.elim
          | ok b s4 =>
            simp only [ht] at g2
            intro m5 H5 b' l5 r5 eb
            cases (show b = b' from eb)
            have hD5 := l5.fr P _ hD3 nD
            have nD5 : P ∉ m5 := fun z => by
              rcases l5.nw P z with w | w
              · exact nD w
              · rw [hD3] at w; cases w
            have l15 := l13.trans l5
            cases b with
            | false =>
              refine iteF ⟨m5, s4, acc, accV, l15, r5, hD5, nD5, (pA.mono l3).mono l5, ?_⟩
              simpa using g2
            | true =>
              simp only [if_true] at g2
              refine iteT ⟨m5, env3, s4, r5, E4.mono l5, ?_⟩
              cases he : fe env3 s4 with
              | no => rw [he] at g2; exact g2.elim
              | ex x s6 => rw [he] at g2; exact g2.elim
              | ok y s6 =>
                simp only [he] at g2
                by_cases hz : acc.length < sizeLine
                · simp only [hz, if_true] at g2
                  intro m7 H7 yv l7 r7 p7
                  have hD7 := l7.fr P _ hD5 nD5
                  have nD7 : P ∉ m7 := fun z => by
                    rcases l7.nw P z with w | w
                    · exact nD5 w
                    · rw [hD5] at w; cases w
                  have pA7 := ((pA.mono l3).mono l5).mono l7
                  exact ⟨accV, hD7, by rw [← pA.length]; exact hz, m7, s6, acc ++ [y], accV ++ [yv], (l15.trans l7).side hP hD7, r7.side hD7 nD7, upd_same, nD7,
                    (pA7.monoW (lw_side hD7)).append (.cons (p7.monoW (lw_side hD7)) .nil), g2⟩
                · simp only [hz, if_false] at g2
                  exact g2.elim
      · simp only [hgd, if_false] at g2
        exact g2.elim
    · have e : i = it.xs.length := by omega
      subst e
      rw [List.drop_length] at g2
      unfold lcL at g2
      by_cases hgd : it.guard s2
      · simp only [hgd, if_true] at g2
        refine .inl ⟨(p1 m2 H2 s2 l2.w r2 hgd).2, ?_⟩
        exact g2 (m2 ++ [P]) H2 (.ref P) (l2.adopt hP) (r2.adopt nD hD pA) (.loc (len_get r2))
      · simp only [hgd, if_false] at g2
        exact g2.elim
variable {elt tg iter c : Expr} {ifs : List Expr} {scope : Scope} {own : List (Str × Nat)} {pos : Pos} {fi : ME Itm} {gt : D → Sl → Option Sl} {ft : ME Bool} {fe : ME D}
theorem cts_nil : PTs X [] (Tt X.K X.mg W tT) := ⟨fun pins s σ H Q I ⟨m, env, st, r, E, g⟩ => pts_nil.run pins s σ H Q I (g.nowB r)⟩
theorem cts_one (h : PT X c (Tt X.K X.mg W ft)) : PTs X [c] (Tt X.K X.mg W ft) := pts_one h
theorem ce_lc (hc : X.calm = true) (hN : X.N.Nodup) (hi : PI X tg iter (Ti X.K X.mg W fi)) (ok : BlkOk X.N X.env.scope scope own)
    (hg : ∀ (s : Shared) (H : Hp) (C : Addr) (cl : List (Str × Addr)) (fp : List Addr), PG (X.blk s H scope (compEnvC scope cl C X.env) fp) tg (GTm X.K (own.map (·.2)) gt)) (ht : ∀ (s : Shared) (H : Hp) (C : Addr) (cl : List (Str × Addr)) (fp : List Addr), PTs (X.blk s H scope (compEnvC scope cl C X.env) fp) ifs (Tt X.K X.mg WF ft))
    (he : ∀ (s : Shared) (H : Hp) (C : Addr) (cl : List (Str × Addr)) (fp : List Addr), PE (X.blk s H scope (compEnvC scope cl C X.env) fp) elt (Te X.K X.mg WF fe)) (hs : ∀ x, foldedSetIterable iter X.env x = pure x := by intro _; rfl) :
    PE X (.ListComp elt [⟨tg, iter, ifs, 0⟩] scope pos) (Te X.K X.mg W (eLc fi (own.map (·.2)) gt ft fe)) := PE.imp (pe_lc hc hN hi ok hg ht he hs) lc_run
theorem cs_setLc {i : Nat} {y : Str} {py spos : Pos} (hc : X.calm = true) (hN : X.N.Nodup) (hy : X.N[i]? = some y) (hyl : X.env.scope.names.lookup y = some .local)
    (hsw : swapsWith (.ListComp elt [⟨tg, iter, ifs, 0⟩] scope pos) (some (.Name y py)) spos.line X.env = pure true) (hi : PI X tg iter (Ti X.K X.mg W fi)) (ok : BlkOk X.N X.env.scope scope own)
    (hg : ∀ (s : Shared) (H : Hp) (C : Addr) (cl : List (Str × Addr)) (fp : List Addr), PG (X.blk s H scope (compEnvC scope cl C X.env) fp) tg (GTm X.K (own.map (·.2)) gt)) (ht : ∀ (s : Shared) (H : Hp) (C : Addr) (cl : List (Str × Addr)) (fp : List Addr), PTs (X.blk s H scope (compEnvC scope cl C X.env) fp) ifs (Tt X.K X.mg WF ft))
    (he : ∀ (s : Shared) (H : Hp) (C : Addr) (cl : List (Str × Addr)) (fp : List Addr), PE (X.blk s H scope (compEnvC scope cl C X.env) fp) elt (Te X.K X.mg WF fe)) (hs : ∀ x, foldedSetIterable iter X.env x = pure x := by intro _; rfl) :
    PS X (.Assign [.Name y py] (.ListComp elt [⟨tg, iter, ifs, 0⟩] scope pos) spos) (Ts X.K X.mg W (sSet i (eLc fi (own.map (·.2)) gt ft fe))) := PS.imp (ps_setLc (i := i) hc hN hy hyl hsw hi ok hg ht he hs) fun Dn σ H h =>
  lc_run σ H _ (Ts.ofE (k := fun env d s => RS.nx (env.set i (some d)) s) h fun m1 H1 env d v s1 r1 E1 p1 g1 => g1 m1 _ H1 .refl r1 (relE_set E1 p1 i))
end
/-! ### a def -/
/-- the mirror of a def: N names, n of them parameters -/
def fnM (N n : Nat) (b : MS) : List D → Store → R D := fun ds s => match b (ds.map some ++ List.replicate (N - n) none) s with
  | .rt d s => .ok d s
  | .nx _ s => .ok .non s
  | .ex e _ s => .ex e s
  | _ => .no
theorem relE_start {K : PySem.W.Frag} {m : List Addr} {H : Hp} {N : List Str} {ds : List D} {vs : List V} (p : Reps K m H ds vs) : RelE K m H (ds.map some ++ List.replicate (N.length - ds.length) none) (L2.start N vs) := by
  have hl := p.length
  refine ⟨by simp [L2.start, hl], fun i d h => ?_⟩
  by_cases hi : i < ds.length
  · rw [List.getElem?_append_left (by simpa using hi), List.getElem?_map] at h
    cases q : ds[i]? with
    | none => rw [q] at h; cases h
    | some d' =>
      rw [q] at h; cases h
      obtain ⟨v, h1, h2⟩ := p.get q
      refine ⟨v, ?_, h2⟩
      unfold L2.start
      rw [List.getElem?_append_left (by simpa using (hl ▸ hi)), List.getElem?_map, h1]
      rfl
  · rw [List.getElem?_append_right (by simpa using Nat.le_of_not_lt hi), List.getElem?_replicate] at h
    split at h <;> cases h
theorem okM {P : Program} {w : World} {K : PySem.W.Frag} {mg : Str → Option Value} {base : Heap} {x qual : Str} {st : Stmt} {f : Addr} {fd : FuncData} {N ps : List Str} {k n : Nat} {b : MS} (F : Fun K x qual st f fd) (S : FnScope N ps (defScope st)) (hn : ps.length = n)
    (hb : ∀ (cdv : Value) (A : Around) (outer : List Env) (s : Shared) (H : Hp) (E : XK), Room k (A.deeper (envOfC qual (defScope st) s.heap.objs.size f cdv)) → Takes (cxOf (L2.CX P w) P w K mg base N qual (defScope st) f cdv A outer s H E) (fun c d _ H => E c d H) →
      PSs (cxOf (L2.CX P w) P w K mg base N qual (defScope st) f cdv A outer s H E) (defBody st) (Ts K mg (fun c d _ H => E c d H) b)) :
    FnOk P w K mg base (L2.CX P w) (k + 1) f fd ps (spM K mg n (fnM N.length n b)) := by
  refine F.okX S (fun vs H Q E h => by rw [hn]; exact h.1) fun cdv A outer s H vs Q E hr h => ⟨_, hb cdv A outer s H E hr (takes_of rfl rfl rfl rfl), ?_⟩
  obtain ⟨hl, m, s, ds, r, p, g⟩ := h
  refine ⟨m, _, s, r, relE_start (N := N) p, ?_⟩
  have hd : ds.length = n := by rw [p.length, hl]
  unfold fnM at g
  rw [hd]
  cases q : b (ds.map some ++ List.replicate (N.length - n) none) s with
  | nx env s1 => rw [q] at g; exact fun m' σ' H' l r' _ => g m' H' .non l r' .non
  | rt d s1 => rw [q] at g; exact g
  | ex e env s1 => rw [q] at g; exact fun m' σ' H' c dd l r' _ x => g m' H' c dd l r' x
  | bk env s1 => rw [q] at g; exact g.elim
  | ct env s1 => rw [q] at g; exact g.elim
  | no => rw [q] at g; exact g.elim
end Mi
namespace Mi
open PySem PySem.Spec PyProof.Rows L2
/-! ### the law's end -/
theorem an_nil : ∀ (xs : List D) (s : Store) (env : Sl) (s' : Store), aNil env s = .ok xs s' → xs.length = 0 := fun xs s env s' h => by cases h; rfl
theorem an_cons {a : ME D} {r : ME (List D)} {n : Nat} (h : ∀ (xs : List D) (s : Store) (env : Sl) (s' : Store), r env s = .ok xs s' → xs.length = n) :
    ∀ (xs : List D) (s : Store) (env : Sl) (s' : Store), aCons a r env s = .ok xs s' → xs.length = n + 1 := fun xs s env s' e => by
  unfold aCons at e
  cases q : a env s with
  | no => rw [q] at e; cases e
  | ex x s1 => rw [q] at e; cases e
  | ok x s1 =>
    rw [q] at e
    simp only [R.bind_ok] at e
    cases q2 : r env s1 with
    | no => rw [q2] at e; cases e
    | ex x s2 => rw [q2] at e; cases e
    | ok ys s2 =>
      rw [q2] at e
      simp only [R.bind_ok] at e
      have z := h ys s1 env s2 q2
      cases e
      rw [List.length_cons, z]
def dAddI : D → D → Store → Option (D × Store) := dI fun i j => some (.int (i + j))
theorem ips_add {K : PySem.W.Frag} : OpS K (ipI fun i j => i + j) dAddI := fun {mg W σ m H s x y dx dy Q} r px py g => ops_dI0 (K := K) (gv := fun i j => .int (i + j)) (fun _ _ _ _ => .int _) r px py g
theorem ips_sub {K : PySem.W.Frag} : OpS K (ipI fun i j => i - j) dSub := fun {mg W σ m H s x y dx dy Q} r px py g => ops_sub (K := K) r px py g
theorem cx_none {P : Program} {w : World} {l : List Env} {H : Hp} {s : Shared} {e : Value} {s' : Shared} (h : L2.CX P w l H s (fun _ _ _ => False) e s') : False := by
  obtain ⟨_, _, _, _, _, _, _, _, _, _, _, _, z⟩ := h
  exact z
def spLaw (K : PySem.W.Frag) : Sp := fun vs H Q _ => ∃ (a : Addr) (ns : List Int), vs = [.ref a] ∧ SqL K H a (ns.map V.int) ∧ ns.length ≤ 63 ∧ Only H ∧ ∀ H', Q (.bl true) H'
theorem law_imp {K : PySem.W.Frag} {mg : Str → Option Value} {g : List D → Store → R D} (h : ∀ ns : List Int, ns.length ≤ 63 → ∃ s, g [.fl (ns.map D.int)] [] = .ok (.bl true) s) :
    ∀ vs H Q E, spLaw K vs H Q E → spM K mg 1 g vs H Q E := fun vs H Q E ⟨a, ns, e, hS, hl, hO, q⟩ => by
  subst e
  refine ⟨rfl, [], [], [.fl (ns.map D.int)], ⟨rfl, List.nodup_nil, fun l a c h => by simp at h⟩, .cons (.fl (vs := ns.map V.int) ?_ (reps_ints ns)) .nil, ?_⟩
  · rcases hS with (hS | hS) | hS
    · rcases hO a with z | ⟨o, xs, z⟩
      · rw [hS] at z; cases z
      · rw [hS] at z; cases z
    · exact .inl hS
    · exact .inr hS
  · obtain ⟨s, e⟩ := h ns hl
    rw [e]
    intro m' H' v _ _ p
    cases p
    exact q H'
end Mi
namespace Mi
open PySem PySem.Spec PyProof.Rows L2
/-! ### running a mirror by simp -/
@[simp] theorem line_num : sizeLine = 16777216 := sizeLine_eq
/-- what range(n) gives -/
def rng (n : Nat) : List D := (List.range n).map fun i => .int ((0 : Int) + (i : Nat))
section
variable (env : Sl) (s : Store)
@[simp] theorem eC_eq (d : D) : eC d env s = .ok d s := rfl
@[simp] theorem eV_0 (d : D) (r : Sl) : eV 0 (some d :: r) s = .ok d s := rfl
@[simp] theorem eV_s (i : Nat) (o : Option D) (r : Sl) : eV (i + 1) (o :: r) s = eV i r s := rfl
@[simp] theorem e2_eq (g) (a b : ME D) : e2 g a b env s = (a env s).bind fun x s => (b env s).bind fun y s => R.of (g x y s) := rfl
@[simp] theorem e1_eq (g) (a : ME D) : e1 g a env s = (a env s).bind fun x s => R.of (g x s) := rfl
@[simp] theorem aNil_eq : aNil env s = .ok [] s := rfl
@[simp] theorem aCons_eq (a : ME D) (r : ME (List D)) : aCons a r env s = (a env s).bind fun x s => (r env s).bind fun xs s => .ok (x :: xs) s := rfl
@[simp] theorem eFn_eq (g) (a : ME (List D)) : eFn g a env s = (a env s).bind fun xs s => R.of (g xs s) := rfl
theorem le_line {n : Nat} (h : n ≤ 1000000) : n ≤ sizeLine := by rw [sizeLine_eq]; omega
theorem lt_line {n : Nat} (h : n ≤ 1000000) : n < sizeLine := by rw [sizeLine_eq]; omega
@[simp] theorem eTup_eq (a : ME (List D)) : eTup a env s = (a env s).bind fun xs s => if xs.length ≤ sizeLine then .ok (.tup xs) s else .no := rfl
@[simp] theorem eLst_eq (a : ME (List D)) : eLst a env s = (a env s).bind fun xs s => if xs.length ≤ sizeLine then .ok (.loc s.length) (s ++ [.lst xs]) else .no := rfl
/-- written displays -/
def arity : ME (List D) → Nat → Prop := fun a n => ∀ env s xs s', a env s = .ok xs s' → xs.length = n
theorem tup_short (xs : List D) (h : xs.length ≤ 1000000) : (if xs.length ≤ sizeLine then (R.ok (D.tup xs) s : R D) else .no) = .ok (.tup xs) s := if_pos (le_line h)
@[simp] theorem eCall_eq (g : List D → Store → R D) (a : ME (List D)) : eCall g a env s = (a env s).bind g := rfl
@[simp] theorem tV_eq (a : ME D) : tV a env s = (a env s).bind fun x s => match x with | .bl b => .ok b s | _ => .no := rfl
@[simp] theorem tAnd_eq (a b : ME Bool) : tAnd a b env s = (a env s).bind fun x s => if x then b env s else .ok false s := rfl
@[simp] theorem tOr_eq (a b : ME Bool) : tOr a b env s = (a env s).bind fun x s => if x then .ok true s else b env s := rfl
@[simp] theorem tNot_eq (a : ME Bool) : tNot a env s = (a env s).bind fun x s => .ok (!x) s := rfl
@[simp] theorem eIf_eq (c : ME Bool) (a b : ME D) : eIf c a b env s = (c env s).bind fun x s => if x then a env s else b env s := rfl
@[simp] theorem eAnd_eq (a b : ME D) : eAnd a b env s = (a env s).bind fun x s => match x with | .bl true => b env s | .bl false => .ok (.bl false) s | _ => .no := rfl
@[simp] theorem eOr_eq (a b : ME D) : eOr a b env s = (a env s).bind fun x s => match x with | .bl true => .ok (.bl true) s | .bl false => b env s | _ => .no := rfl
@[simp] theorem eNot_eq (a : ME D) : eNot a env s = (a env s).bind fun x s => match x with | .bl c => .ok (.bl !c) s | _ => .no := rfl
@[simp] theorem eChain_eq (g g') (a b c : ME D) : eChain g g' a b c env s = (a env s).bind fun x s => (b env s).bind fun y s => (R.of (g x y s)).bind fun z s => match z with
  | .bl true => (c env s).bind fun w s => R.of (g' y w s)
  | .bl false => .ok (.bl false) s
  | _ => .no := rfl
@[simp] theorem eMt_eq (T : String) (g) (a : ME D) (fs : ME (List D)) : eMt T g a fs env s = (a env s).bind fun x s => if tyOk T s x = true then (fs env s).bind fun xs s => R.of (g x xs s) else .no := rfl
@[simp] theorem eMt0_eq (T : String) (g) (a : ME D) : eMt0 T g a env s = (a env s).bind fun x s => if tyOk T s x = true then R.of (g x [] s) else .no := rfl
@[simp] theorem oNone_eq : oNone env s = .ok none s := rfl
@[simp] theorem oSome_eq (a : ME D) : oSome a env s = (a env s).bind fun x s => match x with | .int i => .ok (some i) s | _ => .no := rfl
@[simp] theorem eSl_eq (g) (a : ME D) (lo hi : ME (Option Int)) : eSl g a lo hi env s = (a env s).bind fun x s => (lo env s).bind fun l s => (hi env s).bind fun u s => R.of (g x l u s) := rfl
@[simp] theorem gN_eq (i : Nat) (d : D) : gN i d env = some (env.set i (some d)) := rfl
@[simp] theorem gsN_eq : gsN [] env = some env := rfl
@[simp] theorem gsC_eq (g) (r) (x : D) (xs : List D) : gsC g r (x :: xs) env = (g x env).bind (r xs) := rfl
@[simp] theorem gT_eq (n : Nat) (r) (xs : List D) : gT n r (.tup xs) env = if xs.length = n then r xs env else none := rfl
@[simp] theorem sNil_eq : sNil env s = .nx env s := rfl
@[simp] theorem sSeq_eq (f g : MS) : sSeq f g env s = (f env s).bind g := rfl
@[simp] theorem sSet_eq (i : Nat) (e : ME D) : sSet i e env s = (e env s).then env fun d s => .nx (env.set i (some d)) s := rfl
@[simp] theorem sAsg_eq (g) (e : ME D) : sAsg g e env s = (e env s).then env fun d s => match g d env with | some env' => .nx env' s | none => .no := rfl
@[simp] theorem sIf_eq (c : ME Bool) (f g : MS) : sIf c f g env s = (c env s).then env fun b s => if b then f env s else g env s := rfl
@[simp] theorem sRet_eq (e : ME D) : sRet e env s = (e env s).then env fun d s => .rt d s := rfl
@[simp] theorem sRetN_eq : sRetN env s = .rt .non s := rfl
@[simp] theorem sExpr_eq (e : ME D) : sExpr e env s = (e env s).then env fun _ s => .nx env s := rfl
@[simp] theorem sBrk_eq : sBrk env s = .bk env s := rfl
@[simp] theorem sCnt_eq : sCnt env s = .ct env s := rfl
@[simp] theorem sPut_eq (g) (o i e : ME D) : sPut g o i e env s = (e env s).then env fun d s => (o env s).then env fun x s => (i env s).then env fun y s => match g x y d s with
  | some s' => .nx env s'
  | none => .no := rfl
@[simp] theorem sFor_eq (it : ME Itm) (g) (b : MS) : sFor it g b env s = (it env s).then env fun i s => forL i.guard g b i.xs env s := rfl
@[simp] theorem eLc_eq (it : ME Itm) (vs g t e) : eLc it vs g t e env s = (it env s).bind fun i s => (lcL i.guard g t e (wipeE env vs) i.xs [] s).bind fun acc s => .ok (.loc s.length) (s ++ [.lst acc]) := rfl
@[simp] theorem tT_eq : tT env s = .ok true s := rfl
@[simp] theorem iSeq_eq (a : ME D) : iSeq a env s = (a env s).bind fun x s => match x with
  | .tup xs => .ok (Itm.mk xs always) s
  | .fl xs => .ok (Itm.mk xs always) s
  | .str z => .ok (Itm.mk (z.cps.toList.map fun c => .str ⟨#[c]⟩) always) s
  | .loc l => match s[l]? with
    | some (.lst xs) => .ok (Itm.mk xs fun s2 => s2[l]? = some (.lst xs)) s
    | _ => .no
  | _ => .no := rfl
noncomputable def rangeOf (x : List D) (s : Store) : R Itm := match x with
  | [.int j] => if InR j then .ok (Itm.mk (rng j.toNat) always) s else .no
  | _ => .no
@[simp] theorem iRange1_eq (a : ME (List D)) : iRange1 a env s = (a env s).bind rangeOf := (rfl)
theorem big62 : (1000000000 : Int) < 2 ^ 62 := by decide
@[simp] theorem rangeOf_int (j : Int) (h0 : 0 ≤ j) (h1 : j ≤ 1000000000) : rangeOf [.int j] s = .ok (Itm.mk (rng j.toNat) always) s :=
  if_pos ⟨Int.le_trans (by decide) h0, Int.lt_of_le_of_lt h1 big62⟩
noncomputable def rangeOf2 (x : List D) (s : Store) : R Itm := match x with
  | [.int i, .int j] => if InR i ∧ InR j then .ok (Itm.mk ((List.range (j - i).toNat).map fun k => .int (i + (k : Nat))) always) s else .no
  | _ => .no
@[simp] theorem iRange2_eq (a : ME (List D)) : iRange2 a env s = (a env s).bind rangeOf2 := (rfl)
@[simp] theorem rangeOf2_int (i j : Int) (h0 : 0 ≤ i) (h1 : i ≤ 1000000000) (h2 : 0 ≤ j) (h3 : j ≤ 1000000000) : rangeOf2 [.int i, .int j] s = .ok (Itm.mk ((List.range (j - i).toNat).map fun k => .int (i + (k : Nat))) always) s :=
  if_pos ⟨⟨Int.le_trans (by decide) h0, Int.lt_of_le_of_lt h1 big62⟩, Int.le_trans (by decide) h2, Int.lt_of_le_of_lt h3 big62⟩
@[simp] theorem wipeE_nil : wipeE env [] = env := rfl
@[simp] theorem wipeE_cons (v : Nat) (vs : List Nat) : wipeE env (v :: vs) = (wipeE env vs).set v none := rfl
@[simp] theorem forL_nil_always (g) (b : MS) : forL always g b [] env s = .nx env s := by unfold forL; simp [always]
theorem forL_cons_always (g) (b : MS) (x : D) (xs : List D) : forL always g b (x :: xs) env s = match g x env with
    | none => .no
    | some env1 => match b env1 s with
      | .nx env2 s2 => forL always g b xs env2 s2
      | .ct env2 s2 => forL always g b xs env2 s2
      | .bk env2 s2 => .nx env2 s2
      | .rt d s2 => .rt d s2
      | .ex e env2 s2 => .ex e env2 s2
      | .no => .no := by
  conv => lhs; unfold forL
  exact (if_pos trivial).trans rfl
theorem forL_nil (gd : Store → Prop) (h : gd s) (g) (b : MS) : forL gd g b [] env s = .nx env s := by unfold forL; simp [h]
theorem forL_cons (gd : Store → Prop) (h : gd s) (g) (b : MS) (x : D) (xs : List D) : forL gd g b (x :: xs) env s = match g x env with
    | none => .no
    | some env1 => match b env1 s with
      | .nx env2 s2 => forL gd g b xs env2 s2
      | .ct env2 s2 => forL gd g b xs env2 s2
      | .bk env2 s2 => .nx env2 s2
      | .rt d s2 => .rt d s2
      | .ex e env2 s2 => .ex e env2 s2
      | .no => .no := by
  conv => lhs; unfold forL
  exact (if_pos h).trans rfl
theorem lcL_nil (gd : Store → Prop) (h : gd s) (g t e) (acc : List D) : lcL gd g t e env [] acc s = .ok acc s := by unfold lcL; simp [h]
theorem lcL_cons (gd : Store → Prop) (h : gd s) (g t e) (acc : List D) (x : D) (xs : List D) : lcL gd g t e env (x :: xs) acc s = match g x env with
    | none => .no
    | some env1 => match t env1 s with
      | .ok b s1 => if b then (match e env1 s1 with
        | .ok y s2 => if acc.length < sizeLine then lcL gd g t e env xs (acc ++ [y]) s2 else .no
        | _ => .no) else lcL gd g t e env xs acc s1
      | _ => .no := by
  conv => lhs; unfold lcL
  exact (if_pos h).trans rfl
end
@[simp] theorem dI_eq (f : Int → Int → Option D) (i j : Int) (s : Store) : dI f (.int i) (.int j) s = (f i j).map fun d => (d, s) := rfl
@[simp] theorem dAdd_int (i j : Int) (s : Store) : dAdd (.int i) (.int j) s = some (.int (i + j), s) := rfl
theorem dAdd_loc {s : Store} {l k : Nat} {xs ys : List D} (h : s[l]? = some (.lst xs)) (h2 : s[k]? = some (.lst ys)) (hz : xs.length + ys.length ≤ 1000000) : dAdd (.loc l) (.loc k) s = some (.loc s.length, s ++ [.lst (xs ++ ys)]) := by
  have q := le_line hz
  simp only [dAdd, h, h2, q, if_true]
theorem dAdd_tup {s : Store} {xs ys : List D} (hz : xs.length + ys.length ≤ 1000000) : dAdd (.tup xs) (.tup ys) s = some (.tup (xs ++ ys), s) := by
  have q := le_line hz
  simp only [dAdd, q, if_true]
@[simp] theorem dSub_int (i j : Int) (s : Store) : dSub (.int i) (.int j) s = some (.int (i - j), s) := rfl
theorem dMul_int (i j : Int) (s : Store) (h : CMul i j) : dMul (.int i) (.int j) s = some (.int (i * j), s) := by simp [dMul, h]
/-- one factor is small -/
@[simp] theorem dMul_r (i j : Int) (s : Store) (h : -(2 ^ 64) < j ∧ j < 2 ^ 64) : dMul (.int i) (.int j) s = some (.int (i * j), s) := dMul_int i j s (.inr h)
theorem dMul_l (i j : Int) (s : Store) (h : -(2 ^ 64) < i ∧ i < 2 ^ 64) : dMul (.int i) (.int j) s = some (.int (i * j), s) := dMul_int i j s (.inl h)
@[simp] theorem dDiv_int (i j : Int) (s : Store) (h : 0 < j ∧ j < 1073741824) : dDiv (.int i) (.int j) s = some (.int (i / j), s) := by
  have q : CDiv i j := h
  simp [dDiv, q]
@[simp] theorem dMod_int (i j : Int) (s : Store) (h : 0 < j) : dMod (.int i) (.int j) s = some (.int (i % j), s) := by simp [dMod, h]
@[simp] theorem dPow_int (i j : Int) (s : Store) (h : 0 ≤ j ∧ j ≤ 1000000 ∧ i.natAbs < 2 ^ 64) : dPow (.int i) (.int j) s = some (.int (i ^ j.toNat), s) := by
  have q : CPow i j := h
  simp [dPow, q]
@[simp] theorem dNeg_int (i : Int) (s : Store) : dNeg (.int i) s = some (.int (-i), s) := rfl
@[simp] theorem dLt_int (i j : Int) (s : Store) : dLt (.int i) (.int j) s = some (.bl (decide (i < j)), s) := rfl
@[simp] theorem dLe_int (i j : Int) (s : Store) : dLe (.int i) (.int j) s = some (.bl (decide (i ≤ j)), s) := rfl
@[simp] theorem dGt_int (i j : Int) (s : Store) : dGt (.int i) (.int j) s = some (.bl (decide (j < i)), s) := rfl
@[simp] theorem dGe_int (i j : Int) (s : Store) : dGe (.int i) (.int j) s = some (.bl (decide (j ≤ i)), s) := rfl
@[simp] theorem dEq_int (i j : Int) (s : Store) : dEq (.int i) (.int j) s = some (.bl (decide (i = j)), s) := rfl
@[simp] theorem dNe_int (i j : Int) (s : Store) : dNe (.int i) (.int j) s = some (.bl (!decide (i = j)), s) := rfl
@[simp] theorem dEq_bl (i j : Bool) (s : Store) : dEq (.bl i) (.bl j) s = some (.bl (decide (i = j)), s) := rfl
@[simp] theorem dNe_bl (i j : Bool) (s : Store) : dNe (.bl i) (.bl j) s = some (.bl (!decide (i = j)), s) := rfl
@[simp] theorem dEq_str (i j : Str) (s : Store) : dEq (.str i) (.str j) s = some (.bl (decide (i = j)), s) := rfl
@[simp] theorem dNe_str (i j : Str) (s : Store) : dNe (.str i) (.str j) s = some (.bl (!decide (i = j)), s) := rfl
@[simp] theorem dIs_non_non (s : Store) : dIs .non .non s = some (.bl true, s) := rfl
@[simp] theorem dIs_int_non (i : Int) (s : Store) : dIs (.int i) .non s = some (.bl false, s) := rfl
@[simp] theorem dIs_bl_bl (i j : Bool) (s : Store) : dIs (.bl i) (.bl j) s = some (.bl (decide (i = j)), s) := rfl
@[simp] theorem dIs_str_non (i : Str) (s : Store) : dIs (.str i) .non s = some (.bl false, s) := rfl
@[simp] theorem dIs_tup_non (i : List D) (s : Store) : dIs (.tup i) .non s = some (.bl false, s) := rfl
@[simp] theorem dIsNot_non_non (s : Store) : dIsNot .non .non s = some (.bl false, s) := rfl
@[simp] theorem dIsNot_int_non (i : Int) (s : Store) : dIsNot (.int i) .non s = some (.bl true, s) := rfl
@[simp] theorem dIsNot_bl_bl (i j : Bool) (s : Store) : dIsNot (.bl i) (.bl j) s = some (.bl (!decide (i = j)), s) := rfl
@[simp] theorem dIsNot_str_non (i : Str) (s : Store) : dIsNot (.str i) .non s = some (.bl true, s) := rfl
@[simp] theorem dIsNot_tup_non (i : List D) (s : Store) : dIsNot (.tup i) .non s = some (.bl true, s) := rfl
@[simp] theorem dInt_int (i : Int) (s : Store) : dInt [.int i] s = some (.int i, s) := rfl
@[simp] theorem dInt_bl (i : Bool) (s : Store) : dInt [.bl i] s = some (.int (if i then 1 else 0), s) := rfl
theorem dMax2_int (i j : Int) (s : Store) : dMax2 [.int i, .int j] s = some (.int (if j > i then j else i), s) := rfl
theorem dMin2_int (i j : Int) (s : Store) : dMin2 [.int i, .int j] s = some (.int (if j < i then j else i), s) := rfl
theorem max_if (i j : Int) : (if j > i then j else i) = max i j := by
  rw [Int.max_def]; split <;> split <;> omega
theorem min_if (i j : Int) : (if j < i then j else i) = min i j := by
  rw [Int.min_def]; split <;> split <;> omega
@[simp] theorem dMax2_max (i j : Int) (s : Store) : dMax2 [.int i, .int j] s = some (.int (max i j), s) := by rw [dMax2_int, max_if]
@[simp] theorem dMin2_min (i j : Int) (s : Store) : dMin2 [.int i, .int j] s = some (.int (min i j), s) := by rw [dMin2_int, min_if]
@[simp] theorem lstOf_fl (s : Store) (xs : List D) : lstOf s (.fl xs) = some xs := rfl
theorem lstOf_loc {s : Store} {l : Nat} {xs : List D} (h : s[l]? = some (.lst xs)) : lstOf s (.loc l) = some xs := by simp [lstOf, h]
@[simp] theorem seqOf_tup (s : Store) (xs : List D) : seqOf s (.tup xs) = some xs := rfl
@[simp] theorem seqOf_fl (s : Store) (xs : List D) : seqOf s (.fl xs) = some xs := rfl
theorem seqOf_loc {s : Store} {l : Nat} {xs : List D} (h : s[l]? = some (.lst xs)) : seqOf s (.loc l) = some xs := by simp [seqOf, lstOf, h]
@[simp] theorem dLen_tup (s : Store) (xs : List D) : dLen [.tup xs] s = some (.int xs.length, s) := rfl
@[simp] theorem dLen_fl (s : Store) (xs : List D) : dLen [.fl xs] s = some (.int xs.length, s) := rfl
theorem dLen_loc {s : Store} {l : Nat} {xs : List D} (h : s[l]? = some (.lst xs)) : dLen [.loc l] s = some (.int xs.length, s) := by simp [dLen, seqOf, lstOf, h]
@[simp] theorem dTuple_tup (s : Store) (xs : List D) : dTuple [.tup xs] s = some (.tup xs, s) := rfl
theorem dTuple_loc {s : Store} {l : Nat} {xs : List D} (h : s[l]? = some (.lst xs)) : dTuple [.loc l] s = some (.tup xs, s) := by simp [dTuple, seqOf, lstOf, h]
theorem dSum_loc {s : Store} {l : Nat} {ns : List Int} (h : s[l]? = some (.lst (ns.map D.int))) : dSum [.loc l] s = some (.int ns.sum, s) := by simp [dSum, lstOf, h, intsOf_map]
theorem dIx_tup (s : Store) (xs : List D) (i : Int) : dIx (.tup xs) (.int i) s = (atI xs i).map fun d => (d, s) := rfl
theorem dIx_loc {s : Store} {l : Nat} {xs : List D} (h : s[l]? = some (.lst xs)) (i : Int) : dIx (.loc l) (.int i) s = (atI xs i).map fun d => (d, s) := by simp [dIx, seqOf, lstOf, h]
theorem atI_ofNat (xs : List D) (j : Nat) (d : D) (h : xs[j]? = some d) : atI xs (j : Int) = some d := atI_nat h
@[simp] theorem atI_zero (x : D) (xs : List D) : atI (x :: xs) 0 = some x := atI_nat (j := 0) rfl
@[simp] theorem atI_one (x y : D) (xs : List D) : atI (x :: y :: xs) 1 = some y := atI_nat (j := 1) rfl
@[simp] theorem atI_two (x y z : D) (xs : List D) : atI (x :: y :: z :: xs) 2 = some z := atI_nat (j := 2) rfl
@[simp] theorem atI_three (x y z w : D) (xs : List D) : atI (x :: y :: z :: w :: xs) 3 = some w := atI_nat (j := 3) rfl
theorem dAppend_loc {s : Store} {l : Nat} {xs : List D} (h : s[l]? = some (.lst xs)) (hz : xs.length ≤ 1000000) (y : D) : dAppend (.loc l) [y] s = some (.non, s.set l (.lst (xs ++ [y]))) := by
  have q := lt_line hz
  simp only [dAppend, h, q, if_true]
theorem dPop_loc {s : Store} {l : Nat} {xs : List D} {y : D} (h : s[l]? = some (.lst (xs ++ [y]))) : dPop (.loc l) [] s = some (y, s.set l (.lst xs)) := by simp [dPop, h]
theorem tyOk_list {s : Store} {l : Nat} {xs : List D} (h : s[l]? = some (.lst xs)) : tyOk "list" s (.loc l) = true := by simp [tyOk, h]
theorem pList_loc {s : Store} {l : Nat} {xs : List D} (h : s[l]? = some (.lst xs)) (j : Nat) (hj : j < xs.length) (z : D) : pList (.loc l) (.int j) z s = some (s.set l (.lst (xs.set j z))) := by
  have e : ixN xs.length (j : Int) = some j := by
    unfold ixN
    rw [if_pos (by omega), if_pos (by omega)]
    simp
  simp [pList, h, e]
theorem pList_zero {s : Store} {l : Nat} {x : D} {xs : List D} (h : s[l]? = some (.lst (x :: xs))) (z : D) : pList (.loc l) (.int 0) z s = some (s.set l (.lst (z :: xs))) :=
  pList_loc h 0 (by simp) z
@[simp] theorem fnM_eq (N n : Nat) (b : MS) (ds : List D) (s : Store) : fnM N n b ds s = match b (ds.map some ++ List.replicate (N - n) none) s with
  | .rt d s => .ok d s
  | .nx _ s => .ok .non s
  | .ex e _ s => .ex e s
  | _ => .no := rfl
/-! ### stores: what stays -/
/-- all places of s but p are as they were -/
def Kp (p : Nat) (s s' : Store) : Prop := s.length ≤ s'.length ∧ ∀ l, l < s.length → l ≠ p → s'[l]? = s[l]?
theorem Kp.refl (p : Nat) (s : Store) : Kp p s s := ⟨Nat.le_refl _, fun _ _ _ => rfl⟩
theorem Kp.trans {p : Nat} {s s1 s2 : Store} (a : Kp p s s1) (b : Kp p s1 s2) : Kp p s s2 :=
  ⟨Nat.le_trans a.1 b.1, fun l h n => (b.2 l (Nat.lt_of_lt_of_le h a.1) n).trans (a.2 l h n)⟩
theorem Kp.set (p : Nat) (s : Store) (c : Cell) : Kp p s (s.set p c) := ⟨by simp, fun l _ n => List.getElem?_set_ne (Ne.symm n)⟩
theorem Kp.app (p : Nat) (s r : Store) : Kp p s (s ++ r) := ⟨by simp, fun l h _ => List.getElem?_append_left h⟩
theorem Kp.get {p : Nat} {s s' : Store} (a : Kp p s s') {l : Nat} {c : Cell} (h : s[l]? = some c) (n : l ≠ p) : s'[l]? = some c := by
  rw [a.2 l (by
    rcases Nat.lt_or_ge l s.length with q | q
    · exact q
    · rw [List.getElem?_eq_none q] at h; cases h) n]
  exact h
theorem lt_of_get {s : Store} {l : Nat} {c : Cell} (h : s[l]? = some c) : l < s.length := by
  rcases Nat.lt_or_ge l s.length with q | q
  · exact q
  · rw [List.getElem?_eq_none q] at h; cases h
theorem get_new (s : Store) (c : Cell) : (s ++ [c])[s.length]? = some c := by simp
theorem get_set {s : Store} {l : Nat} {c c' : Cell} (h : s[l]? = some c) : (s.set l c')[l]? = some c' := List.getElem?_set_self (lt_of_get h)
/-! #### isinstance -/
@[simp] theorem kit_NoneType_int : kitB "NoneType" "int" = some false := by decide +kernel
@[simp] theorem kit_NoneType_bool : kitB "NoneType" "bool" = some false := by decide +kernel
@[simp] theorem kit_NoneType_str : kitB "NoneType" "str" = some false := by decide +kernel
@[simp] theorem kit_NoneType_tuple : kitB "NoneType" "tuple" = some false := by decide +kernel
@[simp] theorem kit_NoneType_list : kitB "NoneType" "list" = some false := by decide +kernel
@[simp] theorem kit_NoneType_dict : kitB "NoneType" "dict" = some false := by decide +kernel
@[simp] theorem kit_bool_int : kitB "bool" "int" = some true := by decide +kernel
@[simp] theorem kit_bool_bool : kitB "bool" "bool" = some true := by decide +kernel
@[simp] theorem kit_bool_str : kitB "bool" "str" = some false := by decide +kernel
@[simp] theorem kit_bool_tuple : kitB "bool" "tuple" = some false := by decide +kernel
@[simp] theorem kit_bool_list : kitB "bool" "list" = some false := by decide +kernel
@[simp] theorem kit_bool_dict : kitB "bool" "dict" = some false := by decide +kernel
@[simp] theorem kit_int_int : kitB "int" "int" = some true := by decide +kernel
@[simp] theorem kit_int_bool : kitB "int" "bool" = some false := by decide +kernel
@[simp] theorem kit_int_str : kitB "int" "str" = some false := by decide +kernel
@[simp] theorem kit_int_tuple : kitB "int" "tuple" = some false := by decide +kernel
@[simp] theorem kit_int_list : kitB "int" "list" = some false := by decide +kernel
@[simp] theorem kit_int_dict : kitB "int" "dict" = some false := by decide +kernel
@[simp] theorem kit_str_int : kitB "str" "int" = some false := by decide +kernel
@[simp] theorem kit_str_bool : kitB "str" "bool" = some false := by decide +kernel
@[simp] theorem kit_str_str : kitB "str" "str" = some true := by decide +kernel
@[simp] theorem kit_str_tuple : kitB "str" "tuple" = some false := by decide +kernel
@[simp] theorem kit_str_list : kitB "str" "list" = some false := by decide +kernel
@[simp] theorem kit_str_dict : kitB "str" "dict" = some false := by decide +kernel
@[simp] theorem kit_tuple_int : kitB "tuple" "int" = some false := by decide +kernel
@[simp] theorem kit_tuple_bool : kitB "tuple" "bool" = some false := by decide +kernel
@[simp] theorem kit_tuple_str : kitB "tuple" "str" = some false := by decide +kernel
@[simp] theorem kit_tuple_tuple : kitB "tuple" "tuple" = some true := by decide +kernel
@[simp] theorem kit_tuple_list : kitB "tuple" "list" = some false := by decide +kernel
@[simp] theorem kit_tuple_dict : kitB "tuple" "dict" = some false := by decide +kernel
@[simp] theorem kit_list_int : kitB "list" "int" = some false := by decide +kernel
@[simp] theorem kit_list_bool : kitB "list" "bool" = some false := by decide +kernel
@[simp] theorem kit_list_str : kitB "list" "str" = some false := by decide +kernel
@[simp] theorem kit_list_tuple : kitB "list" "tuple" = some false := by decide +kernel
@[simp] theorem kit_list_list : kitB "list" "list" = some true := by decide +kernel
@[simp] theorem kit_list_dict : kitB "list" "dict" = some false := by decide +kernel
@[simp] theorem kit_dict_int : kitB "dict" "int" = some false := by decide +kernel
@[simp] theorem kit_dict_bool : kitB "dict" "bool" = some false := by decide +kernel
@[simp] theorem kit_dict_str : kitB "dict" "str" = some false := by decide +kernel
@[simp] theorem kit_dict_tuple : kitB "dict" "tuple" = some false := by decide +kernel
@[simp] theorem kit_dict_list : kitB "dict" "list" = some false := by decide +kernel
@[simp] theorem kit_dict_dict : kitB "dict" "dict" = some true := by decide +kernel
@[simp] theorem dIsi_eq (T : String) (x : D) (s : Store) : dIsi T x s = (tyN s x).bind fun t => (kitB t T).map fun b => (.bl b, s) := rfl
@[simp] theorem tyN_non (s : Store) : tyN s .non = some "NoneType" := rfl
@[simp] theorem tyN_bl (s : Store) (b : Bool) : tyN s (.bl b) = some "bool" := rfl
@[simp] theorem tyN_int (s : Store) (b : Int) : tyN s (.int b) = some "int" := rfl
@[simp] theorem tyN_str (s : Store) (b : Str) : tyN s (.str b) = some "str" := rfl
@[simp] theorem tyN_tup (s : Store) (b : List D) : tyN s (.tup b) = some "tuple" := rfl
theorem tyN_lst {s : Store} {l : Nat} {xs : List D} (h : s[l]? = some (.lst xs)) : tyN s (.loc l) = some "list" := by simp [tyN, h]
/-! ### loops by what holds between the turns -/
/-- a call's end -/
def Rets {α : Type} (P : α → Store → Prop) : R α → Prop
  | .ok d s => P d s
  | _ => False
@[simp] theorem Rets_ok {α : Type} (P : α → Store → Prop) (d : α) (s : Store) : Rets P (.ok d s) = P d s := rfl
@[simp] theorem Rets_no {α : Type} (P : α → Store → Prop) : Rets P .no = False := rfl
@[simp] theorem Rets_ex {α : Type} (P : α → Store → Prop) (e : Ex) (s : Store) : Rets P (.ex e s) = False := rfl
theorem Rets.out {α : Type} {P : α → Store → Prop} {r : R α} (h : Rets P r) : ∃ d s, r = .ok d s ∧ P d s := by
  cases r with
  | ok d s => exact ⟨d, s, rfl, h⟩
  | ex e s => exact h.elim
  | no => exact h.elim
/-- what a turn's end asks: I of the next turn, Q of leaving -/
def Turns (I : Sl → Store → Prop) (Q : RS → Prop) : RS → Prop
  | .nx env s => I env s
  | .ct env s => I env s
  | .bk env s => Q (.nx env s)
  | .rt d s => Q (.rt d s)
  | .ex e env s => Q (.ex e env s)
  | .no => False
section
variable (I : Sl → Store → Prop) (Q : RS → Prop) (env : Sl) (s : Store)
@[simp] theorem Turns_nx : Turns I Q (.nx env s) = I env s := rfl
@[simp] theorem Turns_ct : Turns I Q (.ct env s) = I env s := rfl
@[simp] theorem Turns_bk : Turns I Q (.bk env s) = Q (.nx env s) := rfl
@[simp] theorem Turns_rt (d : D) : Turns I Q (.rt d s) = Q (.rt d s) := rfl
@[simp] theorem Turns_ex (e : Ex) : Turns I Q (.ex e env s) = Q (.ex e env s) := rfl
@[simp] theorem Turns_no : Turns I Q .no = False := rfl
end
/-- store the item, run the body -/
def turn (g : D → Sl → Option Sl) (b : MS) (x : D) : MS := fun env s => match g x env with
  | none => .no
  | some env1 => b env1 s
@[simp] theorem turn_gN (i : Nat) (b : MS) (x : D) (env : Sl) (s : Store) : turn (gN i) b x env s = b (env.set i (some x)) s := rfl
@[simp] theorem turn_gT (n : Nat) (r) (b : MS) (xs : List D) (env : Sl) (s : Store) : turn (gT n r) b (.tup xs) env s = match (if xs.length = n then r xs env else none) with
  | none => .no
  | some env1 => b env1 s := rfl
theorem forL_rule {gd : Store → Prop} {g : D → Sl → Option Sl} {b : MS} (I : List D → Sl → Store → Prop) (Q : RS → Prop) (hg : ∀ xs env s, I xs env s → gd s)
    (hs : ∀ x xs env s, I (x :: xs) env s → Turns (I xs) Q (turn g b x env s)) (he : ∀ env s, I [] env s → Q (.nx env s)) : ∀ {xs : List D} {env : Sl} {s : Store}, I xs env s → Q (forL gd g b xs env s) := by
  intro xs
  induction xs with
  | nil => intro env s h; rw [forL_nil env s gd (hg _ _ _ h)]; exact he env s h
  | cons x xs ih =>
    intro env s h
    rw [forL_cons env s gd (hg _ _ _ h)]
    have h1 := hs x xs env s h
    unfold turn at h1
    cases e1 : g x env with
    | none => rw [e1] at h1; exact h1.elim
    | some env1 =>
      rw [e1] at h1
      dsimp only at h1 ⊢
      cases q : b env1 s with
      | nx env2 s2 => rw [q] at h1; exact ih h1
      | ct env2 s2 => rw [q] at h1; exact ih h1
      | bk env2 s2 => rw [q] at h1; exact h1
      | rt d s2 => rw [q] at h1; exact h1
      | ex e env2 s2 => rw [q] at h1; exact h1
      | no => rw [q] at h1; exact h1.elim
/-- a loop that runs through -/
theorem forL_thru {gd : Store → Prop} {g : D → Sl → Option Sl} {b : MS} (I : List D → Sl → Store → Prop) (hg : ∀ xs env s, I xs env s → gd s)
    (hs : ∀ x xs env s, I (x :: xs) env s → Turns (I xs) (fun _ => False) (turn g b x env s)) {xs : List D} {env : Sl} {s : Store} (h : I xs env s) : ∃ env' s', forL gd g b xs env s = .nx env' s' ∧ I [] env' s' :=
  forL_rule I (fun r => ∃ env' s', r = .nx env' s' ∧ I [] env' s') hg (fun x xs env s h => by
    have z := hs x xs env s h
    cases q : turn g b x env s with
    | nx env2 s2 => rw [q] at z; exact z
    | ct env2 s2 => rw [q] at z; exact z
    | bk env2 s2 => rw [q] at z; exact z.elim
    | rt d s2 => rw [q] at z; exact z.elim
    | ex e env2 s2 => rw [q] at z; exact z.elim
    | no => rw [q] at z; exact z.elim) (fun env s h => ⟨env, s, rfl, h⟩) h
/-! a loop over range(n) -/
theorem rng_drop {n i : Nat} (h : i < n) : (rng n).drop i = .int ((0 : Int) + (i : Nat)) :: (rng n).drop (i + 1) := by
  have hl : i < (rng n).length := by simpa [rng] using h
  rw [List.drop_eq_getElem_cons hl]
  simp [rng]
theorem rng_lt {n i : Nat} {x : D} {xs : List D} (e : x :: xs = (rng n).drop i) : i < n ∧ x = .int (i : Nat) ∧ xs = (rng n).drop (i + 1) := by
  have hlt : i < n := by
    rcases Nat.lt_or_ge i n with w | w
    · exact w
    · rw [List.drop_eq_nil_of_le (by simpa [rng] using w)] at e; cases e
  rw [rng_drop hlt] at e
  obtain ⟨rfl, rfl⟩ := List.cons.inj e
  exact ⟨hlt, by rw [Int.zero_add], rfl⟩
theorem rng_end {n i : Nat} (hi : i ≤ n) (e : [] = (rng n).drop i) : i = n := by
  rcases Nat.lt_or_ge i n with w | w
  · rw [rng_drop w] at e; cases e
  · omega
theorem forL_range {gd : Store → Prop} {g : D → Sl → Option Sl} {b : MS} (n : Nat) (I : Nat → Sl → Store → Prop) (Q : RS → Prop) (hg : ∀ i env s, i ≤ n → I i env s → gd s)
    (hs : ∀ i env s, i < n → I i env s → Turns (I (i + 1)) Q (turn g b (.int (i : Nat)) env s)) (he : ∀ env s, I n env s → Q (.nx env s)) {env : Sl} {s : Store} (h : I 0 env s) : Q (forL gd g b (rng n) env s) := by
  refine forL_rule (fun xs env s => ∃ i, i ≤ n ∧ xs = (rng n).drop i ∧ I i env s) Q (fun xs env s ⟨i, hi, _, q⟩ => hg i env s hi q) (fun x xs env s ⟨i, hi, e, q⟩ => ?_) (fun env s ⟨i, hi, e, q⟩ => ?_) ⟨0, Nat.zero_le _, rfl, h⟩
  · obtain ⟨hlt, rfl, rfl⟩ := rng_lt e
    have t1 := hs i env s hlt q
    cases hb : turn g b (.int (i : Nat)) env s with
    | nx env2 s2 => rw [hb] at t1; exact ⟨i + 1, hlt, rfl, t1⟩
    | ct env2 s2 => rw [hb] at t1; exact ⟨i + 1, hlt, rfl, t1⟩
    | bk env2 s2 => rw [hb] at t1; exact t1
    | rt d s2 => rw [hb] at t1; exact t1
    | ex x env2 s2 => rw [hb] at t1; exact t1
    | no => rw [hb] at t1; exact t1
  · have hlt := rng_end hi e
    subst hlt
    exact he env s q
theorem forL_rangeT {gd : Store → Prop} {g : D → Sl → Option Sl} {b : MS} (n : Nat) (I : Nat → Sl → Store → Prop) (hg : ∀ i env s, i ≤ n → I i env s → gd s)
    (hs : ∀ i env s, i < n → I i env s → Turns (I (i + 1)) (fun _ => False) (turn g b (.int (i : Nat)) env s)) {env : Sl} {s : Store} (h : I 0 env s) : ∃ env' s', forL gd g b (rng n) env s = .nx env' s' ∧ I n env' s' :=
  forL_range n I (fun r => ∃ env' s', r = .nx env' s' ∧ I n env' s') hg (fun i env s hi h => by
    have z := hs i env s hi h
    cases q : turn g b (.int (i : Nat)) env s with
    | nx env2 s2 => rw [q] at z; exact z
    | ct env2 s2 => rw [q] at z; exact z
    | bk env2 s2 => rw [q] at z; exact z.elim
    | rt d s2 => rw [q] at z; exact z.elim
    | ex e env2 s2 => rw [q] at z; exact z.elim
    | no => rw [q] at z; exact z.elim) (fun env s h => ⟨env, s, rfl, h⟩) h
/-! comprehensions -/
/-- one item: kept with its value, or not -/
def pick (g : D → Sl → Option Sl) (t : ME Bool) (e : ME D) (x : D) (env : Sl) (s : Store) : R (Option D) := match g x env with
  | none => .no
  | some env1 => (t env1 s).bind fun b s => if b then (e env1 s).bind fun y s => .ok (some y) s else .ok none s
@[simp] theorem pick_gN (i : Nat) (t : ME Bool) (e : ME D) (x : D) (env : Sl) (s : Store) : pick (gN i) t e x env s = (t (env.set i (some x)) s).bind fun b s => if b then (e (env.set i (some x)) s).bind fun y s => .ok (some y) s else .ok none s := rfl
@[simp] theorem pick_gT (n : Nat) (r) (t : ME Bool) (e : ME D) (xs : List D) (env : Sl) (s : Store) : pick (gT n r) t e (.tup xs) env s = match (if xs.length = n then r xs env else none) with
  | none => .no
  | some env1 => (t env1 s).bind fun b s => if b then (e env1 s).bind fun y s => .ok (some y) s else .ok none s := rfl
/-- what an item's end asks of the list so far -/
def Kept (I : List D → Store → Prop) (acc : List D) : R (Option D) → Prop
  | .ok (some y) s => acc.length ≤ 1000000 ∧ I (acc ++ [y]) s
  | .ok none s => I acc s
  | _ => False
@[simp] theorem Kept_some (I : List D → Store → Prop) (acc : List D) (y : D) (s : Store) : Kept I acc (.ok (some y) s) = (acc.length ≤ 1000000 ∧ I (acc ++ [y]) s) := rfl
@[simp] theorem Kept_none (I : List D → Store → Prop) (acc : List D) (s : Store) : Kept I acc (.ok none s) = I acc s := rfl
@[simp] theorem Kept_no (I : List D → Store → Prop) (acc : List D) : Kept I acc .no = False := rfl
theorem lcL_thru {gd : Store → Prop} {g : D → Sl → Option Sl} {t : ME Bool} {e : ME D} {env : Sl} (I : List D → List D → Store → Prop) (hg : ∀ xs acc s, I xs acc s → gd s)
    (hs : ∀ x xs acc s, I (x :: xs) acc s → Kept (I xs) acc (pick g t e x env s)) :
    ∀ {xs acc : List D} {s : Store}, I xs acc s → ∃ acc' s', lcL gd g t e env xs acc s = .ok acc' s' ∧ I [] acc' s' := by
  intro xs
  induction xs with
  | nil => intro acc s h; exact ⟨acc, s, lcL_nil env s gd (hg _ _ _ h) g t e acc, h⟩
  | cons x xs ih =>
    intro acc s h
    rw [lcL_cons env s gd (hg _ _ _ h)]
    have h1 := hs x xs acc s h
    unfold pick at h1
    cases e1 : g x env with
    | none => rw [e1] at h1; exact h1.elim
    | some env1 =>
      rw [e1] at h1
      dsimp only at h1 ⊢
      cases e2 : t env1 s with
      | no => rw [e2] at h1; exact h1.elim
      | ex x s => rw [e2] at h1; exact h1.elim
      | ok k s1 =>
        rw [e2] at h1
        simp only [R.bind_ok] at h1
        cases k with
        | false => simpa using ih (by simpa using h1)
        | true =>
          simp only [if_true] at h1 ⊢
          cases e3 : e env1 s1 with
          | no => rw [e3] at h1; exact h1.elim
          | ex x s => rw [e3] at h1; exact h1.elim
          | ok y s2 =>
            rw [e3] at h1
            obtain ⟨hz, h3⟩ := (show acc.length ≤ 1000000 ∧ I xs (acc ++ [y]) s2 from h1)
            have z := lt_line hz
            simp only [z, if_true]
            exact ih h3
/-- a comprehension that leaves the store as it is -/
theorem lcL_fm {β : Type} {gd : Store → Prop} {g : D → Sl → Option Sl} {t : ME Bool} {e : ME D} {env : Sl} {s : Store} (hg : gd s) (h : β → D) (f : β → Option D) :
    ∀ (xs : List β) (acc : List D), (∀ x ∈ xs, pick g t e (h x) env s = .ok (f x) s) → acc.length + xs.length ≤ 1000000 → lcL gd g t e env (xs.map h) acc s = .ok (acc ++ xs.filterMap f) s := by
  intro xs
  induction xs with
  | nil => intro acc _ _; rw [List.map_nil, lcL_nil env s gd hg]; simp
  | cons x xs ih =>
    intro acc hp hz
    rw [List.length_cons] at hz
    rw [List.map_cons, lcL_cons env s gd hg]
    have h1 := hp x (by simp)
    unfold pick at h1
    cases e1 : g (h x) env with
    | none => rw [e1] at h1; cases h1
    | some env1 =>
      rw [e1] at h1
      dsimp only at h1 ⊢
      cases e2 : t env1 s with
      | no => rw [e2] at h1; cases h1
      | ex x s => rw [e2] at h1; cases h1
      | ok k s1 =>
        rw [e2] at h1
        simp only [R.bind_ok] at h1
        cases k with
        | false =>
          simp at h1
          obtain ⟨h2, rfl⟩ := h1
          simp only [Bool.false_eq_true, if_false]
          rw [ih acc (fun y hy => hp y (by simp [hy])) (by omega), List.filterMap_cons, ← h2]
        | true =>
          simp only [if_true] at h1 ⊢
          cases e3 : e env1 s1 with
          | no => rw [e3] at h1; cases h1
          | ex x s => rw [e3] at h1; cases h1
          | ok y s2 =>
            rw [e3] at h1
            simp at h1
            obtain ⟨h2, rfl⟩ := h1
            have z : acc.length < sizeLine := lt_line (by omega)
            simp only [z, if_true]
            rw [ih (acc ++ [y]) (fun y hy => hp y (by simp [hy])) (by simp; omega), List.filterMap_cons, ← h2]
            simp
theorem lcL_map {β : Type} {gd : Store → Prop} {g : D → Sl → Option Sl} {t : ME Bool} {e : ME D} {env : Sl} {s : Store} (hg : gd s) (h : β → D) (f : β → D) (xs : List β)
    (hp : ∀ x ∈ xs, pick g t e (h x) env s = .ok (some (f x)) s) (hz : xs.length ≤ 1000000) : lcL gd g t e env (xs.map h) [] s = .ok (xs.map f) s := by
  have w := lcL_fm hg h (fun x => some (f x)) xs [] hp (by simpa using hz)
  rw [w]
  simp
theorem lcL_range {gd : Store → Prop} {g : D → Sl → Option Sl} {t : ME Bool} {e : ME D} {env : Sl} (n : Nat) (I : Nat → List D → Store → Prop) (hg : ∀ i acc s, i ≤ n → I i acc s → gd s)
    (hs : ∀ i acc s, i < n → I i acc s → Kept (I (i + 1)) acc (pick g t e (.int (i : Nat)) env s)) {acc : List D} {s : Store}
    (h : I 0 acc s) : ∃ acc' s', lcL gd g t e env (rng n) acc s = .ok acc' s' ∧ I n acc' s' := by
  obtain ⟨acc', s', h1, i, hi, e, h2⟩ := lcL_thru (gd := gd) (g := g) (t := t) (e := e) (env := env) (fun xs acc s => ∃ i, i ≤ n ∧ xs = (rng n).drop i ∧ I i acc s) (fun xs acc s ⟨i, hi, _, q⟩ => hg i acc s hi q) (fun x xs acc s ⟨i, hi, e, q⟩ => by
    obtain ⟨hlt, rfl, rfl⟩ := rng_lt e
    have z := hs i acc s hlt q
    cases hp : pick g t _ (.int (i : Nat)) env s with
    | no => rw [hp] at z; exact z
    | ex x s => rw [hp] at z; exact z
    | ok o s2 =>
      rw [hp] at z
      cases o with
      | none => exact ⟨i + 1, hlt, rfl, z⟩
      | some y => exact ⟨z.1, i + 1, hlt, rfl, z.2⟩) (xs := rng n) ⟨0, Nat.zero_le _, rfl, h⟩
  have hlt := rng_end hi e
  subst hlt
  exact ⟨acc', s', h1, h2⟩
/-- all ints -/
def Ints (xs : List D) : Prop := ∃ ns : List Int, xs = ns.map D.int
theorem cut_ints {xs : List D} (h : Ints xs) (lo hi : Option Int) : Ints (Mi.cutD xs lo hi) := by
  obtain ⟨ns, rfl⟩ := h
  unfold Mi.cutD
  exact ⟨_, by rw [← List.map_drop, ← List.map_take]⟩
theorem cut_len (xs : List D) (lo hi : Option Int) : (Mi.cutD xs lo hi).length ≤ xs.length := by
  unfold Mi.cutD
  simp
  omega
end Mi
namespace Mi
open PySem PySem.W PySem.Spec PySem.Calls PyProof.Rows L2
section
variable {prog : Program} {w : World} {A : Around} {E : Value → Shared → Prop} {s : Shared}
/-- the items of a tuple, collected -/
theorem tup_coll {t : Addr} {us : List Value} {R : List Value → Shared → Prop} (ht : IsTup s.heap t us.toArray) (hz : us.length ≤ sizeLine)
    (q : R us { s with heap := (s.heap.push (seqObj "list" #[] 0)).update s.heap.objs.size (Obj.mapSeq (· ++ us.toArray)) }) : wpAny (model prog w) A (collect (.ref t)) R E s := by
  obtain ⟨o, ho, hc, n, hd⟩ := ht
  have ho1 : (s.heap.push (seqObj "list" #[] 0)).get? t = some o := Heap.get?_push_of_some _ ho
  have hn1 : (s.heap.push (seqObj "list" #[] 0)).get? s.heap.objs.size = some (seqObj "list" #[] 0) := Heap.get?_push_size _ rfl
  have hT : (Value.type "tuple" == Value.type "tuple") = true := by rfl
  unfold collect
  refine wpAny_bind (wpAny_runValue (codeAny_builtin entry_proto_collect' ?_))
  show wpAny _ _ (do again (.builtin "list.__iadd__" ⟨[← newList [], .ref t], []⟩)) _ _ s
  refine wpAny_bind (wpAny_newList (wpAny_pure ⟨Code.quiet_builtin _ (by decide +kernel), ?_⟩))
  refine codeAny_builtin entry_list_iadd' ?_
  show wpAny _ _ (Builtin.List.listExtendWith (.ref s.heap.objs.size) (.ref t) (.ref s.heap.objs.size)) _ _ { s with heap := s.heap.push (seqObj "list" #[] 0) }
  unfold Builtin.List.listExtendWith
  refine wpAny_bind (wpAny_typeOf (T := "tuple") ⟨o, ho1, hc⟩ ?_)
  rw [if_pos (by rw [hT]; simp)]
  refine wpAny_bind (listItems_at ho1 hd (wpAny_bind (listItems_at (xs := #[]) (n := 0) hn1 rfl ?_)))
  rw [if_neg (by simp)]
  refine wpAny_bind (listUpdate_at (xs := #[]) (n := 0) hn1 rfl ?_ (Nat.zero_le _) (by rw [Array.size_append]; simp; have := sizeLine_eq; omega))
  refine wpAny_pure ?_
  refine wpAny_bind (wpAny_load (get?_update_seq hn1 _) ?_)
  have e : (((#[] : Array Value) ++ us.toArray).toList) = us := by simp
  show wpAny _ _ (pure ((#[] : Array Value) ++ us.toArray).toList) R E _
  rw [e]
  exact wpAny_pure q
/-- sorted(a tuple), by what sorts the new list -/
theorem tup_sorted {κ : _} {t : Addr} {us : List Value} {R : Value → Shared → Prop} (ht : IsTup s.heap t us.toArray) (hz : us.length ≤ sizeLine)
    (S : SortsAt prog w A.in1.in1 { s with heap := sortingHeap (copyHeap s.heap us) (s.heap.objs.size + 1) us } κ us)
    (q : R (.ref (s.heap.objs.size + 1)) { s with heap := sortedAll s.heap us (sortVals κ false us us).toArray }) : wpAny (model prog w) A (call (.builtin "sorted") [.ref t]) R E s := by
  have hs : ((s.heap.push (seqObj "list" #[] 0)).update s.heap.objs.size (Obj.mapSeq (· ++ us.toArray))).objs.size = s.heap.objs.size + 1 := by rw [Heap.size_update, size_push']
  refine call_function_entry_kw kind_sorted plain_sorted entry_sorted (args_sorted1 _) ?_
  unfold Builtin.«sorted»
  refine wpAny_bind (m := checkCount "sorted" 1 1 _) (wpAny_pure (wpAny_bind (tup_coll ht hz (wpAny_bind (wpAny_newList ?_ hz)))))
  show wpAny _ _ _ _ _ { s with heap := copyHeap s.heap us }
  rw [hs]
  refine wpAny_bind (wpAny_holding (wpAny_call_entry_kw slot_list_sort ⟨_, copyHeap_at s.heap us, rfl⟩ entry_list_sort ?body (args_list_sort _)))
  case body =>
    have b := list_sort_vals (s := { s with heap := copyHeap s.heap us }) (A := A.in1.in1) (E := E) (P := fun f s' => f = .done (.ret .none) ∧ R (.ref (s.heap.objs.size + 1)) s') (copyHeap_at s.heap us) S hz ⟨rfl, q⟩
    refine wpAny_mono b (fun f s' hf => ?_) fun _ _ e => e
    obtain ⟨rfl, hq⟩ := hf
    exact ⟨_, rfl, wpAny_pure ⟨_, rfl, hq⟩⟩
end
/-! ### sorted as a call -/
noncomputable def pyD (d : D) : PyData := (py0 d).getD .none
def rSortB (K : PySem.W.Frag) : List V → Hp → VK → Prop := fun vs H Q => ∃ (a : Addr) (bs : List (D × V)), vs = [.ref a] ∧ (SqL K H a (bs.map Prod.snd) ∨ SqT K H a (bs.map Prod.snd)) ∧ (∀ b ∈ bs, Dp K H b.2 (pyD b.1)) ∧
  AllAlike (bs.map fun b => pyD b.1) ∧ Sortable (bs.map fun b => pyD b.1) ∧ (∀ b ∈ bs, (pyD b.1).depth ≤ 60) ∧ ∀ p, H p = none → Q (.ref p) (upd H p (.lst ((bs.mergeSort (dataLe false fun b => pyD b.1)).map Prod.snd)))
theorem each_vals : ∀ {bs : List (D × V)} {us : List Value}, Vals (bs.map Prod.snd) us → EachIs (fun u b => RelV b.2 u) us bs
  | [], _, .nil => .nil
  | _ :: bs, _, .cons r t => .cons r (each_vals (bs := bs) t)
theorem vals_each : ∀ {bs : List (D × V)} {us : List Value}, EachIs (fun u b => RelV b.2 u) us bs → Vals (bs.map Prod.snd) us
  | [], _, .nil => .nil
  | _ :: bs, _, .cons r t => .cons r (vals_each (bs := bs) t)
theorem each_dp {X : Cx} {pins : List (Addr × Obj)} {σ : L2.St} {H : Hp} {s : Shared} (I : Inv X pins σ H s) : ∀ {bs : List (D × V)} {us : List Value}, (∀ b ∈ bs, Dp X.K H b.2 (pyD b.1)) → EachIs (fun u b => RelV b.2 u) us bs → EachIs (fun u b => ∃ as, Reads s.heap u (pyD b.1) as) us bs
  | [], _, _, .nil => .nil
  | b :: bs, _, h, .cons r t => .cons (Dp.reads I _ _ _ (h b (by simp)) r) (each_dp I (fun z hz => h z (by simp [hz])) t)
theorem cr_sortedB {X : Cx} (hu : X.A.units + 64 < cLine) : CallR X (.builtin "sorted") (rSortB X.K) := by
  intro pins s σ H vs us Q I r h
  obtain ⟨a, bs, rfl, hs, hd, hal, hk, hdep, q⟩ := h
  rw [Vals.ref1 r]
  have fin : ∀ (its out : List Value), its.length = bs.length → bs.length ≤ sizeLine → EachIs (fun u b => RelV b.2 u) out (bs.mergeSort (dataLe false fun b => pyD b.1)) → out.length = bs.length →
      ∃ v H', Inv X pins σ H' { s with heap := sortedAll s.heap its out.toArray } ∧ RelV v (Value.ref (s.heap.objs.size + 1)) ∧ Q v H' := fun its out h1 h2 h3 h4 => by
    obtain ⟨n, hn⟩ := sortedAll_at s.heap its out.toArray
    exact ⟨.ref _, upd H (s.heap.objs.size + 1) (.lst ((bs.mergeSort (dataLe false fun b => pyD b.1)).map Prod.snd)), I.laid (t' := s.toks) (fun _ _ => sortedAll_old) (Nat.le_succ _) ⟨by rw [List.length_map, List.length_mergeSort]; exact h2, out, n, vals_each h3, hn⟩, rfl, q _ (I.hok.fresh (Nat.le_succ _))⟩
  rcases hs with hs | hs
  · obtain ⟨its, rv, hl, hz⟩ := I.list hs
    have hL : bs.length ≤ sizeLine := by simpa using hz
    have e1 := each_vals rv
    refine sorted_data hl.isList e1 (each_dp I hd e1) hal hk hL (fun b hb => by have := hdep b hb; omega) fun out h1 h2 => ?_
    exact fin its out e1.length hL h2 h1
  · obtain ⟨its, rv, hl, hz⟩ := I.tuple hs
    have hL : bs.length ≤ sizeLine := by simpa using hz
    have e1 := each_vals rv
    have er := (each_dp I hd e1).mono fun _ _ ⟨as, z⟩ => (⟨as, PyProof.Rows.Reads.keeps (fun _ _ => sorting_copy_old) z⟩ : ∃ as, Reads (sortingHeap (copyHeap s.heap its) (s.heap.objs.size + 1) its) _ _ as)
    refine tup_sorted hl (by rw [e1.length]; exact hL) (SortsAt.data (A := X.A.in1.in1) (s := { s with heap := sortingHeap (copyHeap s.heap its) (s.heap.objs.size + 1) its }) (each_map (R := fun v d => ∃ as, Reads (sortingHeap (copyHeap s.heap its) (s.heap.objs.size + 1) its) v d as) (fun b : D × V => pyD b.1) er) hal hk (bound_map (enc := fun b : D × V => pyD b.1) (bs := bs) fun b hb => by have := hdep b hb; show X.A.units + 1 + 1 + (pyD b.1).depth < cLine; omega)) ?_
    exact fin its _ e1.length hL (sortVals_data false e1 er hal) (by rw [sortVals_length false rfl]; exact e1.length)
/-! ### its mirror -/
def sortOk (xs : List D) : Prop := (∀ d ∈ xs, (py0 d).isSome = true ∧ (pyD d).depth ≤ 60) ∧ AllAlike (xs.map pyD) ∧ Sortable (xs.map pyD)
noncomputable def sortD (xs : List D) : List D := xs.mergeSort (dataLe false pyD)
open Classical in
noncomputable def dSorted : List D → Store → Option (D × Store)
  | [x], s => (seqOf s x).bind fun xs => if sortOk xs then some (.loc s.length, s ++ [.lst (sortD xs)]) else none
  | _, _ => none
theorem zip_map1 {K : PySem.W.Frag} {m : List Addr} {H : Hp} : ∀ {xs : List D} {vs : List V}, Reps K m H xs vs → (xs.zip vs).map Prod.fst = xs ∧ (xs.zip vs).map Prod.snd = vs ∧ ∀ b ∈ xs.zip vs, Rep K m H b.1 b.2
  | [], _, .nil => ⟨rfl, rfl, fun _ h => by cases h⟩
  | x :: xs, _, .cons h r => by
    obtain ⟨a, b, c⟩ := zip_map1 r
    exact ⟨by simp [a], by simp [b], fun z hz => by
      rcases List.mem_cons.mp hz with e | e
      · rw [e]; exact h
      · exact c z e⟩
theorem reps_map {K : PySem.W.Frag} {m : List Addr} {H : Hp} : ∀ {bs : List (D × V)}, (∀ b ∈ bs, Rep K m H b.1 b.2) → Reps K m H (bs.map Prod.fst) (bs.map Prod.snd)
  | [], _ => .nil
  | b :: bs, h => .cons (h b (by simp)) (reps_map fun z hz => h z (by simp [hz]))
theorem fns_sorted {K : PySem.W.Frag} : FnS K (rSortB K) dSorted := by
  intro mg W σ m H s xs ds Q r p g
  unfold dSorted at g
  split at g
  · obtain ⟨v, rfl, h⟩ := reps1 p
    rename_i x
    cases q : seqOf s x with
    | none => rw [q] at g; exact g.elim
    | some ys =>
      rw [q] at g
      simp only [Option.bind_some] at g
      split at g
      · rename_i ok
        have g' : G K mg (Rep K) W σ m H Q (.ok (.loc s.length) (s ++ [.lst (sortD ys)])) := g
        obtain ⟨a, vs, rfl, hq, rr⟩ := seqOf_sq r h q
        obtain ⟨z1, z2, z3⟩ := zip_map1 rr
        have e1 : ((ys.zip vs).map fun b => pyD b.1) = ys.map pyD := by
          conv => rhs; rw [← z1, List.map_map]
          rfl
        have z4 : ∀ b ∈ ys.zip vs, b.1 ∈ ys := fun b hb => by
          have := List.mem_map.mpr ⟨b, hb, (rfl : b.1 = b.1)⟩
          rw [z1] at this
          exact this
        refine ⟨a, ys.zip vs, rfl, by rw [z2]; exact hq, fun b hb => ?_, by rw [e1]; exact ok.2.1, by rw [e1]; exact ok.2.2, fun b hb => (ok.1 _ (z4 b hb)).2, fun l hl => ?_⟩
        · obtain ⟨w1, _⟩ := ok.1 _ (z4 b hb)
          obtain ⟨pd, hp⟩ := Option.isSome_iff_exists.mp w1
          have := py0_dp (z3 b hb) hp
          unfold pyD
          rw [hp]
          exact this
        · have e2 : sortD ys = ((ys.zip vs).mergeSort (dataLe false fun b => pyD b.1)).map Prod.fst := by
            rw [List.map_mergeSort (r := dataLe false fun b : D × V => pyD b.1) (s := dataLe false pyD) (fun _ _ _ _ => rfl), z1]
            rfl
          rw [e2] at g'
          refine g' (m ++ [l]) _ _ (le_more r hl) (rel_newlist r hl (reps_map fun b hb => z3 b ?_)) (.loc (len_get r))
          exact (List.mergeSort_perm _ _).mem_iff.mp hb
      · exact g.elim
  · exact g.elim
end Mi
namespace HT
open PySem PySem.Spec PyProof.Rows
section
variable {prog : Program} {w : World} {A : Around} {E : Value → Shared → Prop} {s : Shared}
theorem rev_pick (xs : Array Value) : ((List.range xs.size).filterMap fun (m : Nat) => xs[((xs.size : Int) - 1 + (m : Int) * (-1)).toNat]?).toArray = xs.toList.reverse.toArray := by
  have q := PySem.W.krv_pick xs
  unfold slicePick at q
  rw [PySem.W.krv_bounds] at q
  have q' : ((sliceRange ((xs.size : Int) - 1) (-1) (-1)).filterMap (xs[·]?)).toArray = xs.toList.reverse.toArray := q
  rw [PySem.W.krv_sliceRange, List.filterMap_map] at q'
  rw [← q']
  refine congrArg List.toArray (congrArg (fun f => List.filterMap f (List.range xs.size)) (funext fun m => ?_))
  show xs[_]? = xs[_]?
  refine congrArg (fun i : Nat => xs[i]?) ?_
  show ((xs.size : Int) - 1 + (m : Int) * (-1)).toNat = xs.size - 1 - m
  omega
theorem sliced_back {sl : Addr} {vl vu vs : Value} {n : Nat} {R : Int × Int × Nat → Shared → Prop} (hs : s.heap.IsSliceOf sl vl vu vs) (pl : IsPart vl none) (pu : IsPart vu none) (ps : IsPart vs (some (-1)))
    (q : R ((n : Int) - 1, -1, n) s) : wpAny (model prog w) A (Builtin.Slice.sliceApplied (.ref sl) (pure (n : Int))) R E s := by
  obtain ⟨os, hos, hcs, hds⟩ := id hs
  have e : Builtin.Slice.slicePlaces ((n : Int) - 1) (-1) (-1) = n := by
    unfold Builtin.Slice.slicePlaces
    rw [if_neg (by omega)]
    by_cases c : (n : Int) - 1 > -1
    · rw [if_pos c]
      simp
    · rw [if_neg c]
      omega
  unfold Builtin.Slice.sliceApplied Builtin.Slice.sliceFields
  refine wpAny_bind (wpAny_bind (wpAny_field hos hds (x := vl) rfl (wpAny_bind (wpAny_field hos hds (x := vu) rfl (wpAny_bind (wpAny_field hos hds (x := vs) rfl (wpAny_pure ?_)))))))
  refine wpAny_bind (slicePart_ ps ?_)
  show wpAny _ _ (if ((-1 : Int) == 0) = true then _ else _) _ _ s
  rw [if_neg (by decide)]
  refine wpAny_bind (slicePart_ pl (wpAny_bind (slicePart_ pu (wpAny_bind (wpAny_pure ?_)))))
  show wpAny _ _ (pure ((n : Int) - 1, (-1 : Int), Builtin.Slice.slicePlaces ((n : Int) - 1) (-1) (-1))) _ _ s
  rw [e]
  exact wpAny_pure q
theorem tup_back {t sl : Addr} {items : Array Value} {vl vu vs : Value} {R : Value → Shared → Prop} (ht : IsTup s.heap t items) (hs : s.heap.IsSliceOf sl vl vu vs) (pl : IsPart vl none) (pu : IsPart vu none) (ps : IsPart vs (some (-1)))
    (hz : items.size ≤ sizeLine) (h : R (.ref s.heap.objs.size) { s with heap := s.heap.push { cls := .type "tuple", data := .seq items.toList.reverse.toArray } }) : wpAny (model prog w) A (getItem (.ref t) (.ref sl)) R E s := by
  have room : sizeOk (.seq items.toList.reverse.toArray) := by
    show items.toList.reverse.toArray.size ≤ sizeLine
    rw [List.size_toArray, List.length_reverse]
    exact hz
  obtain ⟨os, hos, hcs, hds⟩ := id hs
  have hT : s.TypeIs (.ref sl) "slice" := ⟨os, hos, hcs⟩
  unfold getItem
  try with_reducible refine wpAny_holding ?_
  first | refine wpAny_bind (wpAny_pure ?_) | skip
  refine wpAny_bind (wpAny_sequenceKey ht.typeIs (by decide) ?_)
  refine wpAny_bind (wpAny_callSpecial?_slot (name := Str.ofString "__getitem__") ht.typeIs PyProof.Rows.slot_tuple_getitem (wpAny_call_entry PyProof.Rows.slot_tuple_getitem ht.typeIs entry_tuple_getitem ?_ (args_tuple_getitem _ _)))
  show wpAny _ _ (Builtin.Tuple.tupleItemsOf (.ref t) >>= _) _ _ s
  refine wpAny_bind (tupleItemsOf_ ht (wpAny_bind (wpAny_typeOf hT ?_)))
  rw [if_pos (by decide)]
  refine wpAny_bind (sliced_back hs pl pu ps ?_)
  show wpAny _ _ (if ((((items.size : Int) - 1) == 0 && (-1 : Int) == 1 && items.size == items.size) = true) then _ else _) _ _ s
  rw [if_neg (by simp), rev_pick]
  first
    | exact wpAny_bind (m := Builtin.Tuple.tupleExact _) (wpAny_newObj_type (wpAny_pure ⟨_, rfl, wpAny_pure h⟩) room)
    | exact wpAny_bind (m := Builtin.Tuple.tupleExact _) (wpAny_newObj_type (wpAny_bind (wpAny_pure (wpAny_pure ⟨_, rfl, wpAny_pure h⟩))) room)
    | exact wpAny_bind (wpAny_bind (m := Builtin.Tuple.tupleExact _) (wpAny_newObj_type (wpAny_pure (wpAny_pure ⟨_, rfl, wpAny_pure h⟩)) room))
    | exact wpAny_bind (wpAny_bind (m := Builtin.Tuple.tupleExact _) (wpAny_newObj_type (wpAny_pure ⟨_, rfl, wpAny_pure h⟩) room))
end
end HT
namespace Mi
open PySem PySem.Spec PyProof.Rows L2
/-- a[::-1], a list or a tuple -/
def tBack (K : PySem.W.Frag) (te : TE) : TE := fun σ H Q => te σ H fun x H1 => ∃ a xs, x = .ref a ∧ ((SqL K H1 a xs ∧ ∀ p, H1 p = none → Q (.ref p) (upd H1 p (.lst xs.reverse))) ∨ (SqT K H1 a xs ∧ ∀ p, H1 p = none → Q (.ref p) (upd H1 p (.tup xs.reverse))))
theorem pe_back {X : Cx} {e : Expr} {te : TE} {k : Nat} {p1 p2 p3 pos : Pos} (he : PE X e te) : PE X (.Subscript e (.Slice none none (some (.UnaryOp .USub (.Constant (.int 1) k p1) p2)) p3) pos) (tBack X.K te) := by
  refine ⟨fun pins s σ H Q I h => Subscript_ (thn (he.run pins s σ H _ I h) fun v s1 ⟨x, H1, I1, r1, a, xs, ex, q⟩ => ?_)⟩
  subst ex
  cases r1
  have step : PO X (some (.UnaryOp .USub (.Constant (.int 1) k p1) p2)) (tPart (tUn (rU fun i => .int (-i)) (tC (.int 1)))) := po_some (pe_un un_neg pe_int)
  refine wpAny_Slice (thn (po_none.run pins s1 σ H1 (fun o H2 => o = none ∧ H2 = H1) I1 ⟨rfl, rfl⟩) fun vl s2 ⟨l, H2, I2, pl, el, e2⟩ => ?_)
  cases el
  cases e2
  refine thn (po_none.run pins s2 σ H1 (fun o H3 => o = none ∧ H3 = H1) I2 ⟨rfl, rfl⟩) fun vu s3 ⟨u, H3, I3, pu, eu, e3⟩ => ?_
  cases eu
  cases e3
  refine thn (step.run pins s3 σ H1 (fun o H4 => o = some (-1) ∧ H4 = H1) I3 ⟨1, rfl, -1, rfl, rfl, rfl⟩) fun vs s4 ⟨o, H4, I4, ps, eo, e4⟩ => ?_
  cases eo
  cases e4
  have I5 : Inv X pins σ H1 { s4 with heap := s4.heap.push { cls := .type "slice", data := .fields #[vl, vu, vs] } } := I4.kept (t' := s4.toks) fun b ob q => Heap.get?_push_of_some _ q
  show wpAny (model X.prog X.w) X.A (subscriptTail e (.Slice none none (some (.UnaryOp .USub (.Constant (.int 1) k p1) p2)) p3) (.ref a) (.ref s4.heap.objs.size)) (EP X pins σ Q) X.xe { s4 with heap := s4.heap.push { cls := .type "slice", data := .fields #[vl, vu, vs] } }
  rcases q with ⟨hx, q⟩ | ⟨hx, q⟩
  · obtain ⟨its, r, ht, hz⟩ := I5.list hx
    have hlen := r.length
    refine tail_any (ops := [.ref a, .ref s4.heap.objs.size]) ht.isList.typeIs (PySem.slot_list_getitem.lookup) ?_ (by with_unfolding_all rfl)
    refine wpAny_getItem_list_slice ht.isList (Heap.IsSliceOf.new _ vl vu vs) pl pu ps (by decide) ?_ (by rw [List.size_toArray]; omega)
    rw [PySem.W.krv_pick]
    refine ⟨.ref _, _, I5.laid (t' := s4.toks) (o := .lst xs.reverse) (fun b ob q => Heap.get?_push_of_some _ q) (Nat.le_refl _) ?_, rfl, q _ (I5.hok.fresh (Nat.le_refl _))⟩
    exact ⟨by rw [List.length_reverse]; exact hz, _, 0, r.reverse, Heap.get?_push_size _ rfl⟩
  · obtain ⟨its, r, ht, hz⟩ := I5.tuple hx
    have hlen := r.length
    refine tail_any (ops := [.ref a, .ref s4.heap.objs.size]) ht.typeIs (PyProof.Rows.slot_tuple_getitem.lookup) ?_ (by with_unfolding_all rfl)
    refine HT.tup_back ht (Heap.IsSliceOf.new _ vl vu vs) pl pu ps (by rw [List.size_toArray]; omega) ?_
    refine ⟨.ref _, _, I5.laid (t' := s4.toks) (o := .tup xs.reverse) (fun b ob q => Heap.get?_push_of_some _ q) (Nat.le_refl _) ?_, rfl, q _ (I5.hok.fresh (Nat.le_refl _))⟩
    exact ⟨by rw [List.length_reverse]; exact hz, _, r.reverse, IsTup.new _ _⟩
def dRev (x : D) (s : Store) : Option (D × Store) := match x with
  | .tup xs => some (.tup xs.reverse, s)
  | x => (lstOf s x).map fun xs => (.loc s.length, s ++ [.lst xs.reverse])
theorem Reps.rev {K : PySem.W.Frag} {m : List Addr} {H : Hp} {xs : List D} {vs : List V} (h : Reps K m H xs vs) : Reps K m H xs.reverse vs.reverse := by
  obtain ⟨a, b, c⟩ := zip_map1 h
  have q := reps_map (bs := (xs.zip vs).reverse) fun z hz => c z (List.mem_reverse.mp hz)
  rw [List.map_reverse, List.map_reverse, a, b] at q
  exact q
section
variable {X : Cx} {W : WX} {pos p1 p2 p3 : Pos} {k : Nat} {a : Expr} {fa : ME D}
theorem ce_back (ha : PE X a (Te X.K X.mg W fa)) : PE X (.Subscript a (.Slice none none (some (.UnaryOp .USub (.Constant (.int 1) k p1) p2)) p3) pos) (Te X.K X.mg W (e1 dRev fa)) :=
  PE.imp (pe_back ha) fun σ H Q h => Tm.bind (k := fun env x s => R.of (dRev x s)) h fun m1 H1 env x v s1 r1 E1 p g1 => by
    have gen : (∀ ys, x ≠ .tup ys) → ∃ a xs, v = .ref a ∧ ((SqL X.K H1 a xs ∧ ∀ p, H1 p = none → Q (.ref p) (upd H1 p (.lst xs.reverse))) ∨ (SqT X.K H1 a xs ∧ ∀ p, H1 p = none → Q (.ref p) (upd H1 p (.tup xs.reverse)))) := by
      intro hn
      have e : dRev x s1 = (lstOf s1 x).map fun xs => (.loc s1.length, s1 ++ [.lst xs.reverse]) := by
        cases x <;> first | rfl | exact (hn _ rfl).elim
      rw [e] at g1
      cases q : lstOf s1 x with
      | none => rw [q] at g1; exact g1.elim
      | some xs =>
        rw [q] at g1
        have g2 : G X.K X.mg (Rep X.K) W σ m1 H1 Q (.ok (.loc s1.length) (s1 ++ [.lst xs.reverse])) := g1
        obtain ⟨a, vs, rfl, hq, rr⟩ := lstOf_sq r1 p q
        exact ⟨a, vs, rfl, .inl ⟨hq, fun l hl => g2 (m1 ++ [l]) _ _ (le_more r1 hl) (rel_newlist r1 hl rr.rev) (.loc (len_get r1))⟩⟩
    cases x with
    | tup xs =>
      obtain ⟨a, vs, rfl, hq, rr⟩ := p.sqT
      have g2 : G X.K X.mg (Rep X.K) W σ m1 H1 Q (.ok (.tup xs.reverse) s1) := g1
      exact ⟨a, vs, rfl, .inr ⟨hq, fun l hl => g2 m1 _ _ (le_new hl) (r1.tmp hl) (rep_newtup hl rr.rev)⟩⟩
    | _ => exact gen (fun _ h => nomatch h)
end
end Mi
namespace Mi
open PySem PySem.Spec PyProof.Rows L2
section
variable {K : PySem.W.Frag}
theorem reps3 {m : List Addr} {H : Hp} {d e f : D} {xs : List V} (p : Reps K m H [d, e, f] xs) : ∃ u v w, xs = [u, v, w] ∧ Rep K m H d u ∧ Rep K m H e v ∧ Rep K m H f w := by
  cases p with
  | cons h r =>
    obtain ⟨v, w, rfl, h2, h3⟩ := reps2 r
    exact ⟨_, v, w, rfl, h, h2, h3⟩
/-! #### min, max of three -/
def dMax3 : List D → Store → Option (D × Store)
  | [.int i, .int j, .int k], s => some (.int (max (max i j) k), s)
  | _, _ => none
def dMin3 : List D → Store → Option (D × Store)
  | [.int i, .int j, .int k], s => some (.int (min (min i j) k), s)
  | _, _ => none
theorem nu_lt (i j : Int) : nuLt (.int i) (.int j) = some (decide (i < j)) := rfl
theorem nu_max (i j : Int) : nuMax2 (.int i) (.int j) = some (.int (max i j)) := by
  show (nuLt (.int i) (.int j)).map _ = _
  rw [nu_lt, Option.map_some]
  by_cases c : i < j
  · simp [c, Int.max_def, Int.le_of_lt c]
  · simp [c, Int.max_def]
    omega
theorem nu_min (i j : Int) : nuMin2 (.int i) (.int j) = some (.int (min i j)) := by
  show (nuLt (.int j) (.int i)).map _ = _
  rw [nu_lt, Option.map_some]
  by_cases c : j < i
  · simp [c, Int.min_def]
    omega
  · simp [c, Int.min_def]
theorem fns_max3 : FnS K (rNuC3 nuMax3) dMax3 := by
  intro mg W σ m H s xs ds Q r p g
  unfold dMax3 at g
  split at g
  · obtain ⟨u, v, w, rfl, h, h2, h3⟩ := reps3 p
    cases h; cases h2; cases h3
    exact ⟨_, _, _, _, rfl, by rw [nuMax3, nu_max, Option.bind_some, nu_max], g.now r (.int _)⟩
  · exact g.elim
theorem fns_min3 : FnS K (rNuC3 nuMin3) dMin3 := by
  intro mg W σ m H s xs ds Q r p g
  unfold dMin3 at g
  split at g
  · obtain ⟨u, v, w, rfl, h, h2, h3⟩ := reps3 p
    cases h; cases h2; cases h3
    exact ⟨_, _, _, _, rfl, by rw [nuMin3, nu_min, Option.bind_some, nu_min], g.now r (.int _)⟩
  · exact g.elim
/-! #### min, max of a list of ints -/
def dMaxL : List D → Store → Option (D × Store)
  | [x], s => (lstOf s x).bind fun xs => (intsOf xs).bind fun ns => ns.max?.map fun z => (.int z, s)
  | _, _ => none
def dMinL : List D → Store → Option (D × Store)
  | [x], s => (lstOf s x).bind fun xs => (intsOf xs).bind fun ns => ns.min?.map fun z => (.int z, s)
  | _, _ => none
theorem fns_maxL : FnS K (rMax K) dMaxL := by
  intro mg W σ m H s xs ds Q r p g
  unfold dMaxL at g
  split at g
  · obtain ⟨v, rfl, h⟩ := reps1 p
    rename_i x
    cases q : lstOf s x with
    | none => rw [q] at g; exact g.elim
    | some ys =>
      rw [q, Option.bind_some] at g
      cases q2 : intsOf ys with
      | none => rw [q2] at g; exact g.elim
      | some ns =>
        rw [q2, Option.bind_some] at g
        cases q3 : ns.max? with
        | none => rw [q3] at g; exact g.elim
        | some z =>
          rw [q3] at g
          obtain ⟨a, vs, rfl, hq, rr⟩ := lstOf_sq r h q
          rw [of_intsOf q2] at rr
          have e := rr.ints
          subst e
          obtain ⟨z1, z2⟩ := List.max?_eq_some_iff.mp q3
          refine ⟨a, ns, rfl, hq, List.length_pos_iff_exists_mem.mpr ⟨z, z1⟩, fun y h1 h2 => ?_⟩
          have e : y = z := Int.le_antisymm (z2 y h1) (h2 z z1)
          rw [e]
          exact G.now (d := D.int z) g r (.int _)
  · exact g.elim
theorem fns_minL : FnS K (rMin K) dMinL := by
  intro mg W σ m H s xs ds Q r p g
  unfold dMinL at g
  split at g
  · obtain ⟨v, rfl, h⟩ := reps1 p
    rename_i x
    cases q : lstOf s x with
    | none => rw [q] at g; exact g.elim
    | some ys =>
      rw [q, Option.bind_some] at g
      cases q2 : intsOf ys with
      | none => rw [q2] at g; exact g.elim
      | some ns =>
        rw [q2, Option.bind_some] at g
        cases q3 : ns.min? with
        | none => rw [q3] at g; exact g.elim
        | some z =>
          rw [q3] at g
          obtain ⟨a, vs, rfl, hq, rr⟩ := lstOf_sq r h q
          rw [of_intsOf q2] at rr
          have e := rr.ints
          subst e
          obtain ⟨z1, z2⟩ := List.min?_eq_some_iff.mp q3
          refine ⟨a, ns, rfl, hq, List.length_pos_iff_exists_mem.mpr ⟨z, z1⟩, fun y h1 h2 => ?_⟩
          have e : y = z := Int.le_antisymm (h2 z z1) (z2 y h1)
          rw [e]
          exact G.now (d := D.int z) g r (.int _)
  · exact g.elim
end
end Mi
namespace Mi
open PySem PySem.Spec PyProof.Rows L2
/-! ### a while by an invariant and a measure -/
theorem whileN_more {c : ME Bool} {b : MS} : ∀ {n : Nat} {env : Sl} {s : Store}, whileN c b n env s ≠ .no → whileN c b (n + 1) env s = whileN c b n env s := by
  intro n
  induction n with
  | zero => intro env s h; exact (h rfl).elim
  | succ n ih =>
    intro env s h
    unfold whileN at h ⊢
    cases e : c env s with
    | no => rfl
    | ex x s1 => rfl
    | ok k s1 =>
      rw [e] at h
      cases k with
      | false => rfl
      | true =>
        simp only [R.then, if_true] at h ⊢
        cases e2 : b env s1 with
        | nx env2 s2 => rw [e2] at h; exact ih h
        | ct env2 s2 => rw [e2] at h; exact ih h
        | bk env2 s2 => rfl
        | rt d s2 => rfl
        | ex x env2 s2 => rfl
        | no => rfl
theorem whileN_add {c : ME Bool} {b : MS} {n : Nat} {env : Sl} {s : Store} (h : whileN c b n env s ≠ .no) : ∀ k, whileN c b (n + k) env s = whileN c b n env s
  | 0 => rfl
  | k + 1 => by
    have q := whileN_add h k
    rw [← q] at h
    rw [← Nat.add_assoc, whileN_more h, q]
theorem whileN_one {c : ME Bool} {b : MS} {n m : Nat} {env : Sl} {s : Store} (h : whileN c b n env s ≠ .no) (h2 : whileN c b m env s ≠ .no) : whileN c b n env s = whileN c b m env s := by
  rw [← whileN_add h m, ← whileN_add h2 n, Nat.add_comm]
theorem sWhile_of {c : ME Bool} {b : MS} {n : Nat} {env : Sl} {s : Store} (h : whileN c b n env s ≠ .no) : sWhile c b env s = whileN c b n env s := by
  have z : ∃ n, whileN c b n env s ≠ .no := ⟨n, h⟩
  unfold sWhile
  rw [dif_pos z]
  exact whileN_one (Classical.choose_spec z) h
/-- one turn's promise -/
theorem while_rule {c : ME Bool} {b : MS} (I : Nat → Sl → Store → Prop) (Q : RS → Prop) (no : ¬ Q .no)
    (hs : ∀ n env s, I n env s → (∃ s', c env s = .ok false s' ∧ Q (.nx env s')) ∨ (∃ s', c env s = .ok true s' ∧ Turns (fun env s => ∃ m, m < n ∧ I m env s) Q (b env s'))) {n : Nat} {env : Sl} {s : Store} (h : I n env s) : Q (sWhile c b env s) := by
  have key : ∀ n env s, I n env s → ∃ k, Q (whileN c b k env s) := by
    intro n
    induction n using Nat.strongRecOn with
    | ind n ih =>
      intro env s h
      rcases hs n env s h with ⟨s', e, q⟩ | ⟨s', e, q⟩
      · refine ⟨1, ?_⟩
        unfold whileN
        rw [e]
        exact q
      · cases e2 : b env s' with
        | nx env2 s2 =>
          rw [e2] at q
          obtain ⟨m, hm, hi⟩ := q
          obtain ⟨k, hk⟩ := ih m hm env2 s2 hi
          refine ⟨k + 1, ?_⟩
          unfold whileN
          simp only [e, R.then, if_true, e2]
          exact hk
        | ct env2 s2 =>
          rw [e2] at q
          obtain ⟨m, hm, hi⟩ := q
          obtain ⟨k, hk⟩ := ih m hm env2 s2 hi
          refine ⟨k + 1, ?_⟩
          unfold whileN
          simp only [e, R.then, if_true, e2]
          exact hk
        | bk env2 s2 =>
          rw [e2] at q
          refine ⟨1, ?_⟩
          unfold whileN
          simp only [e, R.then, if_true, e2]
          exact q
        | rt d s2 =>
          rw [e2] at q
          refine ⟨1, ?_⟩
          unfold whileN
          simp only [e, R.then, if_true, e2]
          exact q
        | ex x env2 s2 =>
          rw [e2] at q
          refine ⟨1, ?_⟩
          unfold whileN
          simp only [e, R.then, if_true, e2]
          exact q
        | no => rw [e2] at q; exact q.elim
  obtain ⟨k, hk⟩ := key n env s h
  have nn : whileN c b k env s ≠ .no := fun e => no (e ▸ hk)
  rw [sWhile_of nn]
  exact hk
/-! ### name op= e -/
@[simp] theorem sAug_eq (i : Nat) (g : D → D → Store → Option (D × Store)) (e : ME D) (env : Sl) (s : Store) : sAug i g e env s = match env[i]? with
  | some (some x) => (e env s).then env fun y s => match g x y s with
    | some (z, s') => .nx (env.set i (some z)) s'
    | none => .no
  | _ => .no := rfl
@[simp] theorem dAddI_int (i j : Int) (s : Store) : dAddI (.int i) (.int j) s = some (.int (i + j), s) := rfl
/-! ### a value's truth -/
open Classical in
noncomputable def dTru (s : Store) : D → Option Bool
  | .non => some false
  | .bl b => some b
  | .int i => some (i != 0)
  | .str y => if y.length ≤ sizeLine then some ((y.length : Int) != 0) else none
  | .tup xs => some (!xs.isEmpty)
  | .fl xs => some (!xs.isEmpty)
  | .loc l => match s[l]? with
    | some (.lst xs) => some (!xs.isEmpty)
    | some (.dic ks) => some (!ks.isEmpty)
    | _ => none
  | .exv _ _ _ _ => none
theorem reps_empty {K : PySem.W.Frag} {m : List Addr} {H : Hp} {xs : List D} {vs : List V} (h : Reps K m H xs vs) : xs.isEmpty = vs.isEmpty := by
  cases h <;> rfl
theorem repk_empty {K : PySem.W.Frag} {m : List Addr} {H : Hp} {xs : List (Key × D)} {vs : List (Key × V)} (h : RepK K m H xs vs) : xs.isEmpty = vs.isEmpty := by
  cases h <;> rfl
theorem dTru_ok {K : PySem.W.Frag} {m : List Addr} {H : Hp} {s : Store} (r : Rel K m H s) {d : D} {v : V} {k : Bool} (p : Rep K m H d v) (e : dTru s d = some k) : TruV K v H k := by
  cases p with
  | non => cases e; rfl
  | bl b => cases e; rfl
  | int i => cases e; rfl
  | str y =>
    by_cases hz : y.length ≤ sizeLine
    · simp only [dTru, if_pos hz] at e
      cases e
      exact ⟨hz, rfl⟩
    · simp only [dTru, if_neg hz] at e
      cases e
  | tup h q => have e' := Option.some.inj e; subst e'; exact .inr (.inl ⟨_, .inl (.inl h), by rw [reps_empty q]⟩)
  | fl h q => cases e; exact .inl ⟨_, h.sq, by rw [reps_empty q]⟩
  | @loc l a h =>
    unfold dTru at e
    cases q : s[l]? with
    | none => simp [q] at e
    | some c =>
      cases c with
      | lst xs =>
        simp only [q] at e
        cases e
        obtain ⟨vs, q1, p1⟩ := r.list h q
        exact .inl ⟨vs, .inl (.inl q1), by rw [reps_empty p1]⟩
      | dic ks =>
        simp only [q] at e
        cases e
        obtain ⟨ws, q1, p1⟩ := r.at_ l a _ h q
        exact .inr (.inr ⟨ws, q1, by rw [repk_empty p1]⟩)
      | dct _ => simp [q] at e
  | exv => cases e
noncomputable def tTru (a : ME D) : ME Bool := fun env s => (a env s).bind fun x s => match dTru s x with
  | some b => .ok b s
  | none => .no
section
variable {X : Cx} {W : WX} {a : Expr} {fa : ME D}
theorem ct_tru (ha : PE X a (Te X.K X.mg W fa)) (he : ∀ whole, isTrue a X.env whole = (do let v ← whole; standAt a.pos; holding [v] (truthy v)) := by intro _; rfl) : PT X a (Tt X.K X.mg W (tTru fa)) :=
  PT.imp (pt_truth ha he) fun σ H Q h => Tm.bind (k := fun _ x s => match dTru s x with | some b => R.ok b s | none => R.no) h fun m1 H1 env x v s1 r1 E1 p1 g1 => by
    cases q : dTru s1 x with
    | none => rw [q] at g1; exact g1.elim
    | some k => rw [q] at g1; exact ⟨k, dTru_ok r1 p1 q, g1.nowB r1⟩
end
@[simp] theorem tTru_eq (a : ME D) (env : Sl) (s : Store) : tTru a env s = (a env s).bind fun x s => match dTru s x with | some b => .ok b s | none => .no := rfl
@[simp] theorem dTru_bl (s : Store) (b : Bool) : dTru s (.bl b) = some b := rfl
@[simp] theorem dTru_non (s : Store) : dTru s .non = some false := rfl
@[simp] theorem dTru_tup (s : Store) (xs : List D) : dTru s (.tup xs) = some (!xs.isEmpty) := rfl
theorem dTru_loc {s : Store} {l : Nat} {xs : List D} (h : s[l]? = some (.lst xs)) : dTru s (.loc l) = some (!xs.isEmpty) := by simp [dTru, h]
/-! ### the last place -/
@[simp] theorem atI_neg1 (xs : List D) (y : D) : atI (xs ++ [y]) (-1) = some y := L2.atI_last xs y
theorem pList_last {s : Store} {l : Nat} {xs : List D} {y : D} (h : s[l]? = some (.lst (xs ++ [y]))) (z : D) : pList (.loc l) (.int (-1)) z s = some (s.set l (.lst (xs ++ [z]))) := by
  have e : ixN (xs ++ [y]).length (-1) = some xs.length := by
    unfold ixN
    simp
    omega
  have e' : ixN (xs.length + 1) (-1) = some xs.length := by simpa using e
  simp [pList, h]
  exact ⟨xs.length, e', by simp⟩
end Mi
namespace Mi
open PySem PySem.Spec PyProof.Rows L2
/-! ### raise C(e, ..), C with an __init__ that stores its parameters -/
def sRaise (c : Str) (ns : List Str) (a : ME (List D)) : MS := fun env s => (a env s).then env fun xs s => if xs.length = ns.length then .ex ⟨c, (ns.zip xs).reverse⟩ env s else .no
/-- what __init__(self, p) of one field leaves -/
def spI1 (C : Addr) (f : Str) : Sp := fun vs H Q _ => ∃ a y, vs = [.ref a, y] ∧ H a = some (exo a C none) ∧ ∀ dx, H dx = none → dx ≠ a → Q .non (upd (upd H dx (exd dx [(f, y)])) a (exo a C (some dx)))
def spI2 (C : Addr) (f g : Str) : Sp := fun vs H Q _ => ∃ a y z, vs = [.ref a, y, z] ∧ H a = some (exo a C none) ∧ ∀ dx, H dx = none → dx ≠ a → Q .non (upd (upd (upd H dx (exd dx [(f, y)])) a (exo a C (some dx))) dx (exd dx [(g, z), (f, y)]))
section
variable {P : Program} {w : World} {K : PySem.W.Frag} {mg : Str → Option Value} {base : Heap} {x qual : Str} {st : Stmt} {fi C : Addr} {fd : FuncData} {N ps : List Str} {f g : Str}
theorem okI1 (F : Fun K x qual st fi fd) (S : FnScope N ps (defScope st)) (hN : N.length = 2) (hn : ps.length = 2) (T : OexC K C) (no : PySem.W.findIn K (.ref C) f = some none)
    (hb : ∀ (cdv : Value) (A : Around) (outer : List Env) (s : Shared) (H : Hp) (E : XK), PSs (cxOf (L2.CX P w) P w K mg base N qual (defScope st) fi cdv A outer s H E) (defBody st) (tOst K f (tVar 0) (tVar 1))) : FnOk P w K mg base (L2.CX P w) 1 fi fd ps (spI1 C f) := by
  refine F.okX S (fun vs H Q E ⟨a, y, e, _⟩ => by rw [hn, e]; rfl) fun cdv A outer s H vs Q E hr ⟨a, y, e, ha, q⟩ => ⟨_, hb cdv A outer s H E, ?_⟩
  subst e
  match N, hN with
  | [n1, n2], _ => exact ⟨y, rfl, .ref a, rfl, a, C, rfl, T, no, .inl ⟨ha, fun dx h1 h2 => q dx h1 h2⟩⟩
theorem okI2 (F : Fun K x qual st fi fd) (S : FnScope N ps (defScope st)) (hN : N.length = 3) (hn : ps.length = 3) (T : OexC K C) (no : PySem.W.findIn K (.ref C) f = some none) (no2 : PySem.W.findIn K (.ref C) g = some none)
    (hb : ∀ (cdv : Value) (A : Around) (outer : List Env) (s : Shared) (H : Hp) (E : XK), PSs (cxOf (L2.CX P w) P w K mg base N qual (defScope st) fi cdv A outer s H E) (defBody st) (tSeq (tOst K f (tVar 0) (tVar 1)) (tOst K g (tVar 0) (tVar 2)))) : FnOk P w K mg base (L2.CX P w) 1 fi fd ps (spI2 C f g) := by
  refine F.okX S (fun vs H Q E ⟨a, y, z, e, _⟩ => by rw [hn, e]; rfl) fun cdv A outer s H vs Q E hr ⟨a, y, z, e, ha, q⟩ => ⟨_, hb cdv A outer s H E, ?_⟩
  subst e
  match N, hN with
  | [n1, n2, n3], _ =>
    refine ⟨y, rfl, .ref a, rfl, a, C, rfl, T, no, .inl ⟨ha, fun dx h1 h2 => ?_⟩⟩
    refine ⟨z, rfl, .ref a, rfl, a, C, rfl, T, no2, .inr ⟨dx, [(f, y)], upd_same, by rw [upd_ne h2]; exact upd_same, by simp, q dx h1 h2⟩⟩
theorem del_upd {H : Hp} {a d : Addr} {o1 o2 : HO} (ha : H a = none) (h : d ≠ a) (G : Hp) (hG : ∀ b, b ≠ a → b ≠ d → G b = H b) : upd (del G a) d o1 = upd H d o1 := by
  funext b
  by_cases e : b = d
  · rw [e, upd_same, upd_same]
  · rw [upd_ne e, upd_ne e]
    by_cases e2 : b = a
    · rw [e2, del_same, ha]
    · rw [del_ne e2, hG b e2 e]
end
section
variable {X : Cx} {W : WX} {c q : Str} {C fI : Addr} {fd : FuncData} {k : Nat} {f g x1 x2 x0 : Str} {p pos pos2 : Pos} {e e2 : Expr} {fs : ME (List D)}
theorem cs_raise1 (hc : X.calm = true) (tk : Takes X W) (gC : X.mg c = some (.ref C)) (T : OexC X.K C) (iC : PySem.W.findIn X.K (.ref C) "__init__" = some (some (.ref fI))) (tI : PySem.W.typeIn X.K (.ref fI) = some (.type "function"))
    (F : FnOk X.prog X.w X.K X.mg X.base (L2.CX X.prog X.w) 1 fI fd [x0, x1] (spI1 C f)) (hr : Room 2 X.A) (hb : Binds X.K fd [x0, x1] []) (hg : Gl X c) (ha : PA X [e] (Ta X.K X.mg W fs)) (hdb : (c == ("__debug__" : Str)) = false := by decide)
    (he : starEach [e] X.env = (false, eval e X.env) :: starEach [] X.env := by rfl) (hpl : (backTo pos (starEach [] X.env)).any (·.1) = false := by rfl) :
    PS X (.Raise (some (.Call (.Name c p) [e] [] pos)) none pos2) (Ts X.K X.mg W (sRaise c [f] fs)) :=
  PS.imp (ps_raise hc tk (pmk_oex (dvs := []) T iC tI F hr hb .nil (fun pins σ H s e s' I h => (cx_none h).elim) hg gC ha hdb he hpl)) fun Dn σ H h =>
    Ts.ofE (k := fun env (xs : List D) s => if xs.length = [f].length then RS.ex ⟨c, ([f].zip xs).reverse⟩ env s else .no) h fun m1 H1 env xs vs s1 r1 E1 p1 g1 => by
      split at g1
      · rename_i hl
        match xs, vs, p1, hl with
        | [x], [v], .cons pv .nil, _ =>
          refine ⟨by simp, fun a ha => ⟨a, v, rfl, upd_same, fun dx h1 h2 => ⟨rfl, dx, [(f, v)], upd_same, by rw [upd_ne h2]; exact upd_same, by rw [upd_ne h2] at h1; exact h1, ?_⟩⟩⟩
          have h1' : H1 dx = none := by rw [upd_ne h2] at h1; exact h1
          rw [del_upd (o2 := exo a C none) ha h2 _ fun b h3 h4 => by rw [upd_ne h3, upd_ne h4, upd_ne h3]]
          exact g1 m1 _ _ _ _ (le_new h1') (r1.tmp h1') (E1.mono (le_new h1')) ⟨gC, .inr ⟨dx, _, rfl, upd_same, r1.new_notin h1', .cons (pv.mono (le_new h1')) .nil⟩⟩
      · exact g1.elim
theorem cs_raise2 (hc : X.calm = true) (tk : Takes X W) (gC : X.mg c = some (.ref C)) (T : OexC X.K C) (iC : PySem.W.findIn X.K (.ref C) "__init__" = some (some (.ref fI))) (tI : PySem.W.typeIn X.K (.ref fI) = some (.type "function"))
    (F : FnOk X.prog X.w X.K X.mg X.base (L2.CX X.prog X.w) 1 fI fd [x0, x1, x2] (spI2 C f g)) (hr : Room 2 X.A) (hb : Binds X.K fd [x0, x1, x2] []) (hg : Gl X c) (ha : PA X [e, e2] (Ta X.K X.mg W fs)) (hdb : (c == ("__debug__" : Str)) = false := by decide)
    (he : starEach [e, e2] X.env = (false, eval e X.env) :: starEach [e2] X.env := by rfl) (hpl : (backTo pos (starEach [e2] X.env)).any (·.1) = false := by rfl) :
    PS X (.Raise (some (.Call (.Name c p) [e, e2] [] pos)) none pos2) (Ts X.K X.mg W (sRaise c [f, g] fs)) :=
  PS.imp (ps_raise hc tk (pmk_oex (dvs := []) T iC tI F hr hb .nil (fun pins σ H s e s' I h => (cx_none h).elim) hg gC ha hdb he hpl)) fun Dn σ H h =>
    Ts.ofE (k := fun env (xs : List D) s => if xs.length = [f, g].length then RS.ex ⟨c, ([f, g].zip xs).reverse⟩ env s else .no) h fun m1 H1 env xs vs s1 r1 E1 p1 g1 => by
      split at g1
      · rename_i hl
        match xs, vs, p1, hl with
        | [x, y], [v, z], .cons pv (.cons pz .nil), _ =>
          refine ⟨by simp, fun a ha => ⟨a, v, z, rfl, upd_same, fun dx h1 h2 => ⟨rfl, dx, [(g, z), (f, v)], by rw [upd_ne (Ne.symm h2)]; exact upd_same, upd_same, by rw [upd_ne h2] at h1; exact h1, ?_⟩⟩⟩
          have h1' : H1 dx = none := by rw [upd_ne h2] at h1; exact h1
          rw [del_upd (o2 := exo a C none) ha h2 _ fun b h3 h4 => by rw [upd_ne h4, upd_ne h3, upd_ne h4, upd_ne h3]]
          exact g1 m1 _ _ _ _ (le_new h1') (r1.tmp h1') (E1.mono (le_new h1')) ⟨gC, .inr ⟨dx, _, rfl, upd_same, r1.new_notin h1', .cons (pz.mono (le_new h1')) (.cons (pv.mono (le_new h1')) .nil)⟩⟩
      · exact g1.elim
end
/-! ### n.f of the exception that a suite holds -/
def eFld (g : Nat × Nat) (i : Nat) (f : Str) : ME D := fun env s => match env[i]? with
  | some (some (.exv a dd _ fs)) => if a = g.1 ∧ dd = g.2 then (match fs.lookup f with
    | some d => .ok d s
    | none => .no) else .no
  | _ => .no
theorem fld_lookup {K : PySem.W.Frag} {m : List Addr} {H : Hp} {f : Str} : ∀ {fs : List (Str × D)} {vfs : List (Str × V)} {d : D}, FldR K m H fs vfs → fs.lookup f = some d → ∃ v, vfs.lookup f = some v ∧ Rep K m H d v
  | _, _, _, .nil, e => by cases e
  | (h, x) :: fs, (_, v) :: vfs, d, .cons p r, e => by
    by_cases c : f = h
    · subst c
      simp [List.lookup] at e ⊢
      subst e
      exact p
    · have c' : (f == h) = false := by simpa using c
      simp only [List.lookup, c'] at e ⊢
      exact fld_lookup r e
section
variable {X : Cx} {W : WX} {a : Addr} {oe : Obj} {cls : Value} {d : Option Addr} {pn : List (Addr × Obj)} {pos p : Pos} {n f : Str} {i : Nat} {g : Nat × Nat}
theorem ce_fld (hX : ∃ C, cls = .ref C ∧ XfC X.K C ∧ PySem.W.findIn X.K (.ref C) f = some none) (hz : Zc cls d oe) (hf : ∃ vs, oe.data = .fields vs) (g1 : g.1 = a) (g2 : d = some g.2)
    (he : PE (X.suite a ((a, oe) :: pn)) (.Name n p) (tVar i)) (hb : attributeBase (.Name n p) f X.env (eval (.Name n p) X.env) = eval (.Name n p) X.env := by rfl) :
    PE (X.suite a ((a, oe) :: pn)) (.Attribute (.Name n p) f pos) (Te X.K X.mg W (eFld g i f)) := by
  obtain ⟨C, ec, T, hno⟩ := hX
  refine PE.imp (pe_xf T hno hz hf he hb) fun σ H Q ⟨m, env, s, r, E, q⟩ => ?_
  unfold eFld at q
  cases e1 : env[i]? with
  | none => rw [e1] at q; exact q.elim
  | some o =>
    cases o with
    | none => rw [e1] at q; exact q.elim
    | some x =>
      rw [e1] at q
      cases x with
      | exv a' dd c fs =>
        simp only at q
        split at q
        · rename_i hh
          obtain ⟨h1, h2⟩ := hh
          cases e2 : fs.lookup f with
          | none => rw [e2] at q; exact q.elim
          | some dv =>
            rw [e2] at q
            obtain ⟨v, hv, pr⟩ := E.2 i _ e1
            cases pr with
            | exv h n' rf =>
              obtain ⟨u, hu, pu⟩ := fld_lookup rf e2
              refine ⟨_, hv, by rw [h1, g1], ec, g.2, _, u, g2, by rw [← h2]; exact h, hu, ?_⟩
              exact G.now q r pu
        · exact q.elim
      | _ => exact q.elim
end
/-! ### try: body except x as n: suite -/
def clr (i : Nat) : RS → RS
  | .nx env s => .nx (env.set i none) s
  | .bk env s => .bk (env.set i none) s
  | .ct env s => .ct (env.set i none) s
  | .rt d s => .rt d s
  | .ex _ _ _ => .no
  | .no => .no
open Classical in
noncomputable def sTryAs (i : Nat) (cs : List Str) (body : MS) (suite : Nat × Nat → MS) : MS := fun env s => match body env s with
  | .ex e env2 s2 => if e.cls ∈ cs ∧ e.fs ≠ [] ∧ ∀ g : Nat × Nat, clr i (suite g (env2.set i (some (.exv g.1 g.2 e.cls e.fs))) s2) = clr i (suite (0, 0) (env2.set i (some (.exv 0 0 e.cls e.fs))) s2)
    then clr i (suite (0, 0) (env2.set i (some (.exv 0 0 e.cls e.fs))) s2) else .no
  | r => r
theorem relE_clr {K : PySem.W.Frag} {m : List Addr} {H : Hp} {env : Sl} {σ : L2.St} (E : RelE K m H env σ) (i : Nat) : RelE K m H (env.set i none) (σ.set i none) := by
  refine ⟨by simp [E.1], fun j d h => ?_⟩
  by_cases c : i = j
  · subst c
    rw [List.getElem?_set] at h
    by_cases q : i < env.length
    · rw [if_pos rfl, if_pos q] at h; cases h
    · rw [if_pos rfl, if_neg q] at h; cases h
  · rw [List.getElem?_set_ne c] at h ⊢
    exact E.2 j d h
theorem gs_clr {K : PySem.W.Frag} {mg : Str → Option Value} {W W2 : WX} {Dn : Ends} {m : List Addr} {H : Hp} {i : Nat} {r : RS} (h : GS K mg W Dn m H (clr i r)) :
    GS K mg W2 { nx := fun σ' H' => Dn.nx (σ'.set i none) H', rt := Dn.rt, bk := fun σ' H' => Dn.bk (σ'.set i none) H', ct := fun σ' H' => Dn.ct (σ'.set i none) H' } m H r := by
  cases r with
  | nx env s => exact fun m' σ' H' l r E => h m' _ H' l r (relE_clr E i)
  | bk env s => exact fun m' σ' H' l r E => h m' _ H' l r (relE_clr E i)
  | ct env s => exact fun m' σ' H' l r E => h m' _ H' l r (relE_clr E i)
  | rt d s => exact h
  | ex e env s => exact h.elim
  | no => exact h.elim
section
variable {X : Cx} {W : WX} {x n : Str} {c : Value} {i : Nat} {body suite : List Stmt} {b₀ : Stmt} {np pos pos' : Pos} {fb : MS} {fs : Nat × Nat → MS} {cs : List Str}
theorem cs_tryAs (hs : X.stack = X.env :: X.outer) (hf : X.env.frame = some X.env.locals) (hN : X.N.Nodup) (hi : X.N[i]? = some n) (hln : X.env.kindOf n = some .local) (hc : Names X x c) (tk : Takes X W)
    (hcs : ∀ k ∈ cs, ∀ cls, X.mg k = some cls → PySem.W.exmOne X.K cls c = some true)
    (hb : ∀ (W : WX) (pn : List (Addr × Obj)) (xe : Value → Shared → Prop), Takes (X.tr pn xe) W → PSs (X.tr pn xe) body (Ts X.K X.mg W fb))
    (hsu : ∀ (a : Addr) (oe : Obj) (cls : Value) (d : Option Addr) (pn : List (Addr × Obj)) (g : Nat × Nat) (k : Str), Zc cls d oe → (∃ vs, oe.data = .fields vs) → g.1 = a → d = some g.2 → k ∈ cs → X.mg k = some cls →
      PSs (X.suite a ((a, oe) :: pn)) (b₀ :: suite) (Ts X.K X.mg (fun _ _ _ _ => False) (fs g))) :
    PS X (.Try body [.ExceptHandler (some (.Name x np)) (some n) (b₀ :: suite) pos'] [] [] pos) (Ts X.K X.mg W (sTryAs i cs fb fs)) :=
  PS.imp (ps_try_as (i := i) (tb := fun W => Ts X.K X.mg W fb) (ts := fun a cls d => fun Dn σ H => ∃ (g : Nat × Nat) (k : Str), g.1 = a ∧ d = some g.2 ∧ k ∈ cs ∧ X.mg k = some cls ∧ Ts X.K X.mg (fun _ _ _ _ => False) (fs g) Dn σ H) (Wout := W) hs hf hN hi hln hc tk
    (fun W pn xe tk _ => hb W pn xe tk) (fun a oe cls d pn hz hf => ⟨fun pins s σ H Dn I ⟨g, k, h1, h2, h3, h4, h⟩ => (hsu a oe cls d pn g k hz hf h1 h2 h3 h4).run pins s σ H Dn I h⟩)) fun Dn σ H ⟨m, env, s, r, E, q⟩ => by
    refine ⟨m, env, s, r, E, ?_⟩
    unfold sTryAs at q
    cases e : fb env s with
    | ex ex env2 s2 =>
      rw [e] at q
      simp only at q
      split at q
      · rename_i hh
        obtain ⟨h1, h2, h3⟩ := hh
        intro m' σ' H' cv dd l r' E' xr
        obtain ⟨gk, hx⟩ := xr
        rcases hx with ⟨z, _⟩ | ⟨da, vfs, ed, hd, nd, rf⟩
        · exact (h2 z).elim
        · refine ⟨true, hcs _ h1 _ gk, fun _ a ha => ⟨(a, da), ex.cls, rfl, ed, h1, gk, m', _, s2, r', relE_set E' (.exv hd nd rf : Rep X.K m' H' (.exv a da ex.cls ex.fs) (.ref a)) i, ?_⟩, fun z => Bool.noConfusion z⟩
          rw [← h3 (a, da)] at q
          exact gs_clr (GS.mono l q)
      · exact q.elim
    | nx env2 s2 => rw [e] at q; exact q
    | rt d s2 => rw [e] at q; exact q
    | bk env2 s2 => rw [e] at q; exact q
    | ct env2 s2 => rw [e] at q; exact q
    | no => rw [e] at q; exact q.elim
end
/-! ### words for printed texts -/
def clsBody : Stmt → List Stmt
  | .ClassDef (body := b) .. => b
  | _ => []
section
variable {K : PySem.W.Frag} {mg : Str → Option Value} {c f k : Str} {C : Addr} {cls : Value}
theorem hcs1 (g : mg c = some (.ref C)) (te : PySem.W.exmOne K (.ref C) (.ref C) = some true) : ∀ k ∈ [c], ∀ cls, mg k = some cls → PySem.W.exmOne K cls (.ref C) = some true := fun k hk cls e => by
  rw [List.mem_singleton.mp hk, g] at e
  cases e
  exact te
theorem hxf1 (g : mg c = some (.ref C)) (xf : XfC K C) (no : PySem.W.findIn K (.ref C) f = some none) (h3 : k ∈ [c]) (h4 : mg k = some cls) : ∃ C, cls = .ref C ∧ XfC K C ∧ PySem.W.findIn K (.ref C) f = some none := by
  rw [List.mem_singleton.mp h3, g] at h4
  cases h4
  exact ⟨C, rfl, xf, no⟩
theorem exm_own (h1 : PySem.W.subIn K (.ref C) (.type "BaseException") = some true) (h2 : PySem.W.isClsIn K C = true) (h3 : PySem.W.typeIn K (.ref C) = some (.type "type")) (h4 : PySem.W.subIn K (.ref C) (.ref C) = some true) : PySem.W.exmOne K (.ref C) (.ref C) = some true := by
  have z1 : (PySem.W.subIn K (.ref C) (.type "BaseException") == some true) = true := by rw [h1] <;> rfl
  have z2 : (PySem.W.clsIn K C).isSome = true := h2
  have z3 : ((PySem.W.clsIn K C).isSome && PySem.W.typeIn K (.ref C) == some (.type "type")) = true := by rw [z2, h3] <;> rfl
  have q : (if (PySem.W.subIn K (.ref C) (.type "BaseException") == some true) = true then (if ((PySem.W.clsIn K C).isSome && PySem.W.typeIn K (.ref C) == some (.type "type")) = true then PySem.W.subIn K (.ref C) (.ref C) else none) else none) = some true := by
    rw [if_pos z1, if_pos z3, h4]
  exact q
end
end Mi
namespace Mi
open PySem PySem.Spec PyProof.Rows L2
/-! ### enumerate of a tuple -/
theorem enum_made {v : Value} {o : Obj} {Hh : Heap → Prop} (B : Begins v o Hh) :
    Meets (Builtin.«enumerate.__new__» ⟨[.type "enumerate", v], []⟩) (fun _ R s => Hh s.heap ∧
      R (.ok (.ret (.ref (s.heap.push o).objs.size))) { s with heap := (s.heap.push o).push { cls := .type "enumerate", data := .fields #[.none, .bool false, .ref s.heap.objs.size, rawInt 0, .none, .none] } }) :=
  .of_wp fun prog w A R s h => by
    obtain ⟨hp, g, d, tk, os⟩ := s
    obtain ⟨h1, h⟩ := h
    have hsub := sub_enumerate
    have it : ∀ {A' : Around} {E : Value → Shared → Prop} {Q : Value → Shared → Prop}, Q (.ref hp.objs.size) ⟨hp.push o, g, d, tk, os⟩ → wpAny (model prog w) A' (pyIter v) Q E ⟨hp, g, d, tk, os⟩ := fun q => B.iter prog w _ _ ⟨hp, g, d, tk, os⟩ _ h1 q
    wp_walk using it
    refine wpAny_stack_any fun st => wpAny_pure ?_
    split
    · rename_i c _ _ _ _ _
      cases (c == Value.type "enumerate")
      · wp_walk using it
        exact ⟨_, rfl, h⟩
      · wp_walk using it
        exact ⟨_, rfl, h⟩
    · wp_walk using it
      exact ⟨_, rfl, h⟩
section
variable {prog : Program} {w : World} {A : Around} {E : Value → Shared → Prop} {s : Shared}
theorem enum_call {v : Value} {o : Obj} {Hh : Heap → Prop} {R : Value → Shared → Prop} (B : Begins v o Hh) (h1 : Hh s.heap)
    (q : ∀ h', IsEnum h' (s.heap.objs.size + 1) s.heap.objs.size 0 .none → h'.get? s.heap.objs.size = some o → (∀ b o, s.heap.get? b = some o → h'.get? b = some o) → R (.ref (s.heap.objs.size + 1)) { s with heap := h' }) :
    wpAny (model prog w) A (call (.type "enumerate") [v]) R E s := by
  refine callType_new F.called_enumerate (by decide) (F.typeCall_enumerate_1 _) (F.newCall_enumerate_1 _) (fun obj => F.args_object_init_2 obj _) F.entry_enumerate_new (enum_made B) ⟨h1, ?_⟩
  have hz : (s.heap.push o).objs.size = s.heap.objs.size + 1 := Heap.size_push ..
  show _ ∧ _
  rw [hz]
  have he : IsEnum ((s.heap.push o).push { cls := .type "enumerate", data := .fields #[.none, .bool false, .ref s.heap.objs.size, rawInt 0, .none, .none] }) (s.heap.objs.size + 1) s.heap.objs.size 0 .none := by
    have := Heap.get?_push_size (s.heap.push o) (o := { cls := .type "enumerate", data := .fields #[.none, .bool false, .ref s.heap.objs.size, rawInt 0, .none, .none] }) rfl
    rw [hz] at this
    exact this
  exact ⟨⟨_, he, rfl⟩, q _ he (Heap.get?_push_of_some _ (Heap.get?_push_size _ B.free)) fun b o x => Heap.get?_push_of_some _ (Heap.get?_push_of_some _ x)⟩
end
def Itu (K : PySem.W.Frag) (a : Addr) : It :=
  ⟨fun i H => ∃ (xs : List V) (x : V), SqT K H a xs ∧ xs[i]? = some x, fun i H v H' => ∃ T x, v = .ref T ∧ H T = none ∧ H' = upd H T (.tup [.int (i : Nat), x]) ∧ ∀ xs, SqT K H a xs → xs[i]? = some x, fun i H => ∃ xs : List V, SqT K H a xs ∧ xs.length = i⟩
theorem turn_enumT {P : Program} {w : World} {K : PySem.W.Frag} {elts : List Expr} {kk : Nat} {tpos : Pos} (a e it : Addr) :
    Turn P w K (.Tuple elts kk tpos) (Itu K a) [e, it] e (fun i h => (∃ old, IsEnum h e it ((i : Nat) : Int) old) ∧ h.IsTupleIter it a i ∧ e ≠ it) where
  mem := by simp
  obj := fun i h st b hb => by
    obtain ⟨⟨old, he⟩, ⟨o, ho, hc, hd⟩, _⟩ := st
    rcases (by simpa using hb : b = e ∨ b = it) with z | z
    · rw [z]; exact ⟨_, he, fun v q => nomatch q⟩
    · rw [z]; exact ⟨o, ho, fun v q => by rw [hd] at q; cases q⟩
  keep := fun i h h' st k => let ⟨⟨old, he⟩, hi, hne⟩ := st; ⟨⟨old, k e (by simp) _ he⟩, hi.at fun o q => k it (by simp) o q, hne⟩
  item := by
    intro X hP hw hK hc i pins s σ H E I hf st hg
    subst hP hw hK
    obtain ⟨⟨old, he⟩, hit, hne⟩ := st
    obtain ⟨xs, x, hq, hx⟩ := hg
    obtain ⟨its, rv, p, hz⟩ := I.tuple hq
    obtain ⟨u, hu, ru⟩ := rv.get hx
    have hel : e < s.heap.objs.size := Heap.lt_size he
    have hil : it < s.heap.objs.size := by obtain ⟨_, q, _⟩ := hit; exact Heap.lt_size q
    have ait : a ≠ it := fun z => by
      obtain ⟨o1, q1, c1, _⟩ := p
      obtain ⟨o2, q2, c2, _⟩ := hit
      rw [z] at q1
      rw [q1] at q2
      cases q2
      rw [c1] at c2
      exact absurd (Value.type.inj c2) (by decide)
    have ea : e ≠ a := fun z => by
      obtain ⟨o1, q1, c1, _⟩ := p
      have he' := he
      unfold IsEnum at he'
      rw [z, q1] at he'
      cases he'
      exact absurd (Value.type.inj c1) (by decide)
    refine wpAny_pyNext_enum_itemD (Draws.tuple (A := X.A.in1) (I.ok.hd hc) it a ait its.toArray) he ⟨hit, p⟩ (by have := (List.getElem?_eq_some_iff.mp hu).1; simpa using this) hne (by simp [hne, ea]) fun x' h' tk hP ho hst' hT hsz hk => ?_
    have ex : x' = u := by
      have hP' : its.toArray[i]? = some x' := hP
      rw [List.getElem?_toArray, hu] at hP'
      cases hP'
      rfl
    subst ex
    refine ⟨_, rfl, wpAny_letOwnedTupleGo_enum (s := { s with heap := h', toks := tk + 1 }) ho fun h'' he' sb => ?_⟩
    have hT2 : h''.get? s.heap.objs.size = some { cls := .type "tuple", data := .seq #[.int i tk, x'] } := (sb.2 _ (Nat.ne_of_gt hel)).trans hT
    have new : ObjOk X.prog X.w (upd H s.heap.objs.size (.tup [.int (i : Nat), x])) h'' s.heap.objs.size (.tup [.int (i : Nat), x]) :=
      ⟨by show 2 ≤ sizeLine; decide, [.int i tk, x'], .cons ⟨_, rfl⟩ (.cons ru .nil), ⟨_, hT2, rfl, _, rfl⟩⟩
    have I1 : Inv X pins σ (upd H s.heap.objs.size (.tup [.int (i : Nat), x])) { s with heap := h'', toks := tk + 1 } :=
      I.turnedNew (ch := [e, it]) (fun b ob hb q => (sb.2 b (fun z => hb (by simp [z]))).trans (hk b ob (fun z => hb (by simp [z])) (fun z => hb (by simp [z])) q)) hf (Nat.le_refl _) new
    refine ⟨.ref s.heap.objs.size, _, I1, rfl, ⟨_, x, rfl, I.hok.fresh (Nat.le_refl _), rfl, fun ys hy => by rw [I.tuple_inj hy hq]; exact hx⟩, ⟨⟨x', ?_⟩, hst'.1.at fun o q => (sb.2 it (Ne.symm hne)).trans q, hne⟩, fun b hb => ?_⟩
    · have e1 : ((i + 1 : Nat) : Int) = (i : Int) + 1 := by omega
      rw [e1]; exact he'
    · have hb' : b < s.heap.objs.size := by
        rcases (by simpa using hb : b = e ∨ b = it) with z | z
        · rw [z]; exact hel
        · rw [z]; exact hil
      rw [upd_ne (Nat.ne_of_lt hb')]
      exact (hf b hb).1
  done := by
    intro X hP hw hK hc i pins s σ H E I hf st hg
    subst hP hw hK
    obtain ⟨⟨old, he⟩, hit, hne⟩ := st
    obtain ⟨xs, hq, hx⟩ := hg
    obtain ⟨its, rv, p, hz⟩ := I.tuple hq
    obtain ⟨f0, f1, f2, f3, f4, f5⟩ := hf it (by simp)
    have hl := rv.length
    have ait : a ≠ it := fun z => by
      obtain ⟨o1, q1, c1, _⟩ := p
      obtain ⟨o2, q2, c2, _⟩ := hit
      rw [z] at q1
      rw [q1] at q2
      cases q2
      rw [c1] at c2
      exact absurd (Value.type.inj c2) (by decide)
    have en : its.toArray.size = i := by rw [List.size_toArray]; omega
    exact wpAny_pyNext_enum_endD (Draws.tuple (A := X.A.in1) (I.ok.hd hc) it a ait its.toArray) he ⟨by rw [en]; exact hit, p⟩ fun h' eb => ⟨rfl, I.turned (t' := s.toks) (fun b o hb q => eb b o hb q) f0 f1 f3 f4 f5⟩
  self := fun A i s Q E st h => let ⟨⟨_, he⟩, _⟩ := st; wpAny_pyIter_enum he h
/-- enumerate(x), x a list or a tuple -/
def iEnumA (K : PySem.W.Frag) (ta : TA) : TI := fun σ H R => ta σ H fun vs H1 => ∃ a, vs = [.ref a] ∧ (((∃ xs, SqL K H1 a xs) ∧ R (Ite K a) H1) ∨ ((∃ xs, SqT K H1 a xs) ∧ R (Itu K a) H1))
theorem pi_enumA {X : Cx} {e : Expr} {ta : TA} {p pos tpos : Pos} {elts : List Expr} {kk : Nat} (hg : Gl X "enumerate") (hm : X.mg "enumerate" = none) (ha : PA X [e] ta) (hs : starEach [e] X.env = [(false, eval e X.env)] := by rfl) :
    PI X (.Tuple elts kk tpos) (.Call (.Name "enumerate" p) [e] [] pos) (iEnumA X.K ta) := by
  refine ⟨fun pins s σ H R I h => ?_⟩
  refine Call_ (ld_blt I hg hm boot_enumerate (PyProof.Rows.callWith_type1 (thn (ha.run pos pins s σ H _ I h) fun us s1 ⟨vs, H1, I1, r1, a, ex, q1⟩ => ?_) hs rfl))
  subst ex
  cases r1 with
  | cons r rr =>
    cases rr
    cases r
    have fp : ∀ b ∈ [s1.heap.objs.size + 1, s1.heap.objs.size], FpOk X pins H1 b := fun b hb => by
      have hle : s1.heap.objs.size ≤ b := by
        rcases (by simpa using hb : b = s1.heap.objs.size + 1 ∨ b = s1.heap.objs.size) with z | z
        · rw [z]; exact Nat.le_add_right _ _
        · rw [z]; exact Nat.le_refl _
      exact I1.fpOk hle (I1.hok.fresh hle)
    rcases q1 with ⟨⟨xs, hq⟩, q⟩ | ⟨⟨xs, hq⟩, q⟩
    · obtain ⟨its, rv, p', hz⟩ := I1.list hq
      refine call_enumerate_list p'.isList fun h' he hit hsz hk => wpAny_pyIter_enum he ?_
      exact ⟨s1.heap.objs.size + 1, [s1.heap.objs.size + 1, s1.heap.objs.size], _, _, H1, rfl, I1.kept (t' := s1.toks) hk, turn_enum a (s1.heap.objs.size + 1) s1.heap.objs.size, ⟨⟨.none, he⟩, hit, Nat.succ_ne_self _⟩, fp, q⟩
    · obtain ⟨its, rv, p', hz⟩ := I1.tuple hq
      refine enum_call (begins_tuple a its.toArray) p' fun h' he hit hk => wpAny_pyIter_enum he ?_
      exact ⟨s1.heap.objs.size + 1, [s1.heap.objs.size + 1, s1.heap.objs.size], _, _, H1, rfl, I1.kept (t' := s1.toks) hk, turn_enumT a (s1.heap.objs.size + 1) s1.heap.objs.size, ⟨⟨.none, he⟩, ⟨_, hit, rfl, rfl⟩, Nat.succ_ne_self _⟩, fp, q⟩
/-! ### its mirror -/
def enm (xs : List D) : List D := xs.mapIdx fun i x => .tup [.int (i : Nat), x]
theorem enm_len (xs : List D) : (enm xs).length = xs.length := by simp [enm]
theorem enm_get {xs : List D} {i : Nat} {d : D} (h : (enm xs)[i]? = some d) : ∃ x, xs[i]? = some x ∧ d = .tup [.int (i : Nat), x] := by
  unfold enm at h
  rw [List.getElem?_mapIdx] at h
  cases e : xs[i]? with
  | none => rw [e] at h; cases h
  | some x => rw [e] at h; cases h; exact ⟨x, rfl, rfl⟩
def iEnm (a : ME (List D)) : ME Itm := fun env s => (a env s).bind fun x s => match x with
  | [.tup xs] => .ok (Itm.mk (enm xs) always) s
  | [.fl xs] => .ok (Itm.mk (enm xs) always) s
  | [.loc l] => match s[l]? with
    | some (.lst xs) => .ok (Itm.mk (enm xs) (fun s2 => s2[l]? = some (.lst xs))) s
    | _ => .no
  | _ => .no
section
variable {K : PySem.W.Frag} {m : List Addr} {H : Hp}
theorem enm_turn {m2 : List Addr} {H2 H3 : Hp} {s2 : Store} {v : V} {i : Nat} {x : D} {xs : List D} {vs : List V} (r2 : Rel K m2 H2 s2) (h : Reps K m2 H2 xs vs) (e : xs[i]? = some x) {T : Addr} {y : V} (ev : v = .ref T) (hT : H2 T = none) (h3 : H3 = upd H2 T (.tup [.int (i : Nat), y])) (hy : vs[i]? = some y) :
    Le K m2 H2 m2 H3 ∧ Rel K m2 H3 s2 ∧ Rep K m2 H3 (.tup [.int (i : Nat), x]) v := by
  subst ev h3
  obtain ⟨w, hw, rw'⟩ := h.get e
  rw [hy] at hw
  cases hw
  exact ⟨le_new hT, r2.tmp hT, rep_newtup hT (.cons (.int _) (.cons rw' .nil))⟩
theorem itr_enumL {l : Nat} {xs : List D} {a : Addr} (h : m[l]? = some a) : ItR K m H ⟨enm xs, fun s2 => s2[l]? = some (.lst xs)⟩ (Ite K a) := fun m2 H2 s2 l2 r2 g => by
  have g' : s2[l]? = some (.lst xs) := g
  obtain ⟨vs, h1, h2⟩ := r2.list (l2.get h) g'
  have hq : SqL K H2 a vs := .inl (.inl h1)
  refine ⟨fun i d e => ?_, ⟨vs, hq, by rw [← h2.length]; exact Nat.le_of_eq (enm_len xs).symm⟩⟩
  obtain ⟨x, hx, rfl⟩ := enm_get e
  obtain ⟨v, hv, rv⟩ := h2.get hx
  refine ⟨⟨vs, v, hq, hv⟩, fun w H3 y => ?_⟩
  obtain ⟨T, z, ev, hT, h3, y⟩ := y
  exact enm_turn r2 h2 hx ev hT h3 (y vs hq)
theorem itr_enumF {xs : List D} {vs : List V} {a : Addr} (h : FrL K H a vs) (p : Reps K m H xs vs) : ItR K m H ⟨enm xs, always⟩ (Ite K a) := fun m2 H2 s2 l2 r2 g => by
  have hq : SqL K H2 a vs := (l2.frl a vs h).sq
  have h2 := p.monoW l2
  refine ⟨fun i d e => ?_, ⟨vs, hq, by rw [← h2.length]; exact Nat.le_of_eq (enm_len xs).symm⟩⟩
  obtain ⟨x, hx, rfl⟩ := enm_get e
  obtain ⟨v, hv, rv⟩ := h2.get hx
  refine ⟨⟨vs, v, hq, hv⟩, fun w H3 y => ?_⟩
  obtain ⟨T, z, ev, hT, h3, y⟩ := y
  exact enm_turn r2 h2 hx ev hT h3 (y vs hq)
theorem itr_enumT {xs : List D} {vs : List V} {a : Addr} (h : SqT K H a vs) (p : Reps K m H xs vs) : ItR K m H ⟨enm xs, always⟩ (Itu K a) := fun m2 H2 s2 l2 r2 g => by
  have hq : SqT K H2 a vs := l2.tup a vs h
  have h2 := p.monoW l2
  refine ⟨fun i d e => ?_, ⟨vs, hq, by rw [← h2.length]; exact (enm_len xs).symm⟩⟩
  obtain ⟨x, hx, rfl⟩ := enm_get e
  obtain ⟨v, hv, rv⟩ := h2.get hx
  refine ⟨⟨vs, v, hq, hv⟩, fun w H3 y => ?_⟩
  obtain ⟨T, z, ev, hT, h3, y⟩ := y
  exact enm_turn r2 h2 hx ev hT h3 (y vs hq)
end
section
variable {X : Cx} {W : WX} {e : Expr} {p pos tpos : Pos} {elts : List Expr} {kk : Nat} {fs : ME (List D)}
theorem ci_enum (hg : Gl X "enumerate") (hm : X.mg "enumerate" = none) (ha : PA X [e] (Ta X.K X.mg W fs)) (hs : starEach [e] X.env = [(false, eval e X.env)] := by rfl) :
    PI X (.Tuple elts kk tpos) (.Call (.Name "enumerate" p) [e] [] pos) (Ti X.K X.mg W (iEnm fs)) := PI.imp (pi_enumA hg hm ha hs) fun σ H Rw h =>
  Tm.bind (k := fun _ (x : List D) s => match x with
  | [.tup xs] => R.ok (Itm.mk (enm xs) always) s
  | [.fl xs] => R.ok (Itm.mk (enm xs) always) s
  | [.loc l] => match s[l]? with
    | some (.lst xs) => R.ok (Itm.mk (enm xs) (fun s2 => s2[l]? = some (.lst xs))) s
    | _ => R.no
  | _ => R.no) h fun m1 H1 env x vs s1 r1 E1 p1 g1 => by
    split at g1
    · obtain ⟨v, rfl, h1⟩ := reps1 p1
      obtain ⟨a, vs, rfl, hq, rr⟩ := h1.sqT
      exact ⟨a, rfl, .inr ⟨⟨vs, hq⟩, g1 m1 H1 _ .refl r1 (itr_enumT hq rr)⟩⟩
    · obtain ⟨v, rfl, h1⟩ := reps1 p1
      cases h1 with
      | fl hq rr => exact ⟨_, rfl, .inl ⟨⟨_, hq.sq⟩, g1 m1 H1 _ .refl r1 (itr_enumF hq rr)⟩⟩
    · obtain ⟨v, rfl, h1⟩ := reps1 p1
      cases h1 with
      | loc hl =>
        split at g1
        · rename_i q
          obtain ⟨vs, h1, h2⟩ := r1.list hl q
          exact ⟨_, rfl, .inl ⟨⟨vs, .inl (.inl h1)⟩, g1 m1 H1 _ .refl r1 (itr_enumL hl)⟩⟩
        · exact g1.elim
    · exact g1.elim
end
/-! ### all, any of a list of bools -/
def blsOf : List D → Option (List Bool)
  | [] => some []
  | .bl i :: r => (blsOf r).map fun x => i :: x
  | _ :: _ => none
theorem blsOf_map (bs : List Bool) : blsOf (bs.map D.bl) = some bs := by
  induction bs with
  | nil => rfl
  | cons n ns ih => simp [blsOf, ih]
theorem bls_reps {K : PySem.W.Frag} {m : List Addr} {H : Hp} : ∀ {ds : List D} {vs : List V} {bs : List Bool}, Reps K m H ds vs → blsOf ds = some bs → vs = bs.map V.bl
  | [], _, _, .nil, e => by cases e; rfl
  | d :: ds, _, bs, .cons p r, e => by
    cases d with
    | bl i =>
      unfold blsOf at e
      cases q : blsOf ds with
      | none => rw [q] at e; cases e
      | some x => rw [q] at e; cases e; cases p; rw [List.map_cons, bls_reps r q]
    | _ => cases e
def dAll : List D → Store → Option (D × Store)
  | [x], s => (lstOf s x).bind fun xs => (blsOf xs).map fun bs => (.bl (bs.all id), s)
  | _, _ => none
def dAny : List D → Store → Option (D × Store)
  | [x], s => (lstOf s x).bind fun xs => (blsOf xs).map fun bs => (.bl (bs.any id), s)
  | _, _ => none
section
variable {K : PySem.W.Frag}
theorem fns_all : FnS K (rAll K) dAll := by
  intro mg W σ m H s xs ds Q r p g
  unfold dAll at g
  split at g
  · obtain ⟨v, rfl, h⟩ := reps1 p
    rename_i x
    cases q : lstOf s x with
    | none => rw [q] at g; exact g.elim
    | some ys =>
      rw [q, Option.bind_some] at g
      cases q2 : blsOf ys with
      | none => rw [q2] at g; exact g.elim
      | some bs =>
        rw [q2] at g
        obtain ⟨a, vs, rfl, hq, rr⟩ := lstOf_sq r h q
        have e := bls_reps rr q2
        subst e
        exact ⟨a, bs, rfl, hq, G.now (d := D.bl (bs.all id)) g r (.bl _)⟩
  · exact g.elim
theorem fns_any : FnS K (rAny K) dAny := by
  intro mg W σ m H s xs ds Q r p g
  unfold dAny at g
  split at g
  · obtain ⟨v, rfl, h⟩ := reps1 p
    rename_i x
    cases q : lstOf s x with
    | none => rw [q] at g; exact g.elim
    | some ys =>
      rw [q, Option.bind_some] at g
      cases q2 : blsOf ys with
      | none => rw [q2] at g; exact g.elim
      | some bs =>
        rw [q2] at g
        obtain ⟨a, vs, rfl, hq, rr⟩ := lstOf_sq r h q
        have e := bls_reps rr q2
        subst e
        exact ⟨a, bs, rfl, hq, G.now (d := D.bl (bs.any id)) g r (.bl _)⟩
  · exact g.elim
end
end Mi
namespace Mi
open PySem PySem.Spec PyProof.Rows L2
/-! ### dicts with ints and texts as keys -/
def rIxDic : R2 := fun x y H Q => ∃ a v, x = .ref a ∧ DGet H a y (some v) ∧ Q v H
theorem ix_dic {X : Cx} (hu : X.A.units + 64 < cLine) : IxR X rIxDic := by
  intro value slice pins s σ H x y v u Q I rx ry h hs
  obtain ⟨a, z, rfl, g, q⟩ := h
  cases rx
  exact tail_any (ops := [.ref a, u]) (dict_typeIs I g) PySem.F.slot_dict_getitem.lookup (d_getItem (by omega) I g ry fun w' s' I' r' => ⟨z, H, I', r', q⟩) hs
theorem ix_any {X : Cx} (hu : X.A.units + 64 < cLine) : IxR X (fun x y H Q => rIx X.K x y H Q ∨ rIxDic x y H Q) := ix_seq.or (ix_dic hu)
def rSetDic : TSet := fun x y z H Q => ∃ a H', x = .ref a ∧ DPut H a y z H' ∧ Q H'
theorem set_dic {X : Cx} (hu : X.A.units + 64 < cLine) : PSet X rSetDic := by
  intro pins s σ H o i v ov iv u Q I ro ri rv h
  obtain ⟨a, H', rfl, g, q⟩ := h
  cases ro
  exact d_setItem (by omega) I g ri rv fun s' I' => ⟨H', I', q⟩
theorem pset_or {X : Cx} {t t' : TSet} (h : PSet X t) (h' : PSet X t') : PSet X (fun x y z H Q => t x y z H Q ∨ t' x y z H Q) := by
  intro pins s σ H o i v ov iv u Q I ro ri rv q
  rcases q with q | q
  · exact h pins s σ H o i v ov iv u Q I ro ri rv q
  · exact h' pins s σ H o i v ov iv u Q I ro ri rv q
theorem set_any {X : Cx} (hu : X.A.units + 64 < cLine) : PSet X (fun x y z H Q => rSetL x y z H Q ∨ rSetDic x y z H Q) := pset_or set_list (set_dic hu)
/-! ### mirrors -/
def keyOf : D → Option Key
  | .int i => some (.inl i)
  | .str z => some (.inr z)
  | _ => none
theorem keyOf_rep {K : PySem.W.Frag} {m : List Addr} {H : Hp} {d : D} {v : V} {k : Key} (p : Rep K m H d v) (e : keyOf d = some k) : v = kV k := by
  cases p <;> first | (cases e; done) | (cases e; rfl)
def getD {κ : Type} [DecidableEq κ] (ks : List (κ × D)) (k : κ) : Option D := (ks.find? fun kv => decide (kv.1 = k)).map (·.2)
def putD {κ : Type} [DecidableEq κ] (ks : List (κ × D)) (k : κ) (v : D) : List (κ × D) :=
  if (ks.any fun kv => decide (kv.1 = k)) = true then ks.map (fun kv => if kv.1 = k then (kv.1, v) else kv) else ks ++ [(k, v)]
def dicOf (s : Store) : D → Option (Nat × List (Key × D))
  | .loc l => match s[l]? with
    | some (.dic ks) => some (l, ks)
    | _ => none
  | _ => none
/-- keys that are tuples of ints and texts -/
def keysOf : List D → Option (List Key)
  | [] => some []
  | x :: xs => (keyOf x).bind fun k => (keysOf xs).map fun r => k :: r
def keyT : D → Option (List Key)
  | .tup xs => keysOf xs
  | _ => none
def dctOf (s : Store) : D → Option (Nat × List (List Key × D))
  | .loc l => match s[l]? with
    | some (.dct ks) => some (l, ks)
    | _ => none
  | _ => none
theorem keysOf_rep {K : PySem.W.Frag} {m : List Addr} {H : Hp} : ∀ {ds : List D} {vs : List V} {ks : List Key}, Reps K m H ds vs → keysOf ds = some ks → vs = ks.map kV
  | _, _, _, .nil, e => by cases e; rfl
  | x :: xs, _, ks, .cons p r, e => by
    unfold keysOf at e
    cases q : keyOf x with
    | none => rw [q] at e; cases e
    | some k =>
      rw [q, Option.bind_some] at e
      cases q2 : keysOf xs with
      | none => rw [q2] at e; cases e
      | some r2 =>
        rw [q2] at e
        cases e
        rw [keyOf_rep p q, keysOf_rep r q2]
        rfl
theorem keyT_rep {K : PySem.W.Frag} {m : List Addr} {H : Hp} {d : D} {v : V} {k : List Key} (p : Rep K m H d v) (e : keyT d = some k) : ∃ b, v = .ref b ∧ H b = some (.tup (k.map kV)) := by
  cases d with
  | tup xs =>
    obtain ⟨a, vs, rfl, h, r⟩ := p.trk
    rw [keysOf_rep r e] at h
    exact ⟨a, rfl, h⟩
  | _ => cases e
/-- x[i], x a dict or a sequence -/
def dIxA (x i : D) (s : Store) : Option (D × Store) := match dicOf s x with
  | some (_, ks) => (keyOf i).bind fun k => (getD ks k).map fun d => (d, s)
  | none => match dctOf s x with
    | some (_, ks) => (keyT i).bind fun k => (getD ks k).map fun d => (d, s)
    | none => dIx x i s
section
variable {K : PySem.W.Frag} {m : List Addr} {H : Hp} {s : Store}
section
variable {κ : Type} [DecidableEq κ]
theorem repk_get {k : κ} : ∀ {ks : List (κ × D)} {vs : List (κ × V)} {d : D}, RepK K m H ks vs → getD ks k = some d → ∃ v, valV vs k = some v ∧ Rep K m H d v
  | _, _, _, .nil, e => by cases e
  | (q, x) :: ks, (_, v) :: vs, d, .cons p r, e => by
    by_cases c : q = k
    · subst c
      refine ⟨v, valV_pos rfl, ?_⟩
      simp [getD, List.find?_cons] at e
      subst e
      exact p
    · rw [valV_neg c]
      refine repk_get r ?_
      simpa [getD, List.find?_cons, c] using e
theorem repk_any {k : κ} : ∀ {ks : List (κ × D)} {vs : List (κ × V)}, RepK K m H ks vs → (ks.any fun kv => decide (kv.1 = k)) = (vs.any fun kv => decide (kv.1 = k))
  | _, _, .nil => rfl
  | (q, x) :: ks, (_, v) :: vs, .cons p r => by simp [repk_any r]
theorem repk_map {k : κ} {y : D} {w : V} (p : Rep K m H y w) : ∀ {ks : List (κ × D)} {vs : List (κ × V)}, RepK K m H ks vs → RepK K m H (ks.map fun kv => if kv.1 = k then (kv.1, y) else kv) (vs.map fun kv => if kv.1 = k then (kv.1, w) else kv)
  | _, _, .nil => .nil
  | (q, x) :: ks, (_, v) :: vs, .cons h r => by
    by_cases c : q = k
    · simp only [List.map_cons, c, if_true]
      exact .cons p (repk_map p r)
    · simp only [List.map_cons, c, if_false]
      exact .cons h (repk_map p r)
theorem repk_app {ks : List (κ × D)} {vs : List (κ × V)} {k : κ} {y : D} {w : V} (h : RepK K m H ks vs) (p : Rep K m H y w) : RepK K m H (ks ++ [(k, y)]) (vs ++ [(k, w)]) := by
  induction ks generalizing vs with
  | nil => cases h; exact .cons p .nil
  | cons a ks ih => cases h with | cons q r => exact .cons q (ih r)
theorem repk_put {ks : List (κ × D)} {vs : List (κ × V)} {k : κ} {y : D} {w : V} (h : RepK K m H ks vs) (p : Rep K m H y w) : RepK K m H (putD ks k y) (putK vs k w) := by
  unfold putD putK
  rw [repk_any h]
  split
  · exact repk_map p h
  · exact repk_app h p
theorem repk_len : ∀ {ks : List (κ × D)} {vs : List (κ × V)}, RepK K m H ks vs → ks.length = vs.length
  | _, _, .nil => rfl
  | _, _, .cons _ r => by simp [repk_len r]
end
theorem dicOf_at (r : Rel K m H s) {d : D} {v : V} {l : Nat} {ks : List (Key × D)} (p : Rep K m H d v) (e : dicOf s d = some (l, ks)) : ∃ a vs, d = .loc l ∧ v = .ref a ∧ m[l]? = some a ∧ H a = some (.dK vs) ∧ RepK K m H ks vs := by
  cases p with
  | @loc l' a h =>
    unfold dicOf at e
    cases q : s[l']? with
    | none => simp [q] at e
    | some c =>
      cases c with
      | lst _ => simp [q] at e
      | dct _ => simp [q] at e
      | dic ks' =>
        simp only [q] at e
        cases e
        obtain ⟨ws, h1, h2⟩ := r.at_ _ a _ h q
        exact ⟨a, ws, rfl, rfl, h, h1, h2⟩
  | _ => cases e
theorem dctOf_at (r : Rel K m H s) {d : D} {v : V} {l : Nat} {ks : List (List Key × D)} (p : Rep K m H d v) (e : dctOf s d = some (l, ks)) : ∃ a vs, d = .loc l ∧ v = .ref a ∧ m[l]? = some a ∧ H a = some (.dT vs) ∧ RepK K m H ks vs := by
  cases p with
  | @loc l' a h =>
    unfold dctOf at e
    cases q : s[l']? with
    | none => simp [q] at e
    | some c =>
      cases c with
      | lst _ => simp [q] at e
      | dic _ => simp [q] at e
      | dct ks' =>
        simp only [q] at e
        cases e
        obtain ⟨ws, h1, h2⟩ := r.at_ _ a _ h q
        exact ⟨a, ws, rfl, rfl, h, h1, h2⟩
  | _ => cases e
theorem ops_ixA : OpS K (fun x y H Q => rIx K x y H Q ∨ rIxDic x y H Q) dIxA := by
  intro mg W σ m H s x y dx dy Q r px py g
  unfold dIxA at g
  cases e : dicOf s dx with
  | none =>
    rw [e] at g
    simp only at g
    cases e0 : dctOf s dx with
    | none => rw [e0] at g; exact .inl (ops_ix r px py g)
    | some o =>
      obtain ⟨l, ks⟩ := o
      rw [e0] at g
      simp only at g
      cases e1 : keyT dy with
      | none => rw [e1] at g; exact g.elim
      | some k =>
        rw [e1, Option.bind_some] at g
        cases e2 : getD ks k with
        | none => rw [e2] at g; exact g.elim
        | some d =>
          rw [e2] at g
          obtain ⟨a, vs, _, rfl, _, h1, h2⟩ := dctOf_at r px e0
          obtain ⟨v, hv, pv⟩ := repk_get h2 e2
          obtain ⟨b, rfl, hb⟩ := keyT_rep py e1
          exact .inr ⟨a, v, rfl, hv ▸ DGet.t h1 hb, G.now (d := d) g r pv⟩
  | some o =>
    obtain ⟨l, ks⟩ := o
    rw [e] at g
    simp only at g
    cases e1 : keyOf dy with
    | none => rw [e1] at g; exact g.elim
    | some k =>
      rw [e1, Option.bind_some] at g
      cases e2 : getD ks k with
      | none => rw [e2] at g; exact g.elim
      | some d =>
        rw [e2] at g
        obtain ⟨a, vs, _, rfl, _, h1, h2⟩ := dicOf_at r px e
        obtain ⟨v, hv, pv⟩ := repk_get h2 e2
        rw [keyOf_rep py e1]
        exact .inr ⟨a, v, rfl, hv ▸ DGet.k h1, G.now (d := d) g r pv⟩
open Classical in
/-- o[i] = e, o a dict or a list -/
noncomputable def pAny (x y z : D) (s : Store) : Option Store := match dicOf s x with
  | some (l, ks) => (keyOf y).bind fun k => if ks.length < sizeLine then some (s.set l (.dic (putD ks k z))) else none
  | none => match dctOf s x with
    | some (l, ks) => (keyT y).bind fun k => if ks.length < sizeLine then some (s.set l (.dct (putD ks k z))) else none
    | none => pList x y z s
theorem puts_any : PutS K (fun x y z H Q => rSetL x y z H Q ∨ rSetDic x y z H Q) pAny := by
  intro m H s s' x y z dx dy dz Q r px py pz e q
  unfold pAny at e
  cases e0 : dicOf s dx with
  | none =>
    rw [e0] at e
    simp only at e
    cases e3 : dctOf s dx with
    | none => rw [e3] at e; exact .inl (puts_list r px py pz e q)
    | some o =>
      obtain ⟨l, ks⟩ := o
      rw [e3] at e
      simp only at e
      cases e1 : keyT dy with
      | none => rw [e1] at e; cases e
      | some k =>
        rw [e1, Option.bind_some] at e
        split at e
        · rename_i hz
          cases e
          obtain ⟨a, vs, rfl, rfl, hl, h1, h2⟩ := dctOf_at r px e3
          obtain ⟨b, rfl, hb⟩ := keyT_rep py e1
          have le := le_put (o := .dT (putK vs k z)) r (List.mem_of_getElem? hl)
          refine .inr ⟨a, _, rfl, DPut.t h1 hb (by rw [← repk_len h2]; exact hz), q _ le (r.put hl ⟨_, upd_same, ?_⟩)⟩
          have h3 := repk_put (k := k) h2 pz
          exact h3.mono le
        · cases e
  | some o =>
    obtain ⟨l, ks⟩ := o
    rw [e0] at e
    simp only at e
    cases e1 : keyOf dy with
    | none => rw [e1] at e; cases e
    | some k =>
      rw [e1, Option.bind_some] at e
      split at e
      · rename_i hz
        cases e
        obtain ⟨a, vs, rfl, rfl, hl, h1, h2⟩ := dicOf_at r px e0
        rw [keyOf_rep py e1]
        have le := le_put (o := .dK (putK vs k z)) r (List.mem_of_getElem? hl)
        refine .inr ⟨a, _, rfl, DPut.k h1 (by rw [← repk_len h2]; exact hz), q _ le (r.put hl ⟨_, upd_same, ?_⟩)⟩
        have h3 := repk_put (k := k) h2 pz
        exact h3.mono le
      · cases e
end
/-- {} -/
def eDict0 : ME D := fun _ s => .ok (.loc s.length) (s ++ [.dic []])
def eDict0T : ME D := fun _ s => .ok (.loc s.length) (s ++ [.dct []])
section
variable {X : Cx} {W : WX} {pos : Pos}
theorem ce_dict0T : PE X (.Dict [] [] pos) (Te X.K X.mg W eDict0T) := PE.imp pe_dnewT fun σ H Q ⟨m, env, s, r, E, g⟩ p hp =>
  g (m ++ [p]) _ _ (le_more r hp) (r.new hp ⟨[], upd_same, .nil⟩) (.loc (len_get r))
theorem ce_dict0 : PE X (.Dict [] [] pos) (Te X.K X.mg W eDict0) := PE.imp pe_dnewK fun σ H Q ⟨m, env, s, r, E, g⟩ p hp =>
  g (m ++ [p]) _ _ (le_more r hp) (r.new hp ⟨[], upd_same, .nil⟩) (.loc (len_get r))
end
end Mi
namespace Mi
open PySem PySem.Spec PyProof.Rows L2
/-! ### equations for simp -/
@[simp] theorem dIxA_tup (xs : List D) (i : D) (s : Store) : dIxA (.tup xs) i s = dIx (.tup xs) i s := rfl
@[simp] theorem dIxA_str (z : Str) (i : D) (s : Store) : dIxA (.str z) i s = dIx (.str z) i s := rfl
theorem dIxA_loc {s : Store} {l : Nat} {xs : List D} (h : s[l]? = some (.lst xs)) (i : Int) : dIxA (.loc l) (.int i) s = (L2.atI xs i).map fun d => (d, s) := by
  have e : dicOf s (.loc l) = none := by simp [dicOf, h]
  have e2 : dctOf s (.loc l) = none := by simp [dctOf, h]
  unfold dIxA
  rw [e]
  simp only
  rw [e2]
  exact dIx_loc h i
theorem dIxA_dct {s : Store} {l : Nat} {ks : List (List Key × D)} (h : s[l]? = some (.dct ks)) {i d : D} {k : List Key} (hk : keyT i = some k) (hd : getD ks k = some d) : dIxA (.loc l) i s = some (d, s) := by
  have e : dicOf s (.loc l) = none := by simp [dicOf, h]
  have e2 : dctOf s (.loc l) = some (l, ks) := by simp [dctOf, h]
  unfold dIxA
  rw [e]
  simp only
  rw [e2]
  simp [hk, hd]
theorem pAny_dct {s : Store} {l : Nat} {ks : List (List Key × D)} (h : s[l]? = some (.dct ks)) {i : D} {k : List Key} (hk : keyT i = some k) (hz : ks.length ≤ 1000000) (z : D) : pAny (.loc l) i z s = some (s.set l (.dct (putD ks k z))) := by
  have e : dicOf s (.loc l) = none := by simp [dicOf, h]
  have e2 : dctOf s (.loc l) = some (l, ks) := by simp [dctOf, h]
  have q : ks.length < sizeLine := by rw [sizeLine_eq]; omega
  unfold pAny
  rw [e]
  simp only
  rw [e2]
  simp only [hk, Option.bind_some, if_pos q]
@[simp] theorem eDict0T_eq (env : Sl) (s : Store) : eDict0T env s = .ok (.loc s.length) (s ++ [.dct []]) := rfl
theorem dIxA_dic {s : Store} {l : Nat} {ks : List (Key × D)} (h : s[l]? = some (.dic ks)) {i d : D} {k : Key} (hk : keyOf i = some k) (hd : getD ks k = some d) : dIxA (.loc l) i s = some (d, s) := by
  have e : dicOf s (.loc l) = some (l, ks) := by simp [dicOf, h]
  unfold dIxA
  rw [e]
  simp [hk, hd]
theorem pAny_loc {s : Store} {l : Nat} {xs : List D} (h : s[l]? = some (.lst xs)) (i z : D) : pAny (.loc l) i z s = pList (.loc l) i z s := by
  have e : dicOf s (.loc l) = none := by simp [dicOf, h]
  have e2 : dctOf s (.loc l) = none := by simp [dctOf, h]
  unfold pAny
  rw [e]
  simp only
  rw [e2]
theorem pAny_dic {s : Store} {l : Nat} {ks : List (Key × D)} (h : s[l]? = some (.dic ks)) {i : D} {k : Key} (hk : keyOf i = some k) (hz : ks.length ≤ 1000000) (z : D) : pAny (.loc l) i z s = some (s.set l (.dic (putD ks k z))) := by
  have e : dicOf s (.loc l) = some (l, ks) := by simp [dicOf, h]
  have q : ks.length < sizeLine := by rw [sizeLine_eq]; omega
  unfold pAny
  rw [e]
  simp only [hk, Option.bind_some, if_pos q]
@[simp] theorem eDict0_eq (env : Sl) (s : Store) : eDict0 env s = .ok (.loc s.length) (s ++ [.dic []]) := rfl
@[simp] theorem iEnm_eq (a : ME (List D)) (env : Sl) (s : Store) : iEnm a env s = (a env s).bind fun x s => match x with
  | [.tup xs] => .ok (Itm.mk (enm xs) always) s
  | [.fl xs] => .ok (Itm.mk (enm xs) always) s
  | [.loc l] => match s[l]? with
    | some (.lst xs) => .ok (Itm.mk (enm xs) (fun s2 => s2[l]? = some (.lst xs))) s
    | _ => .no
  | _ => .no := rfl
@[simp] theorem sRaise_eq (c : Str) (ns : List Str) (a : ME (List D)) (env : Sl) (s : Store) : sRaise c ns a env s = (a env s).then env fun xs s => if xs.length = ns.length then .ex ⟨c, (ns.zip xs).reverse⟩ env s else .no := rfl
theorem dAll_loc {s : Store} {l : Nat} {bs : List Bool} (h : s[l]? = some (.lst (bs.map D.bl))) : dAll [.loc l] s = some (.bl (bs.all id), s) := by simp [dAll, lstOf, h, blsOf_map]
theorem putD_get {κ : Type} [DecidableEq κ] (ks : List (κ × D)) (k : κ) (z : D) : getD (putD ks k z) k = some z := by
  unfold putD getD
  by_cases c : (ks.any fun kv => decide (kv.1 = k)) = true
  · rw [if_pos c]
    induction ks with
    | nil => simp at c
    | cons p ks ih =>
      by_cases q : p.1 = k
      · simp [q]
      · have c' : (ks.any fun kv => decide (kv.1 = k)) = true := by simpa [q] using c
        simpa [List.find?_cons, q] using ih c'
  · rw [if_neg c, List.find?_append]
    have n : ks.find? (fun kv => decide (kv.1 = k)) = none := List.find?_eq_none.mpr fun x hx h => c (List.any_eq_true.mpr ⟨x, hx, h⟩)
    rw [n]
    simp
theorem putD_other {κ : Type} [DecidableEq κ] {k k' : κ} (ne : k' ≠ k) (ks : List (κ × D)) (z : D) : getD (putD ks k z) k' = getD ks k' := by
  unfold putD getD
  by_cases c : (ks.any fun kv => decide (kv.1 = k)) = true
  · rw [if_pos c]
    clear c
    induction ks with
    | nil => rfl
    | cons p ks ih =>
      by_cases q : p.1 = k
      · have n : ¬ p.1 = k' := fun e => ne (e.symm.trans q)
        have n2 : ¬ k = k' := fun e => ne e.symm
        simpa [List.find?_cons, q, n, n2] using ih
      · by_cases q2 : p.1 = k'
        · simp [List.find?_cons, q, q2, ne]
        · simpa [List.find?_cons, q, q2] using ih
  · rw [if_neg c, List.find?_append]
    have n : ¬ k = k' := fun e => ne e.symm
    simp [n]
theorem putD_len {κ : Type} [DecidableEq κ] (ks : List (κ × D)) (k : κ) (z : D) : (putD ks k z).length ≤ ks.length + 1 := by
  unfold putD
  split <;> simp
end Mi
namespace Mi
open PySem PySem.Spec PyProof.Rows L2
/-! ### in, not in -/
theorem un65 {k : Nat} {A : Around} (r : Room k A) : A.units + 65 < cLine := by have := r.un; omega
def flatD : D → Bool
  | .non => true
  | .bl _ => true
  | .int _ => true
  | .str _ => true
  | _ => false
def eqD : D → D → Bool
  | .non, .non => true
  | .bl a, .bl b => a == b
  | .bl a, .int b => (if a then 1 else 0) == b
  | .int a, .bl b => a == (if b then 1 else 0)
  | .int a, .int b => a == b
  | .str a, .str b => a == b
  | _, _ => false
def inFlat (x : D) (xs : List D) : Option Bool := if flatD x = true ∧ xs.all flatD = true then some (xs.any fun z => eqD z x) else none
def inDeep (x y : D) (s : Store) : Option Bool := (py1 s x).bind fun a => (py1 s y).bind fun b => match b with
  | .list ds => if (SeqAt.shaped a && SeqAt.shaped (.list ds)) = true then some (ds.any fun z => PyData.eqv z a) else none
  | _ => none
/-- x in y -/
def dInB (x y : D) (s : Store) : Option Bool := match dicOf s y with
  | some (_, ks) => (keyOf x).map fun k => (getD ks k).isSome
  | none => match dctOf s y with
    | some (_, ks) => (keyT x).map fun k => (getD ks k).isSome
    | none => match y, x with
      | .str b, .str a => some (!(Builtin.Str.occurrences b a 0 b.length 1).isEmpty)
      | y, x => match (seqOf s y).bind (inFlat x) with
        | some c => some c
        | none => inDeep x y s
def dIn (x y : D) (s : Store) : Option (D × Store) := (dInB x y s).map fun b => (.bl b, s)
def dNotIn (x y : D) (s : Store) : Option (D × Store) := (dInB x y s).map fun b => (.bl !b, s)
def rDin : R2 := fun y x H Q => ∃ a o, x = .ref a ∧ DGet H a y o ∧ Q (.bl o.isSome) H
def rDnotin : R2 := fun y x H Q => ∃ a o, x = .ref a ∧ DGet H a y o ∧ Q (.bl (!o.isSome)) H
def rSin : R2 := fun x y H Q => ∃ i j, x = .str i ∧ y = .str j ∧ Q (.bl (!(Builtin.Str.occurrences j i 0 j.length 1).isEmpty)) H
def rSnotin : R2 := fun x y H Q => ∃ i j, x = .str i ∧ y = .str j ∧ Q (.bl (!(!(Builtin.Str.occurrences j i 0 j.length 1).isEmpty))) H
theorem op_din {X : Cx} (hu : X.A.units + 65 < cLine) : OpR X (compareOp .In) rDin := by
  intro pins s σ H x y v u Q I rx ry h
  obtain ⟨a, o, rfl, g, q⟩ := h
  cases ry
  exact d_in (by omega) I g rx fun s' I' => ⟨.bl o.isSome, H, I', rfl, q⟩
theorem op_dnotin {X : Cx} (hu : X.A.units + 65 < cLine) : OpR X (compareOp .NotIn) rDnotin := by
  intro pins s σ H x y v u Q I rx ry h
  obtain ⟨a, o, rfl, g, q⟩ := h
  cases ry
  exact d_notIn (by omega) I g rx fun s' I' => ⟨.bl (!o.isSome), H, I', rfl, q⟩
def rInA (K : PySem.W.Frag) : R2 := fun x y H Q => rIn K false x y H Q ∨ rDin x y H Q ∨ rSin x y H Q ∨ rInD K x y H Q
def rNotInA (K : PySem.W.Frag) : R2 := fun x y H Q => rIn K true x y H Q ∨ rDnotin x y H Q ∨ rSnotin x y H Q ∨ rNotInD K x y H Q
theorem opA_in {X : Cx} (hu : X.A.units + 65 < cLine) : OpR X (compareOp .In) (rInA X.K) := op_in_seq.or ((op_din hu).or (op_in_str.or (op_inD hu)))
theorem opA_notin {X : Cx} (hu : X.A.units + 65 < cLine) : OpR X (compareOp .NotIn) (rNotInA X.K) := op_notIn_seq.or ((op_dnotin hu).or (op_notin_str.or (op_notInD hu)))
section
variable {K : PySem.W.Frag} {m : List Addr} {H : Hp} {s : Store}
theorem flat_rep {d : D} {v : V} (p : Rep K m H d v) (h : flatD d = true) : flatV v = true := by
  cases p <;> first | rfl | cases h
theorem eqD_rep {d e : D} {v w : V} (p : Rep K m H d v) (q : Rep K m H e w) (h : flatD d = true) (h2 : flatD e = true) : eqV v w = eqD d e := by
  cases p <;> first | (cases h; done) | (cases q <;> first | (cases h2; done) | rfl)
theorem flat_reps : ∀ {xs : List D} {vs : List V}, Reps K m H xs vs → xs.all flatD = true → vs.all flatV = true
  | _, _, .nil, _ => rfl
  | _, _, .cons h r, e => by
    rw [List.all_cons, Bool.and_eq_true] at e
    rw [List.all_cons, Bool.and_eq_true]
    exact ⟨flat_rep h e.1, flat_reps r e.2⟩
theorem in_reps {x : D} {w : V} (p : Rep K m H x w) (hx : flatD x = true) : ∀ {xs : List D} {vs : List V}, Reps K m H xs vs → xs.all flatD = true → inV w vs = xs.any fun z => eqD z x
  | _, _, .nil, _ => rfl
  | _, _, .cons h r, e => by
    rw [List.all_cons, Bool.and_eq_true] at e
    rw [List.any_cons, ← in_reps p hx r e.2, ← eqD_rep h p e.1 hx]
    rfl
theorem repk_some {κ : Type} [DecidableEq κ] {k : κ} : ∀ {ks : List (κ × D)} {vs : List (κ × V)}, RepK K m H ks vs → (valV vs k).isSome = (getD ks k).isSome
  | _, _, .nil => rfl
  | (q, x) :: ks, (_, v) :: vs, .cons p r => by
    by_cases c : q = k
    · subst c
      rw [valV_pos rfl]
      simp [getD, List.find?_cons]
    · rw [valV_neg c, repk_some r]
      simp [getD, List.find?_cons, c]
theorem inB_cases (r : Rel K m H s) {dx dy : D} {x y : V} {b : Bool} (px : Rep K m H dx x) (py : Rep K m H dy y) (e : dInB dx dy s = some b) :
    (∃ p xs, y = .ref p ∧ (SqL K H p xs ∨ SqT K H p xs) ∧ flatV x = true ∧ xs.all flatV = true ∧ inV x xs = b) ∨ (∃ a o, y = .ref a ∧ DGet H a x o ∧ o.isSome = b) ∨
      (∃ i j, x = .str i ∧ y = .str j ∧ (!(Builtin.Str.occurrences j i 0 j.length 1).isEmpty) = b) ∨ ∃ d ds, Dp K H x d ∧ Dp K H y (.list ds) ∧ SeqAt.shaped d = true ∧ SeqAt.shaped (.list ds) = true ∧ (ds.any fun z => PyData.eqv z d) = b := by
  unfold dInB at e
  cases e0 : dicOf s dy with
  | some o =>
    obtain ⟨l, ks⟩ := o
    rw [e0] at e
    simp only at e
    cases e1 : keyOf dx with
    | none => rw [e1] at e; cases e
    | some k =>
      rw [e1] at e
      cases e
      obtain ⟨a, vs, _, rfl, _, h1, h2⟩ := dicOf_at r py e0
      rw [keyOf_rep px e1]
      exact .inr (.inl ⟨a, valV vs k, rfl, DGet.k h1, repk_some h2⟩)
  | none =>
    rw [e0] at e
    simp only at e
    cases e9 : dctOf s dy with
    | some o =>
      obtain ⟨l, ks⟩ := o
      rw [e9] at e
      simp only at e
      cases e1 : keyT dx with
      | none => rw [e1] at e; cases e
      | some k =>
        rw [e1] at e
        cases e
        obtain ⟨a, vs, _, rfl, _, h1, h2⟩ := dctOf_at r py e9
        obtain ⟨b, rfl, hb⟩ := keyT_rep px e1
        exact .inr (.inl ⟨a, valV vs k, rfl, DGet.t h1 hb, repk_some h2⟩)
    | none =>
     rw [e9] at e
     simp only at e
     split at e
     · cases px; cases py
       cases e
       exact .inr (.inr (.inl ⟨_, _, rfl, rfl, rfl⟩))
     · split at e
       · rename_i c hc
         cases e
         cases e2 : seqOf s dy with
         | none => rw [e2] at hc; cases hc
         | some xs =>
           rw [e2, Option.bind_some] at hc
           unfold inFlat at hc
           split at hc
           · rename_i hf
             cases hc
             obtain ⟨a, vs, rfl, h1, h2⟩ := seqOf_sq r py e2
             exact .inl ⟨a, vs, rfl, h1, flat_rep px hf.1, flat_reps h2 hf.2, in_reps px hf.1 h2 hf.2⟩
           · cases hc
       · unfold inDeep at e
         cases q1 : py1 s dx with
         | none => rw [q1] at e; cases e
         | some a =>
           cases q2 : py1 s dy with
           | none => rw [q1, q2] at e; cases e
           | some c =>
             rw [q1, q2] at e
             simp only [Option.bind_some] at e
             split at e
             · rename_i ds
               split at e
               · rename_i hs
                 rw [Bool.and_eq_true] at hs
                 cases e
                 exact .inr (.inr (.inr ⟨a, ds, py1_dp r px q1, py1_dp r py q2, hs.1, hs.2, rfl⟩))
               · cases e
             · cases e
theorem ops_in : OpS K (rInA K) dIn := by
  intro mg W σ m H s x y dx dy Q r px py g
  unfold dIn at g
  cases e : dInB dx dy s with
  | none => rw [e] at g; exact g.elim
  | some b =>
    rw [e] at g
    have q := g.now r (.bl b)
    rcases inB_cases r px py e with ⟨p, xs, h1, h2, h3, h4, h5⟩ | ⟨a, o, h1, h2, h3⟩ | ⟨i, j, h1, h2, h3⟩ | ⟨d, ds, h1, h2, h3, h4, h5⟩
    · exact .inl ⟨p, xs, h1, h2, h3, h4, by subst h5; exact q⟩
    · exact .inr (.inl ⟨a, o, h1, h2, by subst h3; exact q⟩)
    · exact .inr (.inr (.inl ⟨i, j, h1, h2, by subst h3; exact q⟩))
    · exact .inr (.inr (.inr ⟨d, ds, h1, h2, h3, h4, by subst h5; exact q⟩))
theorem ops_notin : OpS K (rNotInA K) dNotIn := by
  intro mg W σ m H s x y dx dy Q r px py g
  unfold dNotIn at g
  cases e : dInB dx dy s with
  | none => rw [e] at g; exact g.elim
  | some b =>
    rw [e] at g
    have q := g.now r (.bl (!b))
    rcases inB_cases r px py e with ⟨p, xs, h1, h2, h3, h4, h5⟩ | ⟨a, o, h1, h2, h3⟩ | ⟨i, j, h1, h2, h3⟩ | ⟨d, ds, h1, h2, h3, h4, h5⟩
    · exact .inl ⟨p, xs, h1, h2, h3, h4, by subst h5; exact q⟩
    · exact .inr (.inl ⟨a, o, h1, h2, by subst h3; exact q⟩)
    · exact .inr (.inr (.inl ⟨i, j, h1, h2, by subst h3; exact q⟩))
    · exact .inr (.inr (.inr ⟨d, ds, h1, h2, h3, h4, by subst h5; exact q⟩))
/-! ### str(i), str(z) -/
noncomputable instance (i : Int) : Decidable (i.natAbs.log2 < 1920) := Classical.propDecidable _
noncomputable def dStr : List D → Store → Option (D × Store)
  | [.int i], s => if i.natAbs.log2 < 1920 then some (.str (toString i), s) else none
  | [.str z], s => some (.str z, s)
  | _, _ => none
def rStr : List V → Hp → VK → Prop := fun xs H Q => (∃ i, xs = [.int i] ∧ i.natAbs.log2 < 1920 ∧ Q (.str (toString i)) H) ∨ ∃ a, xs = [.str a] ∧ Q (.str a) H
theorem call_strA {X : Cx} : CallR X (.type "str") rStr := call_str_int.or SkE.call_str_str
theorem fns_str : FnS K rStr dStr := by
  intro mg W σ m H s xs ds Q r p g
  unfold dStr at g
  split at g
  · rename_i i
    obtain ⟨v, rfl, h⟩ := reps1 p
    cases h
    split at g
    · rename_i hz
      exact .inl ⟨i, rfl, hz, g.now r (.str _)⟩
    · exact g.elim
  · rename_i z
    obtain ⟨v, rfl, h⟩ := reps1 p
    cases h
    exact .inr ⟨z, rfl, g.now r (.str _)⟩
  · exact g.elim
/-! ### xs.extend(ys), ys a list or a tuple -/
end
section
open PySem.AutoSeq1
theorem list_extend_tup (l : Addr) (items : Array Value) (n : Nat) (b : Addr) (items2 : Array Value) (n2 : Nat) (dd : Option Addr) (sl : Array (Option Value)) (hs0 : ¬(!items.isEmpty && Builtin.List.listTooLong (items.size + items2.size)) = true) (hs1 : items.size ≤ sizeLine) (hs2 : items.size + items2.size ≤ sizeLine + 1) :
    Meets (Builtin.«list.extend» ⟨[.ref l, .ref b], []⟩) (fun _ R s => s.heap.get? l = some { cls := .type "list", dict := none, data := .seq items n, slots := #[] } ∧ s.heap.get? b = some { cls := .type "tuple", dict := dd, data := .seq items2 n2, slots := sl } ∧ R (.ok (.ret Value.none)) { s with heap := s.heap.update l (Obj.mapSeq fun x => x ++ items2), toks := s.toks }) :=
  .of_wp fun prog w A R s h => by
    obtain ⟨hp, g, d, tk, os⟩ := s; obtain ⟨hl, hb, h⟩ := h; have f1 := PySem.AutoSeq1.idx_int; have f2 := PySem.AutoSeq1.sub_tuple_tuple; have f3 := PySem.AutoSeq1.sub_list_list; have f4 := PySem.AutoSeq1.sub_tuple_list; have f5 := PySem.AutoSeq1.sub_list_tuple;
    have hz' : (items ++ items2).size ≤ sizeLine + 1 := by rw [Array.size_append]; exact hs2
    wp_walk using (wpAny_updateSeq hl rfl (hz := hs1) (_hz' := hz')), wpAny_loadPart' hl, wpAny_loadPart' hb; exact ⟨_, rfl, h⟩
end
def rExtT (K : PySem.W.Frag) : V → List V → Hp → VK → Prop := fun x vs H Q => ∃ l b xs zs, x = .ref l ∧ vs = [.ref b] ∧ H l = some (.lst xs) ∧ SqT K H b zs ∧ xs.length + zs.length ≤ sizeLine ∧ Q .non (upd H l (.lst (xs ++ zs)))
theorem mt_extT {X : Cx} : MtR X "list.extend" (rExtT X.K) := by
  intro pins s σ H x vs v us Q I rx rv h
  obtain ⟨l, b, xs, zs, rfl, rfl, hH, hB, hz, q⟩ := h
  cases rx
  obtain ⟨u, rfl, ru⟩ := rv.one
  cases ru
  obtain ⟨z, its, n, r, hl, e⟩ := I.lstM hH
  obtain ⟨its2, r2, ⟨⟨cls, dd, data, sl⟩, e2, hc, n2, hd⟩, hl2⟩ := I.tuple hB
  simp only at hc hd
  subst hc hd
  have hl3 := r2.length
  have hsz : its.toArray.size + its2.toArray.size ≤ sizeLine := by rw [List.size_toArray, List.size_toArray]; omega
  have hlong : ¬ (!its.toArray.isEmpty && Builtin.List.listTooLong (its.toArray.size + its2.toArray.size)) = true := by
    rw [notLongL hsz, Bool.and_false]
    exact Bool.false_ne_true
  refine call_meets F.slot_list_extend ⟨_, e, rfl⟩ F.entry_list_extend (F.args_list_extend_2 _ _)
    (list_extend_tup l its.toArray n b its2.toArray n2 dd sl hlong (by rw [List.size_toArray]; omega) (by omega)) ⟨e, e2, ?_⟩
  refine ⟨.non, _, I.lset (its' := its ++ its2) hH e (by simp) (r.append r2) ?_, rfl, q⟩
  rw [List.length_append]
  omega
theorem MtR.or' {X : Cx} {id : String} {r r' : V → List V → Hp → VK → Prop} (h : MtR X id r) (h' : MtR X id r') : MtR X id (fun x vs H Q => r x vs H Q ∨ r' x vs H Q) := by
  intro pins s σ H x vs v us Q I rx rv q
  rcases q with q | q
  · exact h pins s σ H x vs v us Q I rx rv q
  · exact h' pins s σ H x vs v us Q I rx rv q
def rExtA (K : PySem.W.Frag) : V → List V → Hp → VK → Prop := fun x vs H Q => rExtend x vs H Q ∨ rExtT K x vs H Q
theorem mt_extA {X : Cx} : MtR X "list.extend" (rExtA X.K) := MtR.or' mt_extend mt_extT
noncomputable def dExtend (x : D) (ys : List D) (s : Store) : Option (D × Store) := match x, ys with
  | .loc l, [.loc k] => match s[l]?, s[k]? with
    | some (.lst xs), some (.lst zs) => if xs.length + zs.length ≤ sizeLine then some (.non, s.set l (.lst (xs ++ zs))) else none
    | _, _ => none
  | .loc l, [.tup zs] => match s[l]? with
    | some (.lst xs) => if xs.length + zs.length ≤ sizeLine then some (.non, s.set l (.lst (xs ++ zs))) else none
    | _ => none
  | _, _ => none
section
variable {K : PySem.W.Frag}
theorem mts_extend : MtS K (rExtA K) dExtend := by
  intro mg W σ m H s x d xs ds Q r p ps g
  unfold dExtend at g
  split at g
  · rename_i l k
    obtain ⟨w, rfl, h⟩ := reps1 ps
    cases p with
    | loc hl =>
      cases h with
      | loc hk =>
        split at g
        · rename_i ys zs q q2
          split at g
          · rename_i hz
            obtain ⟨vs, h1, h2⟩ := r.list hl q
            obtain ⟨ws, h3, h4⟩ := r.list hk q2
            obtain ⟨le, r2⟩ := le_setlist r hl (h2.append h4)
            exact .inl ⟨_, _, vs, ws, rfl, rfl, h1, h3, by rw [← h2.length, ← h4.length]; exact hz, g m _ _ le r2 .non⟩
          · exact g.elim
        · exact g.elim
  · rename_i l zs
    obtain ⟨w, rfl, h⟩ := reps1 ps
    cases p with
    | loc hl =>
      obtain ⟨a, ws, rfl, h3, h4⟩ := h.sqT
      split at g
      · rename_i ys q
        split at g
        · rename_i hz
          obtain ⟨vs, h1, h2⟩ := r.list hl q
          obtain ⟨le, r2⟩ := le_setlist r hl (h2.append h4)
          exact .inr ⟨_, _, vs, ws, rfl, rfl, h1, h3, by rw [← h2.length, ← h4.length]; exact hz, g m _ _ le r2 .non⟩
        · exact g.elim
      · exact g.elim
  · exact g.elim
/-! ### xs.pop(i), xs.insert(i, x) -/
noncomputable def dPopX (x : D) (ys : List D) (s : Store) : Option (D × Store) := match x, ys with
  | .loc l, [.int i] => match s[l]? with
    | some (.lst xs) => if -(2 ^ 63) ≤ i ∧ i < 2 ^ 63 then (seqIndex? i xs.length).bind fun k => (xs[k]?).map fun y => (y, s.set l (.lst (xs.eraseIdx k))) else none
    | _ => none
  | _, _ => none
theorem mts_popX : MtS K rPopAt dPopX := by
  intro mg W σ m H s x d xs ds Q r p ps g
  unfold dPopX at g
  split at g
  · rename_i l i
    obtain ⟨w, rfl, h⟩ := reps1 ps
    cases h
    cases p with
    | loc hl =>
      split at g
      · rename_i ys q
        split at g
        · rename_i hz
          cases q1 : seqIndex? i ys.length with
          | none => rw [q1] at g; exact g.elim
          | some k =>
            rw [q1, Option.bind_some] at g
            cases q2 : ys[k]? with
            | none => rw [q2] at g; exact g.elim
            | some y =>
              rw [q2] at g
              obtain ⟨vs, h1, h2⟩ := r.list hl q
              obtain ⟨v, hv, rv⟩ := h2.get q2
              obtain ⟨le, r2⟩ := le_setlist r hl (h2.erase k)
              exact ⟨_, vs, i, k, v, rfl, rfl, h1, hz.1, hz.2, by rw [← h2.length]; exact q1, hv, g m _ _ le r2 (rv.mono le)⟩
        · exact g.elim
      · exact g.elim
  · exact g.elim
def rIns : V → List V → Hp → VK → Prop := fun x vs H Q => ∃ (l : Addr) (xs : List V) (i : Int) (y : V), x = .ref l ∧ vs = [.int i, y] ∧ H l = some (.lst xs) ∧ xs.length < sizeLine ∧ 0 ≤ i ∧ i < 2 ^ 63 ∧
    Q .non (upd H l (.lst (xs.take i.toNat ++ [y] ++ xs.drop i.toNat)))
noncomputable def dInsert (x : D) (ys : List D) (s : Store) : Option (D × Store) := match x, ys with
  | .loc l, [.int i, y] => match s[l]? with
    | some (.lst xs) => if xs.length < sizeLine ∧ 0 ≤ i ∧ i < 2 ^ 63 then some (.non, s.set l (.lst (xs.take i.toNat ++ [y] ++ xs.drop i.toNat))) else none
    | _ => none
  | _, _ => none
theorem mts_insert : MtS K rIns dInsert := by
  intro mg W σ m H s x d xs ds Q r p ps g
  unfold dInsert at g
  split at g
  · rename_i l i y
    obtain ⟨w, w2, rfl, h, hy⟩ := reps2 ps
    cases h
    cases p with
    | loc hl =>
      split at g
      · rename_i ys q
        split at g
        · rename_i hz
          obtain ⟨vs, h1, h2⟩ := r.list hl q
          obtain ⟨le, r2⟩ := le_setlist r hl (((h2.take i.toNat).append (.cons hy .nil)).append (h2.drop i.toNat))
          exact ⟨_, vs, i, w2, rfl, rfl, h1, by rw [← h2.length]; exact hz.1, hz.2.1, hz.2.2, g m _ _ le r2 .non⟩
        · exact g.elim
      · exact g.elim
  · exact g.elim
/-! ### xs.index(x): items of a list -/
noncomputable def dIndex (x : D) (ys : List D) (s : Store) : Option (D × Store) := match ys with
  | [y] => (lstOf s x).bind fun xs => if flatD y = true ∧ xs.all flatD = true then (xs.findIdx? fun z => eqD z y).map fun j => (.int (j : Nat), s) else none
  | _ => none
theorem mts_index : MtS K (rIndex K) dIndex := by
  intro mg W σ m H s x d xs ds Q r p ps g
  unfold dIndex at g
  split at g
  · rename_i y
    obtain ⟨w, rfl, h⟩ := reps1 ps
    cases e : lstOf s d with
    | none => rw [e] at g; exact g.elim
    | some zs =>
      rw [e, Option.bind_some] at g
      split at g
      · rename_i hf
        cases q : zs.findIdx? fun z => eqD z y with
        | none => rw [q] at g; exact g.elim
        | some j =>
          rw [q] at g
          obtain ⟨a, vs, rfl, h1, h2⟩ := lstOf_sq r p e
          obtain ⟨hj, q1, q2⟩ := List.findIdx?_eq_some_iff_getElem.mp q
          have fl : ∀ i (hi : i < zs.length), flatD zs[i] = true := fun i hi => List.all_eq_true.mp hf.2 _ (List.getElem_mem hi)
          obtain ⟨v, hv, rv⟩ := h2.get (List.getElem?_eq_getElem hj)
          refine ⟨a, vs, w, j, v, rfl, rfl, h1, flat_rep h hf.1, flat_reps h2 hf.2, hv, by rw [eqD_rep rv h (fl j hj) hf.1]; exact q1, fun i z hi hz => ?_, g.now r (.int _)⟩
          have hi' : i < zs.length := by omega
          obtain ⟨v', hv', rv'⟩ := h2.get (List.getElem?_eq_getElem hi')
          rw [hz] at hv'
          cases hv'
          rw [eqD_rep rv' h (fl i hi') hf.1]
          simpa using q2 i hi
      · exact g.elim
  · exact g.elim
end
/-! ### equations for simp -/
theorem any_str (x : Str) (xs : List Str) : ((xs.map D.str).any fun z => eqD z (.str x)) = decide (x ∈ xs) := by
  rw [List.any_map, Bool.eq_iff_iff, List.any_eq_true, decide_eq_true_iff]
  exact ⟨fun ⟨z, h, e⟩ => by simp [eqD] at e; subst e; exact h, fun h => ⟨x, h, by simp [eqD]⟩⟩
theorem any_int (x : Int) (xs : List Int) : ((xs.map D.int).any fun z => eqD z (.int x)) = decide (x ∈ xs) := by
  rw [List.any_map, Bool.eq_iff_iff, List.any_eq_true, decide_eq_true_iff]
  exact ⟨fun ⟨z, h, e⟩ => by simp [eqD] at e; subst e; exact h, fun h => ⟨x, h, by simp [eqD]⟩⟩
theorem flat_str (xs : List Str) : (xs.map D.str).all flatD = true := by simp [flatD]
theorem flat_int (xs : List Int) : (xs.map D.int).all flatD = true := by simp [flatD]
theorem dInB_tupS (x : Str) (xs : List Str) (s : Store) : dInB (.str x) (.tup (xs.map D.str)) s = some (decide (x ∈ xs)) := by
  have e : inFlat (.str x) (xs.map D.str) = some (decide (x ∈ xs)) := by
    unfold inFlat
    rw [if_pos ⟨rfl, flat_str xs⟩, any_str]
  simp [dInB, dicOf, dctOf, seqOf, e]
theorem dInB_tupI (x : Int) (xs : List Int) (s : Store) : dInB (.int x) (.tup (xs.map D.int)) s = some (decide (x ∈ xs)) := by
  have e : inFlat (.int x) (xs.map D.int) = some (decide (x ∈ xs)) := by
    unfold inFlat
    rw [if_pos ⟨rfl, flat_int xs⟩, any_int]
  simp [dInB, dicOf, dctOf, seqOf, e]
theorem dInB_locS {l : Nat} {xs : List Str} {s : Store} (h : s[l]? = some (.lst (xs.map D.str))) (x : Str) : dInB (.str x) (.loc l) s = some (decide (x ∈ xs)) := by
  have e : inFlat (.str x) (xs.map D.str) = some (decide (x ∈ xs)) := by
    unfold inFlat
    rw [if_pos ⟨rfl, flat_str xs⟩, any_str]
  simp [dInB, dicOf, dctOf, seqOf, lstOf, h, e]
theorem dInB_locI {l : Nat} {xs : List Int} {s : Store} (h : s[l]? = some (.lst (xs.map D.int))) (x : Int) : dInB (.int x) (.loc l) s = some (decide (x ∈ xs)) := by
  have e : inFlat (.int x) (xs.map D.int) = some (decide (x ∈ xs)) := by
    unfold inFlat
    rw [if_pos ⟨rfl, flat_int xs⟩, any_int]
  simp [dInB, dicOf, dctOf, seqOf, lstOf, h, e]
theorem dInB_dct {s : Store} {l : Nat} {ks : List (List Key × D)} (h : s[l]? = some (.dct ks)) {x : D} {k : List Key} (hk : keyT x = some k) : dInB x (.loc l) s = some (getD ks k).isSome := by
  have e : dicOf s (.loc l) = none := by simp [dicOf, h]
  have e2 : dctOf s (.loc l) = some (l, ks) := by simp [dctOf, h]
  unfold dInB
  rw [e]
  simp only
  rw [e2]
  simp [hk]
theorem dInB_dic {s : Store} {l : Nat} {ks : List (Key × D)} (h : s[l]? = some (.dic ks)) {x : D} {k : Key} (hk : keyOf x = some k) : dInB x (.loc l) s = some (getD ks k).isSome := by
  have e : dicOf s (.loc l) = some (l, ks) := by simp [dicOf, h]
  unfold dInB
  rw [e]
  simp [hk]
theorem dIn_of {x y : D} {s : Store} {b : Bool} (h : dInB x y s = some b) : dIn x y s = some (.bl b, s) := by simp [dIn, h]
theorem dNotIn_of {x y : D} {s : Store} {b : Bool} (h : dInB x y s = some b) : dNotIn x y s = some (.bl !b, s) := by simp [dNotIn, h]
theorem dExtend_tup {s : Store} {l : Nat} {xs : List D} (h : s[l]? = some (.lst xs)) (zs : List D) (hz : xs.length + zs.length ≤ 1000000) : dExtend (.loc l) [.tup zs] s = some (.non, s.set l (.lst (xs ++ zs))) := by
  have q : xs.length + zs.length ≤ sizeLine := by rw [sizeLine_eq]; omega
  simp only [dExtend, h]
  rw [if_pos q]
/-! ### loops by place -/
theorem forL_at {gd : Store → Prop} {g : D → Sl → Option Sl} {b : MS} (xs : List D) (I : Nat → Sl → Store → Prop) (Q : RS → Prop) (hg : ∀ i env s, I i env s → gd s)
    (hs : ∀ i d env s, xs[i]? = some d → I i env s → Turns (I (i + 1)) Q (turn g b d env s)) (he : ∀ env s, I xs.length env s → Q (.nx env s)) {env : Sl} {s : Store} (h : I 0 env s) : Q (forL gd g b xs env s) := by
  refine forL_rule (fun ys env s => ∃ i, i ≤ xs.length ∧ ys = xs.drop i ∧ I i env s) Q (fun ys env s ⟨i, hi, _, q⟩ => hg i env s q) (fun x ys env s ⟨i, hi, e, q⟩ => ?_) (fun env s ⟨i, hi, e, q⟩ => ?_) ⟨0, Nat.zero_le _, rfl, h⟩
  · have hx : xs[i]? = some x := by
      have := congrArg (fun l : List D => l[0]?) e
      simpa using this.symm
    have hy : ys = xs.drop (i + 1) := by
      have := congrArg List.tail e
      simpa [List.tail_drop] using this
    have hlt := (List.getElem?_eq_some_iff.mp hx).1
    have t1 := hs i x env s hx q
    cases hb : turn g b x env s with
    | nx env2 s2 => rw [hb] at t1; exact ⟨i + 1, hlt, hy, t1⟩
    | ct env2 s2 => rw [hb] at t1; exact ⟨i + 1, hlt, hy, t1⟩
    | bk env2 s2 => rw [hb] at t1; exact t1
    | rt d s2 => rw [hb] at t1; exact t1
    | ex x env2 s2 => rw [hb] at t1; exact t1
    | no => rw [hb] at t1; exact t1
  · have : i = xs.length := by
      have := congrArg List.length e
      simp at this
      omega
    subst this
    exact he env s q
theorem forL_atT {gd : Store → Prop} {g : D → Sl → Option Sl} {b : MS} (xs : List D) (I : Nat → Sl → Store → Prop) (hg : ∀ i env s, I i env s → gd s)
    (hs : ∀ i d env s, xs[i]? = some d → I i env s → Turns (I (i + 1)) (fun _ => False) (turn g b d env s)) {env : Sl} {s : Store} (h : I 0 env s) : ∃ env' s', forL gd g b xs env s = .nx env' s' ∧ I xs.length env' s' :=
  forL_at xs I (fun r => ∃ env' s', r = .nx env' s' ∧ I xs.length env' s') hg (fun i d env s hi h => by
    have z := hs i d env s hi h
    cases q : turn g b d env s with
    | nx env2 s2 => rw [q] at z; exact z
    | ct env2 s2 => rw [q] at z; exact z
    | bk env2 s2 => rw [q] at z; exact z.elim
    | rt d s2 => rw [q] at z; exact z.elim
    | ex e env2 s2 => rw [q] at z; exact z.elim
    | no => rw [q] at z; exact z.elim) (fun env s h => ⟨env, s, rfl, h⟩) h
/-- a loop of yes-no turns: it goes on, or it returns -/
theorem forL_find {gd : Store → Prop} {g : D → Sl → Option Sl} {b : MS} (xs : List D) (I : Nat → Sl → Store → Prop) (ok : Nat → Bool) (out : Nat → D) (hg : ∀ i env s, I i env s → gd s)
    (hs : ∀ i d env s, xs[i]? = some d → I i env s → if ok i = true then Turns (I (i + 1)) (fun _ => False) (turn g b d env s) else ∃ s', turn g b d env s = .rt (out i) s' ∧ ∃ env', I i env' s') {env : Sl} {s : Store} (h : I 0 env s) :
    match (List.range xs.length).find? (fun i => !ok i) with
    | none => ∃ env' s', forL gd g b xs env s = .nx env' s' ∧ I xs.length env' s'
    | some i => ∃ s' env', forL gd g b xs env s = .rt (out i) s' ∧ I i env' s' := by
  have key : ∀ n, n ≤ xs.length → (∀ j, j < n → ok j = true) → ∀ env s, I n env s → match (List.range' n (xs.length - n)).find? (fun i => !ok i) with
      | none => ∃ env' s', forL gd g b (xs.drop n) env s = .nx env' s' ∧ I xs.length env' s'
      | some i => ∃ s' env', forL gd g b (xs.drop n) env s = .rt (out i) s' ∧ I i env' s' := by
    intro n
    induction hk : xs.length - n generalizing n with
    | zero =>
      intro hn _ env s hI
      have : n = xs.length := by omega
      subst this
      simp
      rw [forL_nil env s gd (hg _ _ _ hI)]
      exact ⟨_, _, rfl, hI⟩
    | succ k ih =>
      intro hn hall env s hI
      have hlt : n < xs.length := by omega
      rw [List.drop_eq_getElem_cons hlt, forL_cons env s gd (hg _ _ _ hI), List.range'_succ]
      have z := hs n xs[n] env s (by simp [hlt]) hI
      unfold turn at z
      by_cases c : ok n = true
      · rw [if_pos c] at z
        simp only [List.find?_cons, c, Bool.not_true]
        cases e1 : g xs[n] env with
        | none => rw [e1] at z; exact z.elim
        | some env1 =>
          rw [e1] at z
          dsimp only at z ⊢
          have hall' : ∀ j, j < n + 1 → ok j = true := fun j hj => by
            rcases Nat.lt_or_ge j n with w | w
            · exact hall j w
            · have : j = n := by omega
              rw [this]; exact c
          cases q : b env1 s with
          | nx env2 s2 => rw [q] at z; exact ih (n + 1) (by omega) hlt hall' env2 s2 z
          | ct env2 s2 => rw [q] at z; exact ih (n + 1) (by omega) hlt hall' env2 s2 z
          | bk env2 s2 => rw [q] at z; exact z.elim
          | rt d s2 => rw [q] at z; exact z.elim
          | ex e env2 s2 => rw [q] at z; exact z.elim
          | no => rw [q] at z; exact z.elim
      · rw [if_neg c] at z
        obtain ⟨s', h1, env', h2⟩ := z
        have c' : ok n = false := by simpa using c
        simp only [List.find?_cons, c', Bool.not_false]
        cases e1 : g xs[n] env with
        | none => rw [e1] at h1; cases h1
        | some env1 =>
          rw [e1] at h1
          dsimp only at h1 ⊢
          rw [h1]
          exact ⟨s', env', rfl, h2⟩
  have := key 0 (Nat.zero_le _) (fun j hj => absurd hj (Nat.not_lt_zero j)) env s h
  rw [Nat.sub_zero, ← List.range_eq_range', List.drop_zero] at this
  exact this
/-- range(i, j) -/
def rng2 (lo : Int) (n : Nat) : List D := (List.range n).map fun k => .int (lo + (k : Nat))
theorem rng2_get {lo : Int} {n i : Nat} {d : D} (h : (rng2 lo n)[i]? = some d) : i < n ∧ d = .int (lo + (i : Nat)) := by
  unfold rng2 at h
  rw [List.getElem?_map] at h
  cases e : (List.range n)[i]? with
  | none => rw [e] at h; cases h
  | some k =>
    rw [e] at h
    cases h
    obtain ⟨hl, he⟩ := List.getElem?_eq_some_iff.mp e
    simp at hl he
    exact ⟨hl, by rw [he]⟩
theorem rng2_len (lo : Int) (n : Nat) : (rng2 lo n).length = n := by simp [rng2]
theorem range2_int (i j : Int) (s : Store) (h0 : 0 ≤ i) (h1 : i ≤ 1000000000) (h2 : 0 ≤ j) (h3 : j ≤ 1000000000) : rangeOf2 [.int i, .int j] s = .ok (Itm.mk (rng2 i (j - i).toNat) always) s := rangeOf2_int s i j h0 h1 h2 h3
theorem rng_get {n i : Nat} {d : D} (h : (rng n)[i]? = some d) : i < n ∧ d = .int (i : Nat) := by
  obtain ⟨a, b⟩ := rng2_get (lo := 0) (n := n) h
  exact ⟨a, by rw [b, Int.zero_add]⟩
theorem rng_len (n : Nat) : (rng n).length = n := by simp [rng]
theorem map_get {α : Type} {f : α → D} {xs : List α} {i : Nat} {d : D} (h : (xs.map f)[i]? = some d) : ∃ x, xs[i]? = some x ∧ d = f x := by
  rw [List.getElem?_map] at h
  cases e : xs[i]? with
  | none => rw [e] at h; cases h
  | some x => rw [e] at h; cases h; exact ⟨x, rfl, rfl⟩
/-- a loop that looks for one that fails, and returns r there -/
theorem forL_all {α : Type} {gd : Store → Prop} {g : D → Sl → Option Sl} {b : MS} (f : α → D) (as : List α) (I : Sl → Prop) (s : Store) (ok : α → Bool) (r : D) (hg : gd s)
    (hs : ∀ a ∈ as, ∀ env, I env → if ok a = true then ∃ env', turn g b (f a) env s = .nx env' s ∧ I env' else turn g b (f a) env s = .rt r s) {env : Sl} (h : I env) :
    if as.all ok = true then ∃ env', forL gd g b (as.map f) env s = .nx env' s ∧ I env' else forL gd g b (as.map f) env s = .rt r s := by
  induction as generalizing env with
  | nil =>
    rw [List.map_nil, forL_nil env s gd hg]
    exact ⟨_, rfl, h⟩
  | cons a as ih =>
    rw [List.map_cons, forL_cons env s gd hg]
    have z := hs a (List.mem_cons_self ..) env h
    unfold turn at z
    by_cases c : ok a = true
    · rw [if_pos c] at z
      obtain ⟨env', z1, z2⟩ := z
      have q := ih (fun a' ha' => hs a' (List.mem_cons_of_mem _ ha')) z2
      cases e1 : g (f a) env with
      | none => rw [e1] at z1; cases z1
      | some env1 =>
        rw [e1] at z1
        dsimp only at z1 ⊢
        rw [z1]
        simpa [c] using q
    · rw [if_neg c] at z
      have c' : ok a = false := by simpa using c
      cases e1 : g (f a) env with
      | none => rw [e1] at z; cases z
      | some env1 =>
        rw [e1] at z
        dsimp only at z ⊢
        rw [z]
        simp [c']
theorem app_new (s : Store) (xs : List D) (y : D) (h : xs.length ≤ 1000000) : dAppend (.loc s.length) [y] (s ++ [.lst xs]) = some (.non, s ++ [.lst (xs ++ [y])]) := by
  have q := dAppend_loc (get_new s (.lst xs)) h y
  rw [q]
  simp
theorem ty_new (s : Store) (xs : List D) : tyOk "list" (s ++ [.lst xs]) (.loc s.length) = true := tyOk_list (get_new s (.lst xs))
theorem tyN_isi {s : Store} {d : D} {t : String} (h : tyN s d = some t) (T : String) : dIsi T d s = (kitB t T).map fun b => (.bl b, s) := by simp [h]
end Mi
namespace Mi
open PySem PySem.Spec PyProof.Rows L2
/-! ### more rules for mirrors -/
theorem tryAs_ex {i : Nat} {cs : List Str} {body : MS} {suite : Nat × Nat → MS} {env env2 : Sl} {s s2 : Store} {e : Ex} {r : RS} (h : body env s = .ex e env2 s2) (h1 : e.cls ∈ cs) (h2 : e.fs ≠ [])
    (h3 : ∀ g : Nat × Nat, clr i (suite g (env2.set i (some (.exv g.1 g.2 e.cls e.fs))) s2) = r) : sTryAs i cs body suite env s = r := by
  unfold sTryAs
  rw [h]
  simp only
  rw [if_pos ⟨h1, h2, fun g => by rw [h3 g]; exact (h3 (0, 0)).symm⟩]
  exact h3 (0, 0)
/-- what stood before stands, and something new behind it -/
def Ext (s s' : Store) : Prop := ∃ r, s' = s ++ r
theorem Ext.refl (s : Store) : Ext s s := ⟨[], by simp⟩
theorem Ext.mk (s r : Store) : Ext s (s ++ r) := ⟨r, rfl⟩
theorem Ext.trans {a b c : Store} (h : Ext a b) (k : Ext b c) : Ext a c := by
  obtain ⟨r, rfl⟩ := h
  obtain ⟨t, rfl⟩ := k
  exact ⟨r ++ t, by simp⟩
theorem Ext.get {a b : Store} (h : Ext a b) {l : Nat} {c : Cell} (e : a[l]? = some c) : b[l]? = some c := by
  obtain ⟨r, rfl⟩ := h
  rw [List.getElem?_append_left (lt_of_get e)]
  exact e
theorem Ext.le {a b : Store} (h : Ext a b) : a.length ≤ b.length := by
  obtain ⟨r, rfl⟩ := h
  simp
/-- an item of a tuple or a list, by place -/
theorem ix_map {α : Type} {f : α → D} {xs : List α} {i : Int} (h0 : 0 ≤ i) (h1 : i < xs.length) : ∃ a, a ∈ xs ∧ xs[i.toNat]? = some a ∧ ∀ s, dIx (.tup (xs.map f)) (.int i) s = some (f a, s) := by
  obtain ⟨n, rfl⟩ := Int.eq_ofNat_of_zero_le h0
  have hn : n < xs.length := by omega
  refine ⟨xs[n], List.getElem_mem _, by simp [hn], fun s => ?_⟩
  rw [dIx_tup, atI_ofNat _ _ (f xs[n]) (by simp [hn])]
  rfl
theorem ixL_map {α : Type} {f : α → D} {xs : List α} {s : Store} {l : Nat} (h : s[l]? = some (.lst (xs.map f))) {i : Int} (h0 : 0 ≤ i) (h1 : i < xs.length) : ∃ a, a ∈ xs ∧ xs[i.toNat]? = some a ∧ dIx (.loc l) (.int i) s = some (f a, s) := by
  obtain ⟨n, rfl⟩ := Int.eq_ofNat_of_zero_le h0
  have hn : n < xs.length := by omega
  refine ⟨xs[n], List.getElem_mem _, by simp [hn], ?_⟩
  rw [dIx_loc h, L2.atI_nat (v := f xs[n]) (by simp [hn])]
  rfl
theorem ix_mem {xs : List D} {i : Int} (h0 : 0 ≤ i) (h1 : i < xs.length) : ∃ a, a ∈ xs ∧ ∀ s, dIx (.tup xs) (.int i) s = some (a, s) := by
  obtain ⟨n, rfl⟩ := Int.eq_ofNat_of_zero_le h0
  have hn : n < xs.length := by omega
  refine ⟨xs[n], List.getElem_mem _, fun s => ?_⟩
  rw [dIx_tup, atI_ofNat _ _ xs[n] (by simp [hn])]
  rfl
theorem ixL_mem {xs : List D} {s : Store} {l : Nat} (h : s[l]? = some (.lst xs)) {i : Int} (h0 : 0 ≤ i) (h1 : i < xs.length) : ∃ a, a ∈ xs ∧ dIx (.loc l) (.int i) s = some (a, s) := by
  obtain ⟨n, rfl⟩ := Int.eq_ofNat_of_zero_le h0
  have hn : n < xs.length := by omega
  refine ⟨xs[n], List.getElem_mem _, ?_⟩
  rw [dIx_loc h, L2.atI_nat (v := xs[n]) (by simp [hn])]
  rfl
theorem dAdd_s {a b : Str} (h : a.length + b.length ≤ 1000000) (s : Store) : dAdd (.str a) (.str b) s = some (.str (a ++ b), s) := by
  have q := le_line h
  simp only [dAdd, q, if_true]
theorem cutS1 (ws : List Str) {k : Nat} (h : k ≤ ws.length) : cutD (ws.map D.str) none (some (k : Int)) = (ws.take k).map D.str := by
  unfold cutD
  rw [HT.sIx_none, HT.sIx_nat]
  simp [Nat.min_eq_left h]
theorem cutS2 (ws : List Str) {k : Nat} (h : k + 1 ≤ ws.length) : cutD (ws.map D.str) (some ((k : Int) + 1)) none = (ws.drop (k + 1)).map D.str := by
  unfold cutD
  rw [HT.sIx_none, show ((k : Int) + 1) = ((k + 1 : Nat) : Int) by omega, HT.sIx_nat, List.length_map, Nat.min_eq_left h, ← List.map_drop]
  rw [List.take_of_length_le (by simp)]
theorem sort_strs (A : List Str) : sortOk (A.map D.str) ∧ ∃ M : List Str, sortD (A.map D.str) = M.map D.str ∧ M.length = A.length ∧ M.Perm A := by
  refine ⟨⟨fun d hd => ?_, ?_, ?_⟩, A.mergeSort fun x y => PySem.W.dataLe false pyD (D.str x) (D.str y), ?_, List.length_mergeSort _, List.mergeSort_perm _ _⟩
  · obtain ⟨x, _, rfl⟩ := List.mem_map.mp hd
    exact ⟨rfl, by show PyData.depth (.str x) ≤ 60; simp [PyData.depth]⟩
  · rw [List.map_map]
    exact PySem.W.AllAlike.of (enc := fun x => pyD (D.str x)) fun x y => by show PySem.W.alike (.str x) (.str y) = true; simp [PySem.W.alike]
  · rw [List.map_map]
    exact PySem.W.Sortable.others (enc := fun x => pyD (D.str x)) fun x => ⟨by show PyData.str x ≠ .none; simp, fun xs => by show PyData.str x ≠ .tuple xs; simp⟩
  · unfold sortD
    rw [List.map_mergeSort (r := fun x y : Str => PySem.W.dataLe false pyD (D.str x) (D.str y)) (s := PySem.W.dataLe false pyD) fun _ _ _ _ => rfl]
/-- a comprehension by place -/
theorem lcL_at {gd : Store → Prop} {g : D → Sl → Option Sl} {t : ME Bool} {e : ME D} {env : Sl} (xs : List D) (I : Nat → List D → Store → Prop) (hg : ∀ i acc s, I i acc s → gd s)
    (hs : ∀ i d acc s, xs[i]? = some d → I i acc s → Kept (I (i + 1)) acc (pick g t e d env s)) {acc : List D} {s : Store} (h : I 0 acc s) : ∃ acc' s', lcL gd g t e env xs acc s = .ok acc' s' ∧ I xs.length acc' s' := by
  obtain ⟨acc', s', h1, i, hi, e, h2⟩ := lcL_thru (gd := gd) (g := g) (t := t) (e := e) (env := env) (fun ys acc s => ∃ i, i ≤ xs.length ∧ ys = xs.drop i ∧ I i acc s) (fun _ acc s ⟨i, hi, _, q⟩ => hg i acc s q) (fun x ys acc s ⟨i, hi, e, q⟩ => by
    have hx : xs[i]? = some x := by
      have := congrArg (fun l : List D => l[0]?) e
      simpa using this.symm
    have hy : ys = xs.drop (i + 1) := by
      have := congrArg List.tail e
      simpa [List.tail_drop] using this
    have hlt := (List.getElem?_eq_some_iff.mp hx).1
    have z := hs i x acc s hx q
    cases hp : pick g t _ x env s with
    | no => rw [hp] at z; exact z
    | ex x s => rw [hp] at z; exact z
    | ok o s2 =>
      rw [hp] at z
      cases o with
      | none => exact ⟨i + 1, hlt, hy, z⟩
      | some y => exact ⟨z.1, i + 1, hlt, hy, z.2⟩) (xs := xs) ⟨0, Nat.zero_le _, rfl, h⟩
  have : i = xs.length := by
    have := congrArg List.length e
    simp at this
    omega
  subst this
  exact ⟨acc', s', h1, h2⟩
/-! ### statement by statement -/
section
variable {P : RS → Prop} {i : Nat} {a : ME D} {t : ME Bool} {f g r : MS} {env env2 : Sl} {s s' s2 : Store} {d : D}
theorem st_set (h : a env s = .ok d s') (k : P (r (env.set i (some d)) s')) : P (sSeq (sSet i a) r env s) := by
  show P (RS.bind ((a env s).then env fun d s => .nx (env.set i (some d)) s) r)
  rw [h]
  exact k
theorem st_no (h : t env s = .ok false s') (k : P (r env s')) : P (sSeq (sIf t f sNil) r env s) := by
  show P (RS.bind ((t env s).then env fun b s => if b then f env s else sNil env s) r)
  rw [h]
  exact k
theorem st_else (h : t env s = .ok false s') (h2 : g env s' = .nx env2 s2) (k : P (r env2 s2)) : P (sSeq (sIf t f g) r env s) := by
  show P (RS.bind ((t env s).then env fun b s => if b then f env s else g env s) r)
  rw [h]
  show P (RS.bind (g env s') r)
  rw [h2]
  exact k
theorem st_yes (h : t env s = .ok true s') (h2 : f env s' = .nx env2 s2) (k : P (r env2 s2)) : P (sSeq (sIf t f g) r env s) := by
  show P (RS.bind ((t env s).then env fun b s => if b then f env s else g env s) r)
  rw [h]
  show P (RS.bind (f env s') r)
  rw [h2]
  exact k
theorem st_out (h : t env s = .ok true s') (h2 : f env s' = .rt d s2) (k : P (.rt d s2)) : P (sSeq (sIf t f g) r env s) := by
  show P (RS.bind ((t env s).then env fun b s => if b then f env s else g env s) r)
  rw [h]
  show P (RS.bind (f env s') r)
  rw [h2]
  exact k
theorem st_for {it : ME Itm} {x : Itm} {gt : D → Sl → Option Sl} {b : MS} (h : it env s = .ok x s') (h2 : forL x.guard gt b x.xs env s' = .nx env2 s2) (k : P (r env2 s2)) : P (sSeq (sFor it gt b) r env s) := by
  show P (RS.bind ((it env s).then env fun i s => forL i.guard gt b i.xs env s) r)
  rw [h]
  show P (RS.bind (forL x.guard gt b x.xs env s') r)
  rw [h2]
  exact k
theorem st_expr (h : a env s = .ok d s') (k : P (r env s')) : P (sSeq (sExpr a) r env s) := by
  show P (RS.bind ((a env s).then env fun _ s => .nx env s) r)
  rw [h]
  exact k
theorem st_ret (h : a env s = .ok d s') (k : P (.rt d s')) : P (sRet a env s) := by
  show P ((a env s).then env fun d s => .rt d s)
  rw [h]
  exact k
/-- it returns True -/
def Yes (r : RS) : Prop := ∃ s, r = .rt (.bl true) s
theorem Yes.fn {N n : Nat} {b : MS} {ds : List D} {s : Store} (h : Yes (b (ds.map some ++ List.replicate (N - n) none) s)) : ∃ s', fnM N n b ds s = .ok (.bl true) s' := by
  obtain ⟨s', e⟩ := h
  exact ⟨s', by rw [fnM_eq, e]⟩
end
end Mi
namespace Mi
open PySem PySem.Spec PyProof.Rows L2
/-! ### dict comprehensions -/
section
variable {K : PySem.W.Frag} {mg : Str → Option Value} {m m1 m2 : List Addr} {H H1 H2 : Hp} {s : Store} {p : Addr}
theorem lw_sideD {vs ws : List (Key × V)} (h : H p = some (.dK vs)) : Lw K m H m (upd H p (HO.dK ws)) :=
  ⟨⟨[], by simp⟩, fun b xs q => by
    rcases q with (q | ⟨ob, q⟩) | q
    · exact .inl (.inl (by rw [upd_ne (fun z => by subst z; rw [h] at q; cases q)]; exact q))
    · exact .inl (.inr ⟨ob, by rw [upd_ne (fun z => by subst z; rw [h] at q; cases q)]; exact q⟩)
    · exact .inr q, fun b xs q => by
    rcases q with ⟨ob, q⟩ | q
    · exact .inl ⟨ob, by rw [upd_ne (fun z => by subst z; rw [h] at q; cases q)]; exact q⟩
    · exact .inr q, fun b vfs q n => ⟨by rw [upd_ne (fun z => by subst z; rw [h] at q; cases q)]; exact q, n⟩, fun b xs q => by rw [upd_ne (fun z => by subst z; rw [h] at q; cases q)]; exact q⟩
theorem Rel.sideD (r : Rel K m H s) {vs ws : List (Key × V)} (h : H p = some (.dK vs)) (n : p ∉ m) : Rel K m (upd H p (HO.dK ws)) s :=
  ⟨r.len, r.nd, fun l a c h1 h2 => (r.at_ l a c h1 h2).monoW (lw_sideD h) (upd_ne fun z => by subst z; exact n (List.mem_of_getElem? h1))⟩
theorem Le.sideD (e : Le K m H m1 H1) {vs ws : List (Key × V)} (h0 : H p = none) (h : H1 p = some (.dK vs)) : Le K m H m1 (upd H1 p (HO.dK ws)) :=
  ⟨e.pre, fun a xs q => (lw_sideD (m := m1) h).tup a xs (e.tup a xs q), fun a xs q => (lw_sideD (m := m1) h).frl a xs (e.frl a xs q), fun b o q n => by
    rw [upd_ne (fun z => by subst z; rw [h0] at q; cases q)]; exact e.fr b o q n, e.nw, fun a xs q => (lw_sideD (K := K) (m := m1) h).trk a xs (e.trk a xs q)⟩
theorem lw_adoptD {vs : List (Key × V)} (h : H p = some (.dK vs)) : Lw K m H (m ++ [p]) H := ⟨⟨[p], rfl⟩, fun _ _ q => q, fun _ _ q => q, fun b vfs q n => ⟨q, fun z => by
    rcases List.mem_append.mp z with z | z
    · exact n z
    · rw [List.mem_singleton.mp z, h] at q; cases q⟩, fun _ _ q => q⟩
theorem Rel.adoptD (r : Rel K m H s) {xs : List (Key × D)} {vs : List (Key × V)} (n : p ∉ m) (h : H p = some (.dK vs)) (q : RepK K m H xs vs) : Rel K (m ++ [p]) H (s ++ [Cell.dic xs]) := by
  refine ⟨by simp [r.len], ?_, fun j b d h1 h2 => ?_⟩
  · rw [List.nodup_append]
    exact ⟨r.nd, by simp, fun x hx y hy => by rw [List.mem_singleton.mp hy]; exact fun z => n (z ▸ hx)⟩
  · rcases Nat.lt_or_ge j m.length with w | w
    · rw [List.getElem?_append_left w] at h1
      rw [List.getElem?_append_left (by rw [← r.len]; exact w)] at h2
      exact (r.at_ j b d h1 h2).monoW (lw_adoptD h) rfl
    · rw [List.getElem?_append_right w] at h1
      rw [List.getElem?_append_right (by rw [← r.len]; exact w), ← r.len] at h2
      cases hk : j - m.length with
      | zero =>
        rw [hk] at h1 h2
        simp at h1 h2
        subst h1; subst h2
        exact ⟨vs, h, q.monoW (lw_adoptD h)⟩
      | succ n => rw [hk] at h1; simp at h1
end
open Classical in
noncomputable def dcL (guard : Store → Prop) (g : D → Sl → Option Sl) (t : ME Bool) (ek ev : ME D) (env : Sl) : List D → List (Key × D) → Store → R (List (Key × D))
  | [], acc, s => if guard s then .ok acc s else .no
  | x :: xs, acc, s => if guard s then (match g x env with
    | none => .no
    | some env1 => match t env1 s with
      | .ok b s1 => if b then (match ek env1 s1 with
        | .ok y s2 => match ev env1 s2 with
          | .ok z s3 => match keyOf y with
            | some k => if acc.length < sizeLine then dcL guard g t ek ev env xs (putD acc k z) s3 else .no
            | none => .no
          | _ => .no
        | _ => .no) else dcL guard g t ek ev env xs acc s1
      | _ => .no) else .no
/-- {k: v for target in iter if ..} -/
noncomputable def eDc (it : ME Itm) (vs : List Nat) (g : D → Sl → Option Sl) (t : ME Bool) (ek ev : ME D) : ME D := fun env s => (it env s).bind fun i s => (dcL i.guard g t ek ev (wipeE env vs) i.xs [] s).bind fun acc s => .ok (.loc s.length) (s ++ [.dic acc])
section
variable {X : Cx} {W : WX}
theorem dc_run {fi : ME Itm} {vs : List Nat} {gt : D → Sl → Option Sl} {ft : ME Bool} {fk fv : ME D} : ∀ σ H Q, Te X.K X.mg W (eDc fi vs gt ft fk fv) σ H Q →
    tDc (Ti X.K X.mg W fi) (GTm X.K vs gt) (Tt X.K X.mg WF ft) (Te X.K X.mg WF fk) (Te X.K X.mg WF fv) vs σ H Q := fun σ H Q h =>
  Tm.bind (k := fun env (i : Itm) s => (dcL i.guard gt ft fk fv (wipeE env vs) i.xs [] s).bind fun acc s => R.ok (D.loc s.length) (s ++ [Cell.dic acc])) h fun m1 H1 env it J s1 r1 E1 p1 g1 => by
    intro P hP
    refine ⟨fun i k H => k = it.xs.length - i ∧ i ≤ it.xs.length ∧ ∃ m2 s2 acc accV, Le X.K m1 H1 m2 H ∧ Rel X.K m2 H s2 ∧ H P = some (.dK accV) ∧ P ∉ m2 ∧ RepK X.K m2 H acc accV ∧
        G X.K X.mg (Rep X.K) W σ m1 H1 Q ((dcL it.guard gt ft fk fv (wipeE env vs) (it.xs.drop i) acc s2).bind fun acc s => R.ok (D.loc s.length) (s ++ [Cell.dic acc])),
      ⟨it.xs.length, by simp, Nat.zero_le _, m1, s1, [], [], le_new hP, r1.tmp hP, upd_same, r1.new_notin hP, .nil, g1⟩, ?_⟩
    rintro i k H2 ⟨rfl, hi, m2, s2, acc, accV, l2, r2, hD, nD, pA, g2⟩
    by_cases hlt : i < it.xs.length
    · have hx : it.xs[i]? = some it.xs[i] := by simp [hlt]
      have hd : it.xs.drop i = it.xs[i] :: it.xs.drop (i + 1) := List.drop_eq_getElem_cons hlt
      rw [hd] at g2
      unfold dcL at g2
      by_cases hgd : it.guard s2
      · simp only [hgd, if_true] at g2
        obtain ⟨hall, _⟩ := p1 m2 H2 s2 l2.w r2 hgd
        obtain ⟨hgo, hy⟩ := hall i _ hx
        refine .inr ⟨hgo, fun H' => ∃ m2 s2 acc accV, Le X.K m1 H1 m2 H' ∧ Rel X.K m2 H' s2 ∧ H' P = some (.dK accV) ∧ P ∉ m2 ∧ RepK X.K m2 H' acc accV ∧
          G X.K X.mg (Rep X.K) W σ m1 H1 Q ((dcL it.guard gt ft fk fv (wipeE env vs) (it.xs.drop (i + 1)) acc s2).bind fun acc s => R.ok (D.loc s.length) (s ++ [Cell.dic acc])),
          fun H' q => ⟨it.xs.length - (i + 1), by omega, rfl, hlt, q⟩, fun v H3 y => ?_⟩
        obtain ⟨l3, r3, p3⟩ := hy v H3 y
        cases q : gt it.xs[i] (wipeE env vs) with
        | none => simp only [q] at g2; exact g2.elim
        | some env3 =>
          simp only [q] at g2
          have l13 := l2.trans l3
          have hD3 := l3.fr P _ hD nD
          refine ⟨m2, wipeE env vs, s2, it.xs[i], env3, r3, relE_wipe (E1.mono l13) vs, p3, q, fun σ4 E4 k4 n4 => ⟨by rw [wipe_congr n4 k4, wipe_wipe], m2, env3, s2, r3, E4, ?_⟩⟩
          cases ht : ft env3 s2 with
          | no => rw [ht] at g2; exact g2.elim
          | ex x s4 => rw [ht] at g2; exact g2.elim
          | ok b s4 =>
            simp only [ht] at g2
            intro m5 H5 b' l5 r5 eb
            cases (show b = b' from eb)
            have hD5 := l5.fr P _ hD3 nD
            have nD5 : P ∉ m5 := fun z => by
              rcases l5.nw P z with w | w
              · exact nD w
              · rw [hD3] at w; cases w
            have l15 := l13.trans l5
            cases b with
            | false =>
              refine iteF ⟨m5, s4, acc, accV, l15, r5, hD5, nD5, (pA.mono l3).mono l5, ?_⟩
              simpa using g2
            | true =>
              simp only [if_true] at g2
              refine iteT ⟨m5, env3, s4, r5, E4.mono l5, ?_⟩
              cases he : fk env3 s4 with
              | no => rw [he] at g2; exact g2.elim
              | ex x s6 => rw [he] at g2; exact g2.elim
              | ok y s6 =>
                simp only [he] at g2
                intro m7 H7 yv l7 r7 p7
                have hD7 := l7.fr P _ hD5 nD5
                have nD7 : P ∉ m7 := fun z => by
                  rcases l7.nw P z with w | w
                  · exact nD5 w
                  · rw [hD5] at w; cases w
                refine ⟨m7, env3, s6, r7, (E4.mono l5).mono l7, ?_⟩
                cases hv : fv env3 s6 with
                | no => rw [hv] at g2; exact g2.elim
                | ex x s8 => rw [hv] at g2; exact g2.elim
                | ok z s8 =>
                  simp only [hv] at g2
                  intro m9 H9 zv l9 r9 p9
                  have hD9 := l9.fr P _ hD7 nD7
                  have nD9 : P ∉ m9 := fun z => by
                    rcases l9.nw P z with w | w
                    · exact nD7 w
                    · rw [hD7] at w; cases w
                  cases hk : keyOf y with
                  | none => simp only [hk] at g2; exact g2.elim
                  | some k =>
                    simp only [hk] at g2
                    by_cases hz : acc.length < sizeLine
                    · simp only [hz, if_true] at g2
                      have pA9 := (((pA.mono l3).mono l5).mono l7).mono l9
                      have pP := (repk_put (k := k) pA9 p9).monoW (lw_sideD (m := m9) (ws := putK accV k zv) hD9)
                      exact ⟨accV, k, keyOf_rep p7 hk, hD9, by rw [← repk_len pA]; exact hz, m9, s8, putD acc k z, putK accV k zv, ((l15.trans l7).trans l9).sideD hP hD9, r9.sideD hD9 nD9, upd_same, nD9, pP, g2⟩
                    · simp only [hz, if_false] at g2
                      exact g2.elim
      · simp only [hgd, if_false] at g2
        exact g2.elim
    · have e : i = it.xs.length := by omega
      subst e
      rw [List.drop_length] at g2
      unfold dcL at g2
      by_cases hgd : it.guard s2
      · simp only [hgd, if_true] at g2
        refine .inl ⟨(p1 m2 H2 s2 l2.w r2 hgd).2, ?_⟩
        exact g2 (m2 ++ [P]) H2 (.ref P) (l2.adopt hP) (r2.adoptD nD hD pA) (.loc (len_get r2))
      · simp only [hgd, if_false] at g2
        exact g2.elim
variable {ek ev tg iter c : Expr} {ifs : List Expr} {scope : Scope} {own : List (Str × Nat)} {pos : Pos} {fi : ME Itm} {gt : D → Sl → Option Sl} {ft : ME Bool} {fk fv : ME D}
theorem ce_dc (hc : X.calm = true) (hN : X.N.Nodup) (hi : PI X tg iter (Ti X.K X.mg W fi)) (ok : BlkOk X.N X.env.scope scope own)
    (hg : ∀ (s : Shared) (H : Hp) (C : Addr) (cl : List (Str × Addr)) (fp : List Addr), PG (X.blk s H scope (compEnvC scope cl C X.env) fp) tg (GTm X.K (own.map (·.2)) gt)) (ht : ∀ (s : Shared) (H : Hp) (C : Addr) (cl : List (Str × Addr)) (fp : List Addr), PTs (X.blk s H scope (compEnvC scope cl C X.env) fp) ifs (Tt X.K X.mg WF ft))
    (hk : ∀ (s : Shared) (H : Hp) (C : Addr) (cl : List (Str × Addr)) (fp : List Addr), PE (X.blk s H scope (compEnvC scope cl C X.env) fp) ek (Te X.K X.mg WF fk))
    (he : ∀ (s : Shared) (H : Hp) (C : Addr) (cl : List (Str × Addr)) (fp : List Addr), PE (X.blk s H scope (compEnvC scope cl C X.env) fp) ev (Te X.K X.mg WF fv)) (hs : ∀ x, foldedSetIterable iter X.env x = pure x := by intro _; rfl) :
    PE X (.DictComp ek ev [⟨tg, iter, ifs, 0⟩] scope pos) (Te X.K X.mg W (eDc fi (own.map (·.2)) gt ft fk fv)) := PE.imp (pe_dc hc hN hi ok hg ht hk he hs) dc_run
end
/-! ### name = {k: v for ..} on one line -/
section
variable {X : Cx} {W : WX} {kx vx tg iter : Expr} {ifs : List Expr} {sc : Scope} {own : List (Str × Nat)} {cp sp np : Pos} {z : Str} {l : Nat}
theorem sw_dict {env : Env} {gs : List Comprehension} (kind : env.scope.kind = .function) (there : env.scope.names.lookup z = some .local) (line : (np.line == cp.line) = true)
    (none_own : (sc.names.any fun (n, k) => n == z && (k == .local || k == .cell)) = false) : swapsWith (.DictComp kx vx gs sc cp) (some (.Name z np)) l env = pure true := by
  have q1 : env.kindOf z = some .local := there
  have q2 : env.blockKind = .function := by
    unfold Env.blockKind
    rw [kind]
    rfl
  unfold swapsWith
  simp only [q2, q1, none_own, Expr.pos, line]
  rfl
theorem cs_setDc {i : Nat} {fi : ME Itm} {gt : D → Sl → Option Sl} {ft : ME Bool} {fk fv : ME D} (calm : X.calm = true) (nd : X.N.Nodup) (at_ : X.N[i]? = some z) (there : X.env.scope.names.lookup z = some .local)
    (swaps : swapsWith (.DictComp kx vx [⟨tg, iter, ifs, 0⟩] sc cp) (some (.Name z np)) sp.line X.env = pure true) (pi : PI X tg iter (Ti X.K X.mg W fi)) (ok : BlkOk X.N X.env.scope sc own)
    (pg : ∀ (s : Shared) (H : Hp) (C : Addr) (cl : List (Str × Addr)) (fp : List Addr), PG (X.blk s H sc (compEnvC sc cl C X.env) fp) tg (GTm X.K (own.map (·.2)) gt))
    (pt : ∀ (s : Shared) (H : Hp) (C : Addr) (cl : List (Str × Addr)) (fp : List Addr), PTs (X.blk s H sc (compEnvC sc cl C X.env) fp) ifs (Tt X.K X.mg WF ft))
    (pk : ∀ (s : Shared) (H : Hp) (C : Addr) (cl : List (Str × Addr)) (fp : List Addr), PE (X.blk s H sc (compEnvC sc cl C X.env) fp) kx (Te X.K X.mg WF fk))
    (pv : ∀ (s : Shared) (H : Hp) (C : Addr) (cl : List (Str × Addr)) (fp : List Addr), PE (X.blk s H sc (compEnvC sc cl C X.env) fp) vx (Te X.K X.mg WF fv)) (folds : ∀ x, foldedSetIterable iter X.env x = pure x := by intro _; rfl) :
    PS X (.Assign [.Name z np] (.DictComp kx vx [⟨tg, iter, ifs, 0⟩] sc cp) sp) (Ts X.K X.mg W (sSet i (eDc fi (own.map (·.2)) gt ft fk fv))) := by
  constructor
  intro pins s σ H Dn I told
  rw [exec_Assign_Name_used _ _ _ _ swaps]
  apply wpAny_bind
  apply wpAny_standAt
  apply wpAny_bind
  show wpAny _ X.A (do
    let _ ← comprehension (.DictComp kx vx [⟨tg, iter, ifs, 0⟩] sc cp) sc X.env (firstIterPos [⟨tg, iter, ifs, 0⟩] cp) newDict false (eval iter X.env) (some (assign (.Name z np) X.env))) _ _ s
  have asked : tDc (Ti X.K X.mg W fi) (GTm X.K (own.map (·.2)) gt) (Tt X.K X.mg WF ft) (Te X.K X.mg WF fk) (Te X.K X.mg WF fv) (own.map (·.2)) σ H (fun x H1 => gName i x σ H1 Dn.nx) :=
    dc_run σ H _ (Ts.ofE (k := fun env d s => RS.nx (env.set i (some d)) s) told fun m1 H1 env d v s1 r1 E1 p1 g1 => g1 m1 _ H1 .refl r1 (relE_set E1 p1 i))
  apply wpAny_bind
  refine thn (dc_core (Qf := fun _ t => L2.SP X pins Dn .next t) calm nd I pi ok pg pt pk pv folds asked ?_) (fun _ _ q => wpAny_pure (wpAny_pure q))
  intro L C t m H2 I2 q ns fpok
  show wpAny _ _ (assign (.Name z np) X.env (.ref L)) _ _ _
  apply wpAny_assign_Name
  refine store_ok2 (v := V.ref L) I2 nd at_ (.inl there) rfl ?_ (.inr there)
  rintro t2 I3 ⟨a, but, where_⟩
  obtain ⟨g0, g1, g2, g3, g4, g5⟩ := fpok
  have away : C ≠ a := where_.elim (fun e => e.symm ▸ g1) (fun e w => g4 z a e w.symm)
  refine ⟨m, ns.sameBut but away, fun h4 but2 => ?_⟩
  exact ⟨_, H2, I3.turned (t' := t2.toks) (fun b o nb e => (but2.2 b nb).trans e) g0 g1 g3 g4 g5, q⟩
end
/-! ### x[i], x a text besides -/
def dIxZ (x i : D) (s : Store) : Option (D × Store) := match x, i with
  | .str z, .int j => if z.length ≤ 1000000 then (L2.atI z.cps.toList j).map fun c => (.str ⟨#[c]⟩, s) else none
  | .str _, _ => none
  | x, i => dIxA x i s
def rIxZ (K : PySem.W.Frag) : R2 := fun x y H Q => (rIx K x y H Q ∨ rIxDic x y H Q) ∨ rIxS x y H Q
theorem ix_Z {X : Cx} (hu : X.A.units + 64 < cLine) : IxR X (rIxZ X.K) := (ix_any hu).or ix_str
section
variable {K : PySem.W.Frag}
theorem ops_ixZ : OpS K (rIxZ K) dIxZ := by
  intro mg W σ m H s x y dx dy Q r px py g
  by_cases hz : ∃ z, dx = .str z
  · obtain ⟨z, rfl⟩ := hz
    cases px
    cases dy with
    | int j =>
      cases py
      by_cases hl : z.length ≤ 1000000
      · cases e : L2.atI z.cps.toList j with
        | none => simp [dIxZ, hl, e] at g; exact g.elim
        | some c =>
          have g' : G K mg (Rep K) W σ m H Q (.ok (.str ⟨#[c]⟩) s) := by simpa [dIxZ, hl, e] using g
          exact .inr ⟨z, j, c, rfl, rfl, le_line hl, e, g'.now r (.str _)⟩
      · simp [dIxZ, hl] at g; exact g.elim
    | _ => exact g.elim
  · have e : dIxZ dx dy s = dIxA dx dy s := by
      cases dx <;> first | rfl | exact (hz ⟨_, rfl⟩).elim
    rw [e] at g
    exact .inl (ops_ixA r px py g)
theorem dIxZ_tup (xs : List D) (i : D) (s : Store) : dIxZ (.tup xs) i s = dIx (.tup xs) i s := by cases i <;> rfl
theorem dIxZ_locA (l : Nat) (i : D) (s : Store) : dIxZ (.loc l) i s = dIxA (.loc l) i s := by cases i <;> rfl
theorem dIxZ_loc {s : Store} {l : Nat} {xs : List D} (h : s[l]? = some (.lst xs)) (i : Int) : dIxZ (.loc l) (.int i) s = dIx (.loc l) (.int i) s := by
  rw [dIxZ_locA, dIxA_loc h, dIx_loc h]
theorem dIxZ_str {z : Str} (h : z.length ≤ 1000000) (j : Int) (s : Store) : dIxZ (.str z) (.int j) s = (L2.atI z.cps.toList j).map fun c => (.str ⟨#[c]⟩, s) := by
  show (if z.length ≤ 1000000 then _ else none) = _
  rw [if_pos h]
/-! ### [x] * n -/
noncomputable def dRep (x y : D) (s : Store) : Option (D × Store) := match x, y with
  | .loc l, .int k => match s[l]? with
    | some (.lst xs) => if -(2 ^ 63) ≤ k ∧ k < 2 ^ 63 ∧ xs.length * k.toNat ≤ sizeLine then some (.loc s.length, s ++ [.lst (List.replicate k.toNat xs).flatten]) else none
    | _ => none
  | _, _ => none
theorem reps_rep {m : List Addr} {H : Hp} {xs : List D} {vs : List V} (p : Reps K m H xs vs) : ∀ n, Reps K m H (List.replicate n xs).flatten (List.replicate n vs).flatten
  | 0 => .nil
  | n + 1 => by
    rw [List.replicate_succ, List.replicate_succ, List.flatten_cons, List.flatten_cons]
    exact p.append (reps_rep p n)
theorem ops_rep : OpS K rRep dRep := by
  intro mg W σ m H s x y dx dy Q r px py g
  unfold dRep at g
  split at g
  · rename_i l k
    cases py
    cases px with
    | loc hl =>
      split at g
      · rename_i xs q
        split at g
        · rename_i hz
          obtain ⟨vs, h1, h2⟩ := r.list hl q
          refine ⟨_, k, vs, rfl, rfl, h1, hz.1, hz.2.1, by rw [← h2.length]; exact hz.2.2, fun p hp => ?_⟩
          exact g (m ++ [p]) _ _ (le_more r hp) (rel_newlist r hp (reps_rep h2 k.toNat)) (.loc (len_get r))
        · exact g.elim
      · exact g.elim
  · exact g.elim
/-! ### t.index(z), a tuple of texts -/
def strsOf : List D → Option (List Str)
  | [] => some []
  | .str z :: r => (strsOf r).map fun q => z :: q
  | _ => none
theorem strsOf_map (zs : List Str) : strsOf (zs.map D.str) = some zs := by
  induction zs with
  | nil => rfl
  | cons z zs ih => simp [strsOf, ih]
theorem strs_reps {m : List Addr} {H : Hp} : ∀ {ds : List D} {vs : List V} {zs : List Str}, Reps K m H ds vs → strsOf ds = some zs → vs = zs.map V.str
  | [], _, _, .nil, e => by cases e; rfl
  | d :: ds, _, zs, .cons h r, e => by
    cases d with
    | str z =>
      cases h
      simp only [strsOf] at e
      cases q : strsOf ds with
      | none => rw [q] at e; cases e
      | some w =>
        rw [q] at e
        cases e
        rw [List.map_cons, strs_reps r q]
    | _ => cases e
def rTix (K : PySem.W.Frag) : V → List V → Hp → VK → Prop := fun x xs H Q => ∃ p, ∃ ys : List Str, ∃ z j, x = .ref p ∧ xs = [.str z] ∧ SqT K H p (ys.map V.str) ∧ ys[j]? = some z ∧ (∀ m, m < j → ys[m]? ≠ some z) ∧ Q (.int (j : Nat)) H
theorem mt_tix {X : Cx} : MtR X "tuple.index" (rTix X.K) := mt_tup_index
def dTix (x : D) (ys : List D) (s : Store) : Option (D × Store) := match x, ys with
  | .tup xs, [.str z] => (strsOf xs).bind fun zs => (zs.findIdx? fun w => decide (w = z)).map fun j => (.int (j : Nat), s)
  | _, _ => none
theorem mts_tix : MtS K (rTix K) dTix := by
  intro mg W σ m H s x d xs ds Q r p ps g
  unfold dTix at g
  split at g
  · rename_i ys z
    obtain ⟨w, rfl, h⟩ := reps1 ps
    cases h
    obtain ⟨a, vs, rfl, h1, h2⟩ := p.sqT
    cases e : strsOf ys with
    | none => rw [e] at g; exact g.elim
    | some zs =>
      rw [e, Option.bind_some] at g
      cases q : zs.findIdx? fun w => decide (w = z) with
      | none => rw [q] at g; exact g.elim
      | some j =>
        rw [q] at g
        obtain ⟨hj, q1, q2⟩ := List.findIdx?_eq_some_iff_getElem.mp q
        have ev := strs_reps h2 e
        subst ev
        have hz : zs[j] = z := of_decide_eq_true q1
        refine ⟨a, zs, z, j, rfl, rfl, h1, by rw [List.getElem?_eq_getElem hj, hz], fun i hi w => ?_, g.now r (.int _)⟩
        have hi' : i < zs.length := by omega
        rw [List.getElem?_eq_getElem hi'] at w
        have := q2 i hi
        simp only [decide_eq_true_eq] at this
        exact this (Option.some.inj w)
  · exact g.elim
end
/-! ### list(d), d a dict -/
def keyD : Key → D
  | .inl i => .int i
  | .inr z => .str z
def rListA (K : PySem.W.Frag) : List V → Hp → VK → Prop := fun xs H Q => (∃ p ys, xs = [.ref p] ∧ (SqL K H p ys ∨ SqT K H p ys) ∧ ∀ l, H l = none → Q (.ref l) (upd H l (.lst ys))) ∨
  (∃ d kvs, xs = [V.ref d] ∧ Rd H d (.dT kvs) ∧ ∀ p bs, H p = none → IsKeys H kvs bs → Q (.ref p) (upd H p (.lst (bs.map V.ref)))) ∨
  ∃ (a : Addr) (kvs : List (Key × V)), xs = [.ref a] ∧ Rd H a (.dK kvs) ∧ ∀ p, H p = none → Q (.ref p) (upd H p (.lst (kvs.map fun kv => kV kv.1)))
theorem call_listA {X : Cx} (hc : X.calm = true) : CallR X (.type "list") (rListA X.K) := call_list_of.or ((call_list_dT hc).or (call_listD hc))
def dListA (ds : List D) (s : Store) : Option (D × Store) := match ds with
  | [x] => match dicOf s x with
    | some (_, ks) => some (.loc s.length, s ++ [.lst (ks.map fun kv => keyD kv.1)])
    | none => match dctOf s x with
      | some (_, ks) => some (.loc s.length, s ++ [.lst (ks.map fun kv => .tup (kv.1.map keyD))])
      | none => dList [x] s
  | _ => none
section
variable {K : PySem.W.Frag} {m : List Addr} {H : Hp}
theorem keyD_rep (k : Key) : Rep K m H (keyD k) (kV k) := by
  cases k with
  | inl i => exact .int i
  | inr z => exact .str z
theorem keysD_rep : ∀ ks : List Key, Reps K m H (ks.map keyD) (ks.map kV)
  | [] => .nil
  | k :: ks => .cons (keyD_rep k) (keysD_rep ks)
theorem reps_keysK : ∀ {ks : List (Key × D)} {vs : List (Key × V)}, RepK K m H ks vs → Reps K m H (ks.map fun kv => keyD kv.1) (vs.map fun kv => kV kv.1)
  | _, _, .nil => .nil
  | _, _, .cons (k := k) _ r => .cons (keyD_rep k) (reps_keysK r)
theorem reps_keysT : ∀ {ks : List (List Key × D)} {vs : List (List Key × V)} {bs : List Addr}, RepK K m H ks vs → IsKeys H vs bs → Reps K m H (ks.map fun kv => .tup (kv.1.map keyD)) (bs.map V.ref)
  | _, _, _, .nil, q => by cases q; exact .nil
  | _, _, _, .cons (k := k) _ r, q => by
    cases q with
    | cons h t => exact .cons (.tup h (keysD_rep k)) (reps_keysT r t)
theorem fns_listA : FnS K (rListA K) dListA := by
  intro mg W σ m H s xs ds Q r p g
  unfold dListA at g
  split at g
  · rename_i x
    obtain ⟨v, rfl, h⟩ := reps1 p
    cases e : dicOf s x with
    | some o =>
      obtain ⟨l, ks⟩ := o
      rw [e] at g
      obtain ⟨a, vs, _, rfl, _, h1, h2⟩ := dicOf_at r h e
      refine .inr (.inr ⟨a, vs, rfl, .inl h1, fun q hq => ?_⟩)
      exact g (m ++ [q]) _ _ (le_more r hq) (rel_newlist r hq (reps_keysK h2)) (.loc (len_get r))
    | none =>
      rw [e] at g
      simp only at g
      cases e2 : dctOf s x with
      | some o =>
        obtain ⟨l, ks⟩ := o
        rw [e2] at g
        obtain ⟨a, vs, _, rfl, _, h1, h2⟩ := dctOf_at r h e2
        refine .inr (.inl ⟨a, vs, rfl, .inl h1, fun q bs hq hk => ?_⟩)
        exact g (m ++ [q]) _ _ (le_more r hq) (rel_newlist r hq (reps_keysT h2 hk)) (.loc (len_get r))
      | none =>
        rw [e2] at g
        exact .inl (fns_list r p g)
  · exact g.elim
end
/-! ### a, b = e, e a list -/
/-- a list taken apart -/
def sAsgL (n : Nat) (r : List D → Sl → Option Sl) (e : ME D) : MS := fun env s => (e env s).then env fun d s => match lstOf s d with
  | some xs => if xs.length = n then (match r xs env with | some env' => .nx env' s | none => .no) else .no
  | none => .no
section
variable {X : Cx} {W : WX} {pos : Pos} {tpos : Pos} {es : List Expr} {e : Expr} {fe : ME D}
theorem cs_asgL {k n : Nat} {r : List D → Sl → Option Sl} {vs : List Nat} (hc : X.calm = true) (he : PE X e (Te X.K X.mg W fe)) (h : PGs X es (GTs X.K vs r)) (hn : (assignEach es X.env).length = n := by rfl) (hst : (assignEach es X.env).findIdx? (·.1) = none := by rfl)
    (hs : swapsWithSole [.Tuple es k tpos] e pos.line X.env = pure false := by rfl) (hw : swappedStores [.Tuple es k tpos] e X.env = pure none := by rfl)
    (h1 : (assignEach [.Tuple es k tpos] X.env).map (·.2) = [assign (.Tuple es k tpos) X.env] := by rfl) : PS X (.Assign [.Tuple es k tpos] e pos) (Ts X.K X.mg W (sAsgL n r fe)) := PS.imp (ps_asg he (pg_lst (n := n) hc h hn hst) hs hw h1) fun Dn σ H h =>
  Ts.ofE (k := fun env d s => match lstOf s d with
  | some xs => if xs.length = n then (match r xs env with | some env' => RS.nx env' s | none => .no) else .no
  | none => .no) h fun m1 H1 env d v s1 r1 E1 p1 g1 => by
    cases q : lstOf s1 d with
    | none => simp only [q] at g1; exact g1.elim
    | some xs =>
      simp only [q] at g1
      by_cases hl : xs.length = n
      · simp only [hl, if_true] at g1
        cases q2 : r xs env with
        | none => simp only [q2] at g1; exact g1.elim
        | some env' =>
          simp only [q2] at g1
          obtain ⟨a, ws, rfl, hq, rr⟩ := lstOf_sq r1 p1 q
          exact ⟨a, ws, rfl, hq, by rw [← rr.length]; exact hl, m1, env, s1, xs, env', r1, E1, rr, q2, fun σ' E' _ _ => g1 m1 σ' H1 .refl r1 E'⟩
      · simp only [hl, if_false] at g1
        exact g1.elim
end
end Mi
namespace Mi
open PySem PySem.Spec PyProof.Rows L2
/-! ### picked places -/
def permL {α : Type} (is : List Nat) (xs : List α) : List α := is.filterMap (xs[·]?)
theorem vals_perm {xs : List V} {us : List Value} (r : Vals xs us) : ∀ is : List Nat, Vals (permL is xs) (permL is us)
  | [] => .nil
  | i :: is => by
    unfold permL
    rw [List.filterMap_cons, List.filterMap_cons]
    cases q : xs[i]? with
    | none => rw [r.none_of q]; exact vals_perm r is
    | some x =>
      obtain ⟨u, e, h⟩ := r.get q
      rw [e]
      exact .cons h (vals_perm r is)
section
variable {K : PySem.W.Frag} {m : List Addr} {H : Hp}
theorem reps_perm {xs : List D} {vs : List V} (r : Reps K m H xs vs) : ∀ is : List Nat, Reps K m H (permL is xs) (permL is vs)
  | [] => .nil
  | i :: is => by
    unfold permL
    rw [List.filterMap_cons, List.filterMap_cons]
    cases q : xs[i]? with
    | none =>
      have : vs[i]? = none := by
        have h := List.getElem?_eq_none_iff.mp q
        rw [r.length] at h
        exact List.getElem?_eq_none_iff.mpr h
      rw [this]; exact reps_perm r is
    | some x =>
      obtain ⟨u, e, h⟩ := r.get q
      rw [e]
      exact .cons h (reps_perm r is)
theorem mem_perm {α : Type} {is : List Nat} {xs : List α} {x : α} (h : x ∈ permL is xs) : x ∈ xs := by
  obtain ⟨i, _, e⟩ := List.mem_filterMap.mp h
  exact List.mem_of_getElem? e
theorem perm_length {α : Type} (is : List Nat) (xs : List α) : (permL is xs).length ≤ is.length := List.length_filterMap_le ..
end
/-! ### x[a:b:c], a list -/
def stepIs (lo hi st : Option Int) (n : Nat) : List Nat := sliceRange (sliceBounds lo hi st n).1 (sliceBounds lo hi st n).2.1 (sliceBounds lo hi st n).2.2
def tStep (K : PySem.W.Frag) (te : TE) (tl tu ts : TO) : TE := fun σ H Q => te σ H fun x H1 => tl σ H1 fun l H2 => tu σ H2 fun u H3 => ts σ H3 fun st H4 =>
  ∃ a xs, x = .ref a ∧ SqL K H4 a xs ∧ st ≠ some 0 ∧ (permL (stepIs l u st xs.length) xs).length ≤ sizeLine ∧ ∀ p, H4 p = none → Q (.ref p) (upd H4 p (.lst (permL (stepIs l u st xs.length) xs)))
theorem pe_step {X : Cx} {e : Expr} {te : TE} {tl tu ts : TO} {lo hi : Option Expr} {st : Expr} {p3 pos : Pos} (he : PE X e te) (hl : PO X lo tl) (hu : PO X hi tu) (hs : PO X (some st) ts) : PE X (.Subscript e (.Slice lo hi (some st) p3) pos) (tStep X.K te tl tu ts) := by
  refine ⟨fun pins s σ H Q I h => Subscript_ (thn (he.run pins s σ H _ I h) fun v s1 ⟨x, H1, I1, r1, q1⟩ => ?_)⟩
  refine wpAny_Slice (thn (hl.run pins s1 σ H1 _ I1 q1) fun vl s2 ⟨l, H2, I2, pl, q2⟩ => thn (hu.run pins s2 σ H2 _ I2 q2) fun vu s3 ⟨u, H3, I3, pu, q3⟩ => thn (hs.run pins s3 σ H3 _ I3 q3) fun vs s4 ⟨o, H4, I4, ps, q4⟩ => ?_)
  obtain ⟨a, xs, ex, hx, h0, hz, q⟩ := q4
  subst ex
  cases r1
  have I5 : Inv X pins σ H4 { s4 with heap := s4.heap.push { cls := .type "slice", data := .fields #[vl, vu, vs] } } := I4.kept (t' := s4.toks) fun b ob q => Heap.get?_push_of_some _ q
  show wpAny (model X.prog X.w) X.A (subscriptTail e (.Slice lo hi (some st) p3) (.ref a) (.ref s4.heap.objs.size)) (EP X pins σ Q) X.xe { s4 with heap := s4.heap.push { cls := .type "slice", data := .fields #[vl, vu, vs] } }
  obtain ⟨its, r, ht, hz2⟩ := I5.list hx
  have hlen := r.length
  refine tail_any (ops := [.ref a, .ref s4.heap.objs.size]) ht.isList.typeIs (PySem.slot_list_getitem.lookup) ?_ (by with_unfolding_all rfl)
  refine wpAny_getItem_list_slice ht.isList (Heap.IsSliceOf.new _ vl vu vs) pl pu ps h0 ?_ (by rw [List.size_toArray]; omega)
  have ep : slicePick its.toArray l u o = (permL (stepIs l u o xs.length) its).toArray := by
    unfold slicePick permL stepIs
    rw [List.size_toArray, ← hlen]
    simp
  rw [ep]
  refine ⟨.ref _, _, I5.laid (t' := s4.toks) (o := .lst (permL (stepIs l u o xs.length) xs)) (fun b ob q => Heap.get?_push_of_some _ q) (Nat.le_refl _) ?_, rfl, q _ (I5.hok.fresh (Nat.le_refl _))⟩
  exact ⟨hz, _, 0, vals_perm r _, Heap.get?_push_size _ rfl⟩
noncomputable def dStep (x : D) (lo hi st : Option Int) (s : Store) : Option (D × Store) := (lstOf s x).bind fun xs =>
  if st ≠ some 0 ∧ (permL (stepIs lo hi st xs.length) xs).length ≤ sizeLine then some (.loc s.length, s ++ [.lst (permL (stepIs lo hi st xs.length) xs)]) else none
noncomputable def eStep (a : ME D) (lo hi st : ME (Option Int)) : ME D := fun env s => (a env s).bind fun x s => (lo env s).bind fun l s => (hi env s).bind fun u s => (st env s).bind fun t s => R.of (dStep x l u t s)
section
variable {X : Cx} {W : WX} {pos p2 : Pos} {a c : Expr} {fa : ME D} {ol oh os : ME (Option Int)} {lo hi : Option Expr}
theorem ce_step (ha : PE X a (Te X.K X.mg W fa)) (hl : PO X lo (To X.K X.mg W ol)) (hu : PO X hi (To X.K X.mg W oh)) (hs : PO X (some c) (To X.K X.mg W os)) :
    PE X (.Subscript a (.Slice lo hi (some c) p2) pos) (Te X.K X.mg W (eStep fa ol oh os)) :=
  PE.imp (pe_step ha hl hu hs) fun σ H Q h => Tm.bind (k := fun env x s => (ol env s).bind fun l s => (oh env s).bind fun u s => (os env s).bind fun t s => R.of (dStep x l u t s)) h fun m1 H1 env x v s1 r1 E1 p1 g1 =>
    ⟨m1, env, s1, r1, E1, G.bind g1 fun m2 H2 l l' s2 l2 r2 p2 g2 => ⟨m2, env, s2, r2, E1.mono l2, G.bind g2 fun m3 H3 u u' s3 l3 r3 p3 g3 => ⟨m3, env, s3, r3, (E1.mono l2).mono l3, G.bind g3 fun m4 H4 t t' s4 l4 r4 p4 g4 => by
      cases (show l = l' from p2); cases (show u = u' from p3); cases (show t = t' from p4)
      have p := ((p1.mono l2).mono l3).mono l4
      unfold dStep at g4
      cases e : lstOf s4 x with
      | none => rw [e] at g4; exact g4.elim
      | some xs =>
        rw [e, Option.bind_some] at g4
        obtain ⟨b, vs, rfl, hq, rr⟩ := lstOf_sq r4 p e
        by_cases hz : t ≠ some 0 ∧ (permL (stepIs l u t xs.length) xs).length ≤ sizeLine
        · rw [if_pos hz] at g4
          have el : vs.length = xs.length := rr.length.symm
          have rp := reps_perm rr (stepIs l u t xs.length)
          refine ⟨b, vs, rfl, hq, hz.1, by rw [el, ← rp.length]; exact hz.2, fun q hq' => ?_⟩
          rw [el]
          exact g4 (m4 ++ [q]) _ _ (le_more r4 hq') (rel_newlist r4 hq' rp) (.loc (len_get r4))
        · rw [if_neg hz] at g4
          exact g4.elim⟩⟩⟩
end
/-! ### dict(zip(a, b)), two lists -/
def tDictZip (K : PySem.W.Frag) (ta : TA) : TE := fun σ H Q => ta σ H fun vs H1 => ∃ (a b : Addr) (ks : List Key) (xs : List V), vs = [.ref a, .ref b] ∧ SqL K H1 a (ks.map kV) ∧ SqL K H1 b xs ∧ ks.length = xs.length ∧ ∀ p, H1 p = none → Q (.ref p) (upd H1 p (.dK (mergeK [] (ks.zip xs))))
theorem kv_zip {P : Program} {w : World} : ∀ {ks : List Key} {xs : List V} {us ws : List Value}, Vals (ks.map kV) us → Vals xs ws → ks.length = xs.length →
    ∃ prs : List (Key × Value), KV (ks.zip xs) prs ∧ prs.length = ks.length ∧ ∀ (i : Nat) (k v : Value), us[i]? = some k → ws[i]? = some v → ∃ q, prs[i]? = some (q, v) ∧ (mixKind P w).is q k = true
  | [], _, us, ws, r, r2, e => by
    cases r
    exact ⟨[], .nil, rfl, fun i k v h => by simp at h⟩
  | k :: ks, [], _, _, _, _, e => by cases e
  | k :: ks, x :: xs, us, ws, r, r2, e => by
    rw [List.map_cons] at r
    cases r with
    | cons h t =>
      cases r2 with
      | cons h2 t2 =>
        rename_i u us' w' ws'
        obtain ⟨prs, q1, q2, q3⟩ := kv_zip (P := P) (w := w) t t2 (by simpa using e)
        refine ⟨(k, w') :: prs, .cons ⟨rfl, h2⟩ q1, by simp [q2], fun i k' v h1 h3 => ?_⟩
        cases i with
        | zero =>
          simp at h1 h3
          subst h1; subst h3
          exact ⟨k, rfl, kV_is (P := P) (w := w) h⟩
        | succ i => exact q3 i k' v (by simpa using h1) (by simpa using h3)
theorem pe_dictZip {X : Cx} {e e2 : Expr} {ta : TA} {p p2 pos q : Pos} (hg : Gl X "dict") (hm : X.mg "dict" = none) (hg2 : Gl X "zip") (hm2 : X.mg "zip" = none) (ha : PA X [e, e2] ta) (hc : X.calm = true := by rfl)
    (na : starEach [Expr.Call (.Name "zip" p2) [e, e2] [] q] X.env = (false, eval (Expr.Call (.Name "zip" p2) [e, e2] [] q) X.env) :: starEach [] X.env := by rfl)
    (hs : starEach [e, e2] X.env = (false, eval e X.env) :: starEach [e2] X.env := by rfl) (hpl : (backTo q (starEach [e2] X.env)).any (·.1) = false := by rfl) :
    PE X (.Call (.Name "dict" p) [.Call (.Name "zip" p2) [e, e2] [] q] [] pos) (tDictZip X.K ta) := by
  refine ⟨fun pins s σ H Q I h => ?_⟩
  refine Call_ (ld_blt I hg hm PyProof.Rows.boot_dict ?_)
  refine PyProof.Rows.callWith_type1 (PyProof.Rows.args_cons ?_ na) na rfl
  refine Call_ (ld_blt I hg2 hm2 PyProof.Rows.boot_zip (PyProof.Rows.callWith_type1 (thn (ha.run q pins s σ H _ I h) fun us s1 ⟨vs, H1, I1, r1, q1⟩ => ?_) hs hpl))
  obtain ⟨a, b, ks, xs, ex, hqx, hqy, hlen, q1⟩ := q1
  subst ex
  cases r1 with
  | cons r rr =>
    cases rr with
    | cons r' rr =>
      cases rr
      cases r
      cases r'
      obtain ⟨its, rv, p1, hz1⟩ := I1.list hqx
      obtain ⟨its2, rv2, p2', _⟩ := I1.list hqy
      refine call_zip_2 p1.isList p2'.isList fun h' hz hTI hTO h1 h2 hsz hk => ?_
      refine PyProof.Rows.args_nil ?_
      have I2 : Inv X pins σ H1 { s1 with heap := h' } := I1.kept (t' := s1.toks) hk
      obtain ⟨prs, d1, d2, d3⟩ := kv_zip (P := X.prog) (w := X.w) rv rv2 hlen
      have l1 : its.length = ks.length := by rw [← rv.length, List.length_map]
      have l2 : its2.length = ks.length := by rw [← rv2.length, hlen]
      have D := PySem.W.ktu_apart s1.heap.objs.size a b p1.lt p2'.lt
      refine PySem.call_dict_pairs (s := { s1 with heap := h' }) (knd := mixKind X.prog X.w) (kvs := prs) (PySem.PairArg.zip (s1.heap.objs.size + 4) (s1.heap.objs.size + 2) (s1.heap.objs.size + 3) s1.heap.objs.size (s1.heap.objs.size + 1) a b D its.toArray its2.toArray) (I2.ok.hd hc)
        ⟨hz, hTI, ⟨_, _, hTO⟩, h1, h2, p1.isList.at fun o e => hk _ _ e, p2'.isList.at fun o e => hk _ _ e⟩ ⟨?_, ?_⟩ ?_ ?_
      · simp [l1, l2, d2]
      · intro i key v ⟨e1, e2⟩
        exact d3 i key v (by simpa using e1) (by simpa using e2)
      · simp only [List.size_toArray, l1, l2, Nat.min_self]
        rw [← List.length_map (as := ks) (f := kV)]; exact hz1
      · intro h'' tk hd' hk2
        have k2 : ∀ b o, s1.heap.get? b = some o → h''.get? b = some o := fun b o e => by
          refine hk2 b o (fun z => ?_) (hk b o e)
          have lt := Heap.lt_size e
          simp only [List.mem_cons, List.not_mem_nil, or_false] at z
          rcases z with z | z | z | z
          · exact Nat.not_lt.mpr (Nat.le_add_right _ _) (z ▸ lt)
          · exact Nat.not_lt.mpr (Nat.le_add_right _ _) (z ▸ lt)
          · exact Nat.lt_irrefl _ (z ▸ lt)
          · exact Nat.not_lt.mpr (Nat.le_add_right _ _) (z ▸ lt)
        have hb : (h'.objs.size == sysModules) = false := beq_eq_false_iff_ne.mpr (Nat.ne_of_gt I2.big)
        have hle : (mergeK [] (ks.zip xs)).length ≤ sizeLine := by
          refine Nat.le_trans (length_mergeK _ []) ?_
          rw [List.length_nil, Nat.zero_add, List.length_zip, ← hlen, Nat.min_self, ← List.length_map (as := ks) (f := kV)]
          exact hz1
        have sz : s1.heap.objs.size ≤ h'.objs.size := by omega
        exact ⟨.ref h'.objs.size, upd H1 h'.objs.size (.dK (mergeK [] (ks.zip xs))), I1.laid (t' := tk) k2 sz (show ObjOk X.prog X.w _ _ _ (.dK (mergeK [] (ks.zip xs))) from ⟨hle, hb, merged [] prs, KV.merge d1 .nil, hd'⟩), rfl, q1 _ (I1.hok.fresh sz)⟩
def keysZ : List D → Option (List Key)
  | [] => some []
  | d :: ds => (keyOf d).bind fun k => (keysZ ds).map fun ks => k :: ks
def mergeD (acc : List (Key × D)) (more : List (Key × D)) : List (Key × D) := more.foldl (fun acc kv => putD acc kv.1 kv.2) acc
def dDictZip (ds : List D) (s : Store) : Option (D × Store) := match ds with
  | [x, y] => (lstOf s x).bind fun xs => (lstOf s y).bind fun ys => (keysZ xs).bind fun ks => if ks.length = ys.length then some (.loc s.length, s ++ [.dic (mergeD [] (ks.zip ys))]) else none
  | _ => none
section
variable {K : PySem.W.Frag} {m : List Addr} {H : Hp}
theorem keysZ_rep : ∀ {ds : List D} {vs : List V} {ks : List Key}, Reps K m H ds vs → keysZ ds = some ks → vs = ks.map kV
  | [], _, _, .nil, e => by cases e; rfl
  | d :: ds, _, ks, .cons h t, e => by
    unfold keysZ at e
    cases q : keyOf d with
    | none => rw [q] at e; cases e
    | some k =>
      rw [q, Option.bind_some] at e
      cases q2 : keysZ ds with
      | none => rw [q2] at e; cases e
      | some ks2 =>
        rw [q2] at e
        cases e
        rw [keyOf_rep h q, keysZ_rep t q2, List.map_cons]
theorem repk_zip : ∀ {ks : List Key} {ys : List D} {vs : List V}, Reps K m H ys vs → RepK K m H (ks.zip ys) (ks.zip vs)
  | [], _, _, _ => .nil
  | k :: ks, _, _, .nil => by rw [List.zip_nil_right, List.zip_nil_right]; exact .nil
  | k :: ks, _, _, .cons h t => by rw [List.zip_cons_cons, List.zip_cons_cons]; exact .cons h (repk_zip t)
theorem repk_merge {more : List (Key × D)} {moreV : List (Key × V)} (h : RepK K m H more moreV) : ∀ {acc : List (Key × D)} {accV : List (Key × V)}, RepK K m H acc accV → RepK K m H (mergeD acc more) (mergeK accV moreV) := by
  induction h with
  | nil => exact fun r => r
  | @cons k x v xs vs h t ih =>
    intro acc accV r
    exact ih (repk_put (k := k) r h)
end
section
variable {X : Cx} {W : WX} {pos p p2 q : Pos} {e e2 : Expr} {fs : ME (List D)}
theorem ce_dictZip (hc : X.calm = true) (hg : Gl X "dict") (hm : X.mg "dict" = none) (hg2 : Gl X "zip") (hm2 : X.mg "zip" = none) (ha : PA X [e, e2] (Ta X.K X.mg W fs))
    (na : starEach [Expr.Call (.Name "zip" p2) [e, e2] [] q] X.env = (false, eval (Expr.Call (.Name "zip" p2) [e, e2] [] q) X.env) :: starEach [] X.env := by rfl)
    (hs : starEach [e, e2] X.env = (false, eval e X.env) :: starEach [e2] X.env := by rfl) (hpl : (backTo q (starEach [e2] X.env)).any (·.1) = false := by rfl) :
    PE X (.Call (.Name "dict" p) [.Call (.Name "zip" p2) [e, e2] [] q] [] pos) (Te X.K X.mg W (eFn dDictZip fs)) :=
  PE.imp (pe_dictZip hg hm hg2 hm2 ha hc na hs hpl) fun σ H Q h => Tm.bind (k := fun env xs s => R.of (dDictZip xs s)) h fun m1 H1 env ds vs s1 r1 E1 p1 g1 => by
    unfold dDictZip at g1
    split at g1
    · rename_i x y
      obtain ⟨v, w, rfl, px, py⟩ := reps2 p1
      cases q1 : lstOf s1 x with
      | none => rw [q1] at g1; exact g1.elim
      | some xs =>
        cases q2 : lstOf s1 y with
        | none => rw [q1, Option.bind_some, q2] at g1; exact g1.elim
        | some ys =>
          cases q3 : keysZ xs with
          | none => rw [q1, Option.bind_some, q2, Option.bind_some, q3] at g1; exact g1.elim
          | some ks =>
            rw [q1, Option.bind_some, q2, Option.bind_some, q3, Option.bind_some] at g1
            by_cases hl : ks.length = ys.length
            · rw [if_pos hl] at g1
              obtain ⟨a, vx, rfl, h1, rx⟩ := lstOf_sq r1 px q1
              obtain ⟨b, vy, rfl, h2, ry⟩ := lstOf_sq r1 py q2
              have ev := keysZ_rep rx q3
              subst ev
              refine ⟨a, b, ks, vy, rfl, h1, h2, by rw [hl, ry.length], fun q hq => ?_⟩
              have rk : RepK X.K m1 H1 (mergeD [] (ks.zip ys)) (mergeK [] (ks.zip vy)) := repk_merge (repk_zip ry) .nil
              exact g1 (m1 ++ [q]) _ _ (le_more r1 hq) (r1.new hq ⟨_, upd_same, rk.mono (le_more r1 hq)⟩) (.loc (len_get r1))
            · rw [if_neg hl] at g1
              exact g1.elim
    · exact g1.elim
end
/-! ### f(k = e, ..) of keywords alone -/
def KBi (K : PySem.W.Frag) (fd : FuncData) (ps ks : List Str) (is : List Nat) : Prop := ∀ (s : Shared) (ws : List Value), K.In s.heap → ws.length = ks.length → BindsTo s fd ⟨[], ks.zip ws⟩ (ps.zip (permL is ws))
theorem kbi {K : PySem.W.Frag} {x qual : Str} {st : Stmt} {f : Addr} {fd : FuncData} {ps ks : List Str} {is : List Nat} (F : Fun K x qual st f fd)
    (h : ∀ (kV doc pm : Value) (an : Option Addr) (cdv ct : Value) (ws : List Value), ws.length = ks.length → bindArgs (PySem.W.fnOf x qual (defArgs st) (defBody st) (defScope st) .none kV doc pm an cdv ct) ⟨[], ks.zip ws⟩ = pure (ps.zip (permL is ws))) : KBi K fd ps ks is := by
  obtain ⟨oc, od, kV, doc, pm, an, cdv, ct, osl, rfl, lk, hcd⟩ := F.ex
  exact fun s ws _ hl => .of_eq (h kV doc pm an cdv ct ws hl)
def tCallKw (n : Nat) (is : List Nat) (sp : Sp) (E : L2.St → XK) (t : TA) : TE := fun σ H Q => t σ H fun zs H1 => zs.length = n ∧ sp (permL is zs) H1 Q (E σ)
section
variable {X : Cx} {CX : CXT} {k : Nat} {f : Addr} {fd : FuncData} {ps ks : List Str} {sp : Sp} {E : L2.St → XK} {x : Str} {p pos : Pos} {kws : List Keyword} {t : TA} {is : List Nat}
theorem run_fnKw {pins : List (Addr × Obj)} {σ : L2.St} {H : Hp} {s : Shared} {Q : VK} {ws : List Value} {zs : List V} (F : FnOk X.prog X.w X.K X.mg X.base CX k f fd ps sp) (hr : Room k X.A) (hb : KBi X.K fd ps ks is) (hx : PassesAt CX X σ (E σ))
    (I : Inv X pins σ H s) (r : Vals zs ws) (hl : zs.length = ks.length) (h : sp (permL is zs) H Q (E σ)) : wpAny (model X.prog X.w) X.A (call (.ref f) [] (ks.zip ws)) (EP X pins σ Q) X.xe s := by
  refine wpAny_call (codeAny_mono (F.run X.A X.stack s H ⟨[], ks.zip ws⟩ (permL is ws) (permL is zs) Q (E σ) hr I.env0 (hb s ws I.kIn (by rw [← r.length]; exact hl)) (vals_perm r is) h) fun r s' hq => ?_)
  cases r with
  | error e => exact hx pins H s e s' I hq
  | ok fl =>
    cases fl with
    | ret u => exact I.after hq
    | next => exact False.elim hq
    | brk => exact False.elim hq
    | cont => exact False.elim hq
theorem pe_callKw (F : FnOk X.prog X.w X.K X.mg X.base CX k f fd ps sp) (hr : Room k X.A) (hg : Gl X x) (hm : X.mg x = some (.ref f)) (hk : PySem.W.keepIn X.K (.ref f) = true) (hb : KBi X.K fd ps ks is) (hx : ∀ σ, PassesAt CX X σ (E σ))
    (hkw : PK X kws t) (hall : (backToKw pos (keywordEach kws X.env)).all (·.1.isSome) = true := by rfl) (hks : (backToKw pos (keywordEach kws X.env)).filterMap (·.1) = ks := by rfl)
    (hdb : (x == ("__debug__" : Str)) = false := by decide)
    (hpl : ((backTo pos (starEach [] X.env)).any (·.1) || (backToKw pos (keywordEach kws X.env)).any (·.1.isNone)) = false := by rfl) :
    PE X (.Call (.Name x p) [] kws pos) (tCallKw ks.length is sp E t) := by
  refine ⟨fun pins s σ H Q I h => ?_⟩
  refine wpAny_Call_Name_kw (ld_glob I hg hm ?_ hdb)
  refine PySem.W.callWith_KW0 (h₀ := X.base) I.ok.mod.kin hk hall (thn (hkw.run pos pins s σ H _ I h) fun ws s2 ⟨zs, H2, I2, rz, hl, q2⟩ => ⟨I2.kIn, ?_⟩) hpl
  rw [hks]
  exact run_fnKw F hr hb (hx σ) I2 rz hl q2
end
theorem PK.imp {X : Cx} {kws : List Keyword} {t t' : TA} (h : PK X kws t) (q : ∀ σ H Q, t' σ H Q → t σ H Q) : PK X kws t' := ⟨fun pos pins s σ H Q I h' => h.run pos pins s σ H Q I (q σ H Q h')⟩
section
variable {X : Cx} {W : WX} {pos kpos : Pos} {e : Expr} {fa : ME D} {fs : ME (List D)} {nm : Option Str} {kws : List Keyword}
theorem ck_nil : PK X [] (Ta X.K X.mg W aNil) := PK.imp pk_nil fun σ H Q ⟨m, env, s, r, E, g⟩ => g m H [] .refl r .nil
theorem ck_cons (ha : PE X e (Te X.K X.mg W fa)) (hr : PK X kws (Ta X.K X.mg W fs)) : PK X (⟨nm, e, kpos⟩ :: kws) (Ta X.K X.mg W (aCons fa fs)) :=
  PK.imp (pk_cons ha hr) fun σ H Q h => Tm.bind (k := fun env x s => (fs env s).bind fun xs s => R.ok (x :: xs) s) h fun m1 H1 env x v s1 r1 E1 p1 g1 =>
    ⟨m1, env, s1, r1, E1, G.bind g1 fun m2 H2 xs vs s2 l2 r2 p2 g2 => g2 m2 H2 _ .refl r2 (.cons (p1.mono l2) p2)⟩
noncomputable def eCallKw (is : List Nat) (g : List D → Store → R D) (a : ME (List D)) : ME D := fun env s => (a env s).bind fun xs s => g (permL is xs) s
theorem ce_callKw {k n : Nat} {f : Addr} {fd : FuncData} {ps ks : List Str} {x : Str} {p : Pos} {is : List Nat} {g : List D → Store → R D} (F : FnOk X.prog X.w X.K X.mg X.base (L2.CX X.prog X.w) k f fd ps (spM X.K X.mg n g)) (hr : Room k X.A) (tk : Takes X W) (hg : Gl X x) (hm : X.mg x = some (.ref f)) (hk : PySem.W.keepIn X.K (.ref f) = true) (hb : KBi X.K fd ps ks is)
    (hn : ∀ xs s env, ∀ s', fs env s = .ok xs s' → xs.length = ks.length) (hp : ∀ vs : List V, vs.length = ks.length → (permL is vs).length = n) (hkw : PK X kws (Ta X.K X.mg W fs)) (hdb : (x == ("__debug__" : Str)) = false := by decide)
    (hall : (backToKw pos (keywordEach kws X.env)).all (·.1.isSome) = true := by rfl) (hks : (backToKw pos (keywordEach kws X.env)).filterMap (·.1) = ks := by rfl)
    (hpl : ((backTo pos (starEach [] X.env)).any (·.1) || (backToKw pos (keywordEach kws X.env)).any (·.1.isNone)) = false := by rfl) :
    PE X (.Call (.Name x p) [] kws pos) (Te X.K X.mg W (eCallKw is g fs)) :=
  PE.imp (pe_callKw (E := WE W) F hr hg hm hk hb (fun σ => passAt tk σ) hkw hall hks hdb hpl) fun σ H Q h => by
    obtain ⟨m, env, s, r, E, g0⟩ := h
    refine ⟨m, env, s, r, E, ?_⟩
    unfold eCallKw at g0
    cases hf : fs env s with
    | ok xs s1 =>
      rw [hf] at g0
      intro m1 H1 vs l1 r1 p1
      have hl : vs.length = ks.length := by rw [← p1.length]; exact hn xs s env s1 hf
      refine ⟨hl, hp vs hl, m1, s1, permL is xs, r1, reps_perm p1 is, ?_⟩
      have g1 : G X.K X.mg (Rep X.K) W σ m H Q (g (permL is xs) s1) := g0
      have g2 := g1.mono l1
      cases hgx : g (permL is xs) s1 with
      | ok a s2 => rw [hgx] at g2; exact g2
      | ex x2 s2 => rw [hgx] at g2; exact g2
      | no => rw [hgx] at g2; exact g2
    | ex x s1 => rw [hf] at g0; exact g0
    | no => rw [hf] at g0; exact g0.elim
end
/-! ### z * k, a text -/
def repS (z : Str) (k : Int) : Str := ⟨(List.replicate k.toNat z.cps.toList).flatten.toArray⟩
theorem foldl_repS (its : List Nat) : ∀ (k : Nat) (acc : List Nat), List.foldl (fun x1 x2 => x1 ++ x2) acc.toArray (List.replicate k its.toArray) = (acc ++ (List.replicate k its).flatten).toArray
  | 0, acc => by simp
  | k + 1, acc => by
    rw [List.replicate_succ, List.foldl_cons, List.append_toArray, foldl_repS its k (acc ++ its), List.replicate_succ, List.flatten_cons, List.append_assoc]
theorem repS_length (z : Str) (k : Int) : (repS z k).length = k.toNat * z.length := by
  show (List.replicate k.toNat z.cps.toList).flatten.toArray.size = k.toNat * z.cps.size
  simp
def rMulS : R2 := fun x y H Q => ∃ (z : Str) (k : Int), x = .str z ∧ y = .int k ∧ 0 ≤ k ∧ k ≤ 1000000 ∧ z.length * k.toNat ≤ 1000000 ∧ Q (.str (repS z k)) H
theorem op_mulS {X : Cx} : OpR X (binaryOp .Mult) rMulS := by
  intro pins s σ H x y v u Q I rx ry h
  obtain ⟨z, k, rfl, rfl, h0, h1, hz, q⟩ := h
  obtain ⟨t, rfl⟩ := rx
  obtain ⟨t2, rfl⟩ := ry
  have hl : z.length * k.toNat ≤ sizeLine := le_line hz
  have tl : Builtin.Str.tooLong (z.length * k.toNat) = false := by
    unfold Builtin.Str.tooLong
    exact decide_eq_false (Nat.not_lt.mpr hl)
  refine PySem.P.mul_str ?_ (fun hn hk => ?_) (fun _ _ => tl) ?_
  · rw [decide_eq_false (by omega), decide_eq_false (by omega)]; rfl
  · have hk2 : (0 : Int) < k := by omega
    have e : ((2 : Int) ^ 63 - 1) / k ≥ z.length := by
      refine (Int.le_ediv_iff_mul_le hk2).mpr ?_
      have : (z.length : Int) * k ≤ 1000000 := by
        have e2 : ((z.length * k.toNat : Nat) : Int) = (z.length : Int) * k := by
          rw [Int.natCast_mul, Int.toNat_of_nonneg h0]
        rw [← e2]; omega
      omega
    omega
  · split
    · rename_i hn
      have : k = 0 := by omega
      subst this
      exact ⟨by decide, .str (repS z 0), H, I.tok _, ⟨_, rfl⟩, q⟩
    · rename_i hn
      split
      · rename_i hk
        refine ⟨.str (repS z k), H, I, ⟨t, ?_⟩, q⟩
        have : k = 1 ∨ z.length = 0 := by simpa using hk
        have e : repS z k = z := by
          rcases this with rfl | h
          · simp [repS]
          · obtain ⟨c⟩ := z
            have : c = #[] := by simpa [Str.length] using h
            subst this
            simp [repS]
        rw [e]
      · have e : (⟨(List.replicate k.toNat z.cps).foldl (· ++ ·) #[]⟩ : Str) = repS z k := by
          have := foldl_repS z.cps.toList k.toNat []
          unfold repS
          congr 1
        rw [e]
        refine ⟨?_, .str (repS z k), H, I.tok _, ⟨_, rfl⟩, q⟩
        rw [repS_length, Nat.mul_comm]
        exact hl
noncomputable def dMulS (x y : D) (s : Store) : Option (D × Store) := match x, y with
  | .str z, .int k => if 0 ≤ k ∧ k ≤ 1000000 ∧ z.length * k.toNat ≤ 1000000 then some (.str (repS z k), s) else none
  | _, _ => none
theorem ops_mulS {K : PySem.W.Frag} : OpS K rMulS dMulS := by
  intro mg W σ m H s x y dx dy Q r px py g
  unfold dMulS at g
  split at g
  · rename_i z k
    cases px; cases py
    split at g
    · rename_i hz
      exact ⟨z, k, rfl, rfl, hz.1, hz.2.1, hz.2.2, g.now r (.str _)⟩
    · exact g.elim
  · exact g.elim
theorem dMulS_str {z : Str} {k : Int} (h0 : 0 ≤ k) (h1 : k ≤ 1000000) (hz : z.length * k.toNat ≤ 1000000) (s : Store) : dMulS (.str z) (.int k) s = some (.str (repS z k), s) := if_pos ⟨h0, h1, hz⟩
end Mi
namespace Mi
open PySem PySem.Spec PyProof.Rows L2
/-! ### try: body except x as n: suite except ..: all that the body raises is x's -/
def wAsR (K : PySem.W.Frag) (c : Value) (i : Nat) (ts : Addr → Value → Option Addr → TS) (D : Ends) : WX := fun cls d σ H => PySem.W.exmOne K cls c = some true ∧
  ∀ a, H a = none → ts a cls d { nx := fun σ' H' => D.nx (σ'.set i none) H', rt := D.rt, bk := fun σ' H' => D.bk (σ'.set i none) H', ct := fun σ' H' => D.ct (σ'.set i none) H' } (σ.set i (some (.ref a))) H
section
variable {X : Cx} {x n : Str} {c : Value} {i : Nat} {body suite : List Stmt} {b₀ : Stmt} {rest : List ExceptHandler} {np pos pos' : Pos} {tb : WX → TS} {ts : Addr → Value → Option Addr → TS}
theorem ps_asR (stk : X.stack = X.env :: X.outer) (frm : X.env.frame = some X.env.locals) (nod : X.N.Nodup) (slot : X.N[i]? = some n) (loc : X.env.kindOf n = some .local) (nam : Names X x c)
    (run : ∀ (W : WX) (q : List (Addr × Obj)) (z : Value → Shared → Prop), Takes (X.tr q z) W → PassesOwn (model X.prog X.w) X.A X.env z → PSs (X.tr q z) body (tb W))
    (sui : ∀ (a : Addr) (oe : Obj) (cls : Value) (d : Option Addr) (q : List (Addr × Obj)), Zc cls d oe → (∃ vs, oe.data = .fields vs) → PSs (X.suite a ((a, oe) :: q)) (b₀ :: suite) (ts a cls d)) :
    PS X (.Try body (.ExceptHandler (some (.Name x np)) (some n) (b₀ :: suite) pos' :: rest) [] [] pos) (fun D σ H => tb (wAsR X.K c i ts D) D σ H) := by
  constructor
  intro pins st τ G Dn J0 told
  have okk := J0.ok
  have fr2 : X.A.frames = some (X.env :: X.outer) := by rw [okk.frames, stk]
  have isl : Loc X.env.scope n := .inl loc
  refine wpAny_Try_except (wpAny_mono ((run (wAsR X.K c i ts Dn) (X.pn ++ pins) (fun e s₁ => wpAny (model X.prog X.w) X.A (noteFrame e X.env) (fun _ s₂ => wpAny (model X.prog X.w) X.A (setFlight e none) (fun _ s₃ =>
    wpAny (model X.prog X.w) X.A (handleBy e X.env (.ExceptHandler (some (.Name x np)) (some n) (b₀ :: suite) pos' :: rest)) (SP X pins Dn) X.xe s₃) X.xe s₂) X.xe s₁) (fun u s' caught => ?_) PassesOwn.looking).run [] st τ G Dn (J0.toTry _) told) (fun f s1 ended => ?_) (fun e s1 z => z))
  · obtain ⟨a, B, sI, pins', τ', G', cls, d, rfl, K', nb, up, sky, na, os, ag, hb1, yes⟩ := caught
    have K1 : Inv X pins τ' G' sI := K'.ofTry okk
    have sky2 : Sky B (X.env :: X.outer) a (Zc cls d) X.env.locals s'.heap := by rw [← stk]; exact sky
    show wpAny (model X.prog X.w) X.A (noteFrame (.ref a) X.env) _ _ _
    refine Sky.land Zc.steady fr2 frm sky2 fun h3 fl3 up3 => ?_
    have K3 : Inv X pins τ' G' { s' with heap := h3 } := K1.landed nb fl3.1 (up.trans up3) os ag
    obtain ⟨oe3, vs3, he3, hz3, hd3⟩ := fl3.there
    have away : a ∉ frs (X.env :: X.outer) := by
      intro hm
      obtain ⟨_, o', e', hnf⟩ := fl3.2.2.1.mem hm
      rw [he3] at e'
      cases e'
      exact hnf _ hd3
    have nL : a ≠ X.env.locals := fun z => away (List.mem_filterMap.mpr ⟨X.env, List.mem_cons_self, by rw [frm, z]⟩)
    have nF : a ∉ X.fs := by
      intro hm
      obtain ⟨e, he, q⟩ := List.mem_filterMap.mp hm
      exact away (List.mem_filterMap.mpr ⟨e, List.mem_cons_of_mem _ he, q⟩)
    have S3 := K3.suite he3 hd3 na nL nF
    refine wpAny_handleBy_cons (codeAny_handlers_test ?_) (by intro q; cases q)
    have lookT : PySem.W.Looks (model X.prog X.w) h3 (typeOf (.ref a)) cls := fun A Q E s k q => wpAny_typeOf_ref (k _ _ he3) (by rw [hz3.1]; exact q)
    have lookM := PySem.W.exm_one (M := model X.prog X.w) K3.kIn lookT hb1
    have asks : ∀ {Q E : Value → Shared → Prop}, Q c { s' with heap := h3 } → wpAny (model X.prog X.w) (X.A.mark (some (.ref a))) (eval (.Name x np) X.env) Q E { s' with heap := h3 } := by
      intro Q E q
      obtain ⟨hg, hdbg, hm | ⟨hm, hv, hnn⟩⟩ := nam
      · exact ld_glob (X := X.suite a ((a, oe3) :: (X.pn ++ pins))) S3 hg hm q hdbg
      · exact ld_blt (X := X.suite a ((a, oe3) :: (X.pn ++ pins))) S3 hg hm hv q hnn hdbg
    refine asks (lookM.here ?_)
    refine codeAny_handlers_suite_as (HandSPX.lands_againZ fl3 fun h4 fl4 up4 => ?_)
    have K4 : Inv X pins τ' G' { s' with heap := h4 } := K1.landed nb fl4.1 ((up.trans up3).trans up4) os ag
    obtain ⟨oe4, vs4, he4, hz4, hd4⟩ := fl4.there
    have S4 := K4.suite he4 hd4 na nL nF
    refine store_ok (X := X.suite a ((a, oe4) :: (X.pn ++ pins))) (v := .ref a) S4 nod slot isl rfl (fun s5 S5 => ?_) (.inr loc)
    refine wpAny_mono ((sui a oe4 cls d (X.pn ++ pins) hz4 ⟨_, hd4⟩).run [] s5 _ G' _ S5 (yes a na)) (fun f s6 ended => ?_) (fun _ _ z => False.elim z)
    have quit : ∀ {τ6 : L2.St} {G6 : Hp} {Q : Shared → Prop}, Inv (X.suite a ((a, oe4) :: (X.pn ++ pins))) [] τ6 G6 s6 → (∀ s7, Inv X pins (τ6.set i none) G6 s7 → Q s7) →
        wpAny (model X.prog X.w) X.A (do bindName X.env n .none; unbindBehindTheSuite X.env n pos') (fun _ s7 => Q s7) X.xe s6 := fun {τ6 G6 Q} S6 hq => gone_ok (S6.unsuite okk) nod slot loc hq
    cases f with
    | next => obtain ⟨τ6, G6, S6, q6⟩ := ended; exact quit S6 fun s7 J7 => ⟨_, _, J7, q6⟩
    | brk => obtain ⟨τ6, G6, S6, q6⟩ := ended; exact quit S6 fun s7 J7 => ⟨_, _, J7, q6⟩
    | cont => obtain ⟨τ6, G6, S6, q6⟩ := ended; exact quit S6 fun s7 J7 => ⟨_, _, J7, q6⟩
    | ret u => obtain ⟨v6, τ6, G6, S6, r6, q6⟩ := ended; exact quit S6 fun s7 J7 => ⟨_, _, _, J7, r6, q6⟩
  · cases f with
    | next => obtain ⟨τ', G', J', q⟩ := ended; exact wpAny_execs_nil ⟨τ', G', J'.ofTry okk, q⟩
    | brk => obtain ⟨τ', G', J', q⟩ := ended; exact ⟨τ', G', J'.ofTry okk, q⟩
    | cont => obtain ⟨τ', G', J', q⟩ := ended; exact ⟨τ', G', J'.ofTry okk, q⟩
    | ret u => obtain ⟨v, τ', G', J', r, q⟩ := ended; exact ⟨v, τ', G', J'.ofTry okk, r, q⟩
end
section
variable {X : Cx} {W : WX} {x n : Str} {c : Value} {i : Nat} {body suite : List Stmt} {b₀ : Stmt} {rest : List ExceptHandler} {np pos pos' : Pos} {fb : MS} {fs : Nat × Nat → MS} {cs : List Str}
theorem cs_tryAsR (hs : X.stack = X.env :: X.outer) (hf : X.env.frame = some X.env.locals) (hN : X.N.Nodup) (hi : X.N[i]? = some n) (hln : X.env.kindOf n = some .local) (hc : Names X x c)
    (hcs : ∀ k ∈ cs, ∀ cls, X.mg k = some cls → PySem.W.exmOne X.K cls c = some true)
    (hb : ∀ (W : WX) (pn : List (Addr × Obj)) (xe : Value → Shared → Prop), Takes (X.tr pn xe) W → PSs (X.tr pn xe) body (Ts X.K X.mg W fb))
    (hsu : ∀ (a : Addr) (oe : Obj) (cls : Value) (d : Option Addr) (pn : List (Addr × Obj)) (g : Nat × Nat) (k : Str), Zc cls d oe → (∃ vs, oe.data = .fields vs) → g.1 = a → d = some g.2 → k ∈ cs → X.mg k = some cls →
      PSs (X.suite a ((a, oe) :: pn)) (b₀ :: suite) (Ts X.K X.mg (fun _ _ _ _ => False) (fs g))) :
    PS X (.Try body (.ExceptHandler (some (.Name x np)) (some n) (b₀ :: suite) pos' :: rest) [] [] pos) (Ts X.K X.mg W (sTryAs i cs fb fs)) :=
  PS.imp (ps_asR (i := i) (tb := fun W => Ts X.K X.mg W fb) (ts := fun a cls d => fun Dn σ H => ∃ (g : Nat × Nat) (k : Str), g.1 = a ∧ d = some g.2 ∧ k ∈ cs ∧ X.mg k = some cls ∧ Ts X.K X.mg (fun _ _ _ _ => False) (fs g) Dn σ H) hs hf hN hi hln hc
    (fun W pn xe tk _ => hb W pn xe tk) (fun a oe cls d pn hz hf => ⟨fun pins s σ H Dn I ⟨g, k, h1, h2, h3, h4, h⟩ => (hsu a oe cls d pn g k hz hf h1 h2 h3 h4).run pins s σ H Dn I h⟩)) fun Dn σ H ⟨m, env, s, r, E, q⟩ => by
    refine ⟨m, env, s, r, E, ?_⟩
    unfold sTryAs at q
    cases e : fb env s with
    | ex ex env2 s2 =>
      rw [e] at q
      simp only at q
      split at q
      · rename_i hh
        obtain ⟨h1, h2, h3⟩ := hh
        intro m' σ' H' cv dd l r' E' xr
        obtain ⟨gk, hx⟩ := xr
        rcases hx with ⟨z, _⟩ | ⟨da, vfs, ed, hd, nd, rf⟩
        · exact (h2 z).elim
        · refine ⟨hcs _ h1 _ gk, fun a ha => ⟨(a, da), ex.cls, rfl, ed, h1, gk, m', _, s2, r', relE_set E' (.exv hd nd rf : Rep X.K m' H' (.exv a da ex.cls ex.fs) (.ref a)) i, ?_⟩⟩
          rw [← h3 (a, da)] at q
          exact gs_clr (GS.mono l q)
      · exact q.elim
    | nx env2 s2 => rw [e] at q; exact q
    | rt d s2 => rw [e] at q; exact q
    | bk env2 s2 => rw [e] at q; exact q
    | ct env2 s2 => rw [e] at q; exact q
    | no => rw [e] at q; exact q.elim
end
/-! ### a module's constant -/
section
variable {X : Cx} {W : WX} {pos : Pos} {x : Str}
theorem ce_globI {n : Int} (hg : Gl X x) (h : ∃ t, X.mg x = some (.int n t)) (hdb : (x == ("__debug__" : Str)) = false := by decide) : PE X (.Name x pos) (Te X.K X.mg W (eC (.int n))) := by
  obtain ⟨t, h⟩ := h
  exact PE.imp (pe_glob (v := .int n) hg h ⟨t, rfl⟩ hdb) fun σ H Q ⟨m, env, s, r, E, g⟩ => g.now r (.int n)
theorem ce_globS {z : Str} (hg : Gl X x) (h : ∃ t, X.mg x = some (.str z t)) (hdb : (x == ("__debug__" : Str)) = false := by decide) : PE X (.Name x pos) (Te X.K X.mg W (eC (.str z))) := by
  obtain ⟨t, h⟩ := h
  exact PE.imp (pe_glob (v := .str z) hg h ⟨t, rfl⟩ hdb) fun σ H Q ⟨m, env, s, r, E, g⟩ => g.now r (.str z)
end
/-! ### f() -/
section
variable {X : Cx} {CX : CXT} {k : Nat} {f : Addr} {fd : FuncData} {sp : Sp} {E : L2.St → XK} {x : Str} {p pos : Pos}
theorem pe_callS0 (F : FnOk X.prog X.w X.K X.mg X.base CX k f fd [] sp) (hr : Room k X.A) (hg : Gl X x) (hm : X.mg x = some (.ref f)) (hk : PySem.W.keepIn X.K (.ref f) = true) (hb : Binds X.K fd [] []) (hx : ∀ σ, PassesAt CX X σ (E σ))
    (hdb : (x == ("__debug__" : Str)) = false := by decide) : PE X (.Call (.Name x p) [] [] pos) (fun σ H Q => sp [] H Q (E σ)) := by
  refine ⟨fun pins s σ H Q I q => wpAny_Call_Name_kw (ld_glob I hg hm ?_ hdb)⟩
  exact PySem.W.callWith_K0 I.kIn hk (run_fnS (us := []) F hr hb (hx σ) I .nil q)
theorem ce_call0 {W : WX} {g : List D → Store → R D} (F : FnOk X.prog X.w X.K X.mg X.base (L2.CX X.prog X.w) k f fd [] (spM X.K X.mg 0 g)) (hr : Room k X.A) (tk : Takes X W) (hg : Gl X x) (hm : X.mg x = some (.ref f)) (hk : PySem.W.keepIn X.K (.ref f) = true) (hb : Binds X.K fd [] [])
    (hdb : (x == ("__debug__" : Str)) = false := by decide) : PE X (.Call (.Name x p) [] [] pos) (Te X.K X.mg W (eCall g aNil)) :=
  PE.imp (pe_callS0 (E := WE W) F hr hg hm hk hb (fun σ => passAt tk σ) hdb) fun σ H Q ⟨m, env, s, r, E, g0⟩ => by
    have g1 : G X.K X.mg (Rep X.K) W σ m H Q (g [] s) := g0
    refine ⟨rfl, m, s, [], r, .nil, ?_⟩
    cases e : g [] s with
    | ok a s2 => rw [e] at g1; exact g1
    | ex x2 s2 => rw [e] at g1; exact g1
    | no => rw [e] at g1; exact g1
end
end Mi
namespace PySem.W
open PySem PySem.Spec PyProof.Rows
section
variable {prog : Program} {w : World} {A : Around} {E : Value → Shared → Prop} {s : Shared} {K : Frag} {x D : Addr} {ox : Obj} {od : Option Obj}
theorem mi_data {C : Addr} {nm : Str} {a g : Value} (q1 : (clsIn K C).isSome = true) (q2 : findIn K (.ref C) nm = some (some a)) (q3 : specialIn K a "__get__" = some (some g)) (q4 : takesIn K a = some true) : findObj K C od nm = some (.bind g a) := by
  cases e : clsIn K C with
  | none => rw [e] at q1; cases q1
  | some cd =>
    unfold findObj
    rw [e, Option.bind_some, q2, Option.bind_some]
    simp [q3, q4]
theorem mi_hasCls (q : hasDictIn K D = true) : (clsIn K D).isSome = true := by
  obtain ⟨cd, e, _⟩ := any_some q
  rw [e]
  rfl
theorem mi_excClass {Q : Option Value → Shared → Prop} (ga : findIn K (.ref D) "__getattribute__" = some (some (.builtin "BaseException.__getattribute__"))) (gg : findIn K (.ref D) "__getattr__" = some none) (sb : subIn K (.ref D) (.type "BaseException") = some true)
    (hd : hasDictIn K D = true) (fc : findIn K (.ref D) "__class__" = some (some (.builtin "object.__class__"))) (sg : specialIn K (.builtin "object.__class__") "__get__" = some (some (.builtin "getset_descriptor.__get__")))
    (tk : takesIn K (.builtin "object.__class__") = some true) (mo : mroIn K D (.type "object") = some true) (inn : K.In s.heap) (inst : InstAt s.heap x ox D od) (done : Q (some (.ref D)) { s with toks := s.toks + 1 }) :
    wpAny (model prog w) A (getAttr? (.ref x) "__class__") Q E s := by
  have found : findObj K D od "__class__" = some (.bind (.builtin "getset_descriptor.__get__") (.builtin "object.__class__")) := mi_data (mi_hasCls hd) fc sg tk
  obtain ⟨hp, gn, dr, t, os⟩ := s
  have lT := inst.type (M := model prog w)
  have lA := looks_findIn (M := model prog w) inn ga
  have lG := looks_findIn (M := model prog w) inn gg
  have lF := looks_find (M := model prog w) inn inst found
  have isE : Looks (model prog w) hp (isInstance (.ref x) (.type "BaseException")) true := lT.andThen (looks_subIn inn sb)
  have neq : (Value.builtin "BaseException.__getattribute__" == Value.builtin "object.__getattribute__") = false := by decide +kernel
  unfold getAttr? getAttrBy? getAttrBy
  refine wpAny_bind (wpAny_mkText (wpAny_bind (wpAny_attempt (wpAny_holding (wpAny_bind (lT.at (wpAny_bind (lA.at ?_))))))))
  show wpAny _ _ (if (onTheHeap (Value.ref D) && Value.builtin "BaseException.__getattribute__" == Value.builtin "object.__getattribute__") = true then _ else _) _ _ _
  rw [if_neg (by rw [neq, Bool.and_false]; exact Bool.false_ne_true)]
  unfold getAttrByItsOwn hookBefore
  refine wpAny_bind ?_
  rw [if_pos (show onTheHeap (Value.ref D) = true by rfl)]
  refine lG.at (wpAny_bind (wpAny_attempt (wpAny_holding ?_)))
  unfold callGetattribute
  rw [if_neg (show ¬ (false && onTheHeap (Value.builtin "BaseException.__getattribute__")) = true from Bool.false_ne_true)]
  unfold boundAndCalled
  rw [PySem.F.excAttr_ValueError.ga.bind (.ref x)]
  refine wpAny_bind (wpAny_pure (?_ : wpAny _ _ (call (.builtin "BaseException.__getattribute__") [.ref x, .str "__class__" t]) _ _ _))
  refine wpAny_call (codeAny_call_builtin PySem.F.excAttr_ValueError.ga.plain PySem.F.entry_bexc_ga (@check_slot (model prog w) _ _ ⟨hp, gn, dr, t + 1, os⟩ "BaseException.__getattribute__" "BaseException" "__getattribute__" (.ref x) [.str "__class__" t] [] _
    (by decide +kernel) (by decide +kernel) isE (PySem.F.args_bexc_ga (.ref x) (.str "__class__" t)) ?_))
  unfold Builtin.«object.__getattribute__»
  refine wpAny_bind (wpAny_of_eq (a := ((Value.ref x : Value), [Value.str "__class__" t])) (by first | rfl | (simp only [slotArgs]; rfl)) (wpAny_bind (wpAny_pure (wpAny_bind (lT.at (wpAny_bind (lF.at ?_)))))))
  show wpAny _ _ (holding [Value.builtin "object.__class__"] (call (.builtin "getset_descriptor.__get__") [.builtin "object.__class__", .ref x, .ref D]) >>= ret) _ _ _
  refine wpAny_bind (wpAny_holding (wpAny_call (class_get (s := ⟨hp, gn, dr, t + 1, os⟩) (ox := ox) (od := od) inn inst mo (wpAny_pure ?_))))
  show wpAny _ _ (handedOut (.ref D)) _ _ _
  rw [handedOut_of (v := .ref D) rfl]
  first
    | exact wpAny_pure (wpAny_pure done)
    | exact wpAny_pure done
    | exact wpAny_pure (wpAny_bind (wpAny_pure (wpAny_pure done)))
theorem mi_kitExc (ga : findIn K (.ref D) "__getattribute__" = some (some (.builtin "BaseException.__getattribute__"))) (gg : findIn K (.ref D) "__getattr__" = some none) (sb : subIn K (.ref D) (.type "BaseException") = some true)
    (hd : hasDictIn K D = true) (fc : findIn K (.ref D) "__class__" = some (some (.builtin "object.__class__"))) (sg : specialIn K (.builtin "object.__class__") "__get__" = some (some (.builtin "getset_descriptor.__get__")))
    (tk : takesIn K (.builtin "object.__class__") = some true) (mo : mroIn K D (.type "object") = some true) : KitX K (.ref x) (.ref D) (fun h => InstAt h x ox D od) where
  ty := fun _ _ _ q => q.type
  it := fun _ _ inn _ => by
    have q := mi_hasCls hd
    unfold clsIn at q
    split at q
    · rename_i c1 d1 e1 f1 there
      intro A1 Q1 E1 s1 k1 q1
      unfold isType loadHead
      exact wpAny_bind (wpAny_loadPart (k1 _ _ (inn _ _ there)) (wpAny_pure q1))
    · cases q
  ne := fun h tp dd its n sl inn htp => by
    have q := mi_hasCls hd
    refine Bool.eq_false_iff.mpr fun z => ?_
    obtain rfl : D = tp := Value.ref.inj (beq_iff_eq.mp z)
    unfold clsIn at q
    split at q
    · rename_i c1 d1 e1 f1 there
      have := (inn _ _ there).symm.trans htp
      cases this
    · cases q
  ca := fun inn q done => mi_excClass ga gg sb hd fc sg tk mo inn q done
end
end PySem.W
namespace Mi
open PySem PySem.Spec PyProof.Rows L2
/-! ### isinstance(n, C), isinstance(n, (C, ..)) of the exception that a suite holds -/
def eIsE (g : Nat × Nat) (i : Nat) (c : Str) (b : Bool) : ME D := fun env s => match env[i]? with
  | some (some (.exv a dd cl fs)) => if a = g.1 ∧ dd = g.2 ∧ cl = c then .ok (.bl b) s else .no
  | _ => .no
section
variable {X : Cx} {W : WX} {a : Addr} {oe : Obj} {cls : Value} {d : Option Addr} {pn : List (Addr × Obj)} {pos p p2 p3 : Pos} {n c1 : Str} {i : Nat} {g : Nat × Nat}
theorem inst_of {C : Addr} {pins : List (Addr × Obj)} {σ : L2.St} {H : Hp} {s : Shared} {dd : Addr} {fs : List (Str × V)} (hz : Zc (.ref C) d oe) (hf : ∃ vs, oe.data = .fields vs) (ed : d = some dd) (I : Inv (X.suite a ((a, oe) :: pn)) pins σ H s) (hd : H dd = some (.xd fs)) : ∃ od, PySem.W.InstAt s.heap a oe C (some od) := by
  subst ed
  obtain ⟨ha, _⟩ := I.pin (a, oe) (List.mem_append_left _ List.mem_cons_self)
  obtain ⟨vs, hv⟩ := hf
  obtain ⟨mA, hns, hr⟩ := (I.hok dd _ hd : ObjOk X.prog X.w H s.heap dd (.xd fs))
  obtain ⟨od, ho, _⟩ := lookIn_ns hns
  exact ⟨od, ha, hz.1, by unfold PySem.W.notCls; rw [hv] <;> rfl, by rw [hz.2]; exact ho⟩
theorem held_at {m : List Addr} {H : Hp} {env : Sl} {σ : L2.St} {s : Store} {c : Str} {b : Bool} {Q : VK} (E : RelE X.K m H env σ) (q : G X.K X.mg (Rep X.K) W σ m H Q (eIsE g i c b env s)) (r : Rel X.K m H s) :
    ∃ fs, σ[i]? = some (some (.ref g.1)) ∧ H g.2 = some (.xd fs) ∧ Q (.bl b) H := by
  unfold eIsE at q
  cases e1 : env[i]? with
  | none => rw [e1] at q; exact q.elim
  | some o =>
    cases o with
    | none => rw [e1] at q; exact q.elim
    | some x =>
      rw [e1] at q
      cases x with
      | exv a' dd cl fs =>
        simp only at q
        split at q
        · rename_i hh
          obtain ⟨h1, h2, h3⟩ := hh
          obtain ⟨v, hv, pr⟩ := E.2 i _ e1
          cases pr with
          | exv h n' rf => exact ⟨_, by rw [← h1]; exact hv, by rw [← h2]; exact h, G.now q r (.bl b)⟩
        · exact q.elim
      | _ => exact q.elim
theorem ce_isE1 {c : Str} {C D : Addr} {b : Bool} (ec : cls = .ref D) (T : ExcC X.K D) (hz : Zc cls d oe) (hf : ∃ vs, oe.data = .fields vs) (g1 : g.1 = a) (g2 : d = some g.2)
    (hg : Gl X "isinstance") (hm : X.mg "isinstance" = none) (hgC : Gl X c1) (mC : X.mg c1 = some (.ref C)) (kit : PySem.W.kitOne X.K (.ref D) (.ref C) = some b) (he : PE (X.suite a ((a, oe) :: pn)) (.Name n p) (tVar i)) (hdb : (c1 == ("__debug__" : Str)) = false := by decide)
    (hs1 : starEach [.Name n p, .Name c1 p2] X.env = (false, eval (.Name n p) X.env) :: starEach [.Name c1 p2] X.env := by rfl) (hs2 : starEach [.Name c1 p2] X.env = (false, eval (.Name c1 p2) X.env) :: starEach [] X.env := by rfl)
    (hpl : (backTo pos (starEach [.Name c1 p2] X.env)).any (·.1) = false := by rfl) :
    PE (X.suite a ((a, oe) :: pn)) (.Call (.Name "isinstance" p3) [.Name n p, .Name c1 p2] [] pos) (Te X.K X.mg W (eIsE g i c b)) := by
  subst ec
  refine ⟨fun pins s σ H Q I ⟨m, env, st, r, E, q⟩ => ?_⟩
  obtain ⟨fs, hσ, hd, hq⟩ := held_at E q r
  refine wpAny_Call_Name_kw (ld_blt (X := X.suite a ((a, oe) :: pn)) I hg hm PyProof.Rows.boot_isinstance ?_ (by decide) (by decide))
  refine PyProof.Rows.callWith_builtin1 (M := model X.prog X.w) (env := X.env) ?_ hs1 hpl
  rw [hs1]
  show wpAny _ _ (spliced ((false, eval (.Name n p) X.env) :: backTo pos (starEach [.Name c1 p2] X.env))) _ _ s
  refine Calls.spliced_cons (thn (he.run pins s σ H (fun x H1 => x = .ref g.1 ∧ H1 = H) I ⟨.ref g.1, hσ, rfl, rfl⟩) fun u s1 ⟨x, H1, I1, r1, ex, eH⟩ => ?_)
  subst ex eH
  obtain rfl : u = Value.ref g.1 := r1
  rw [hs2]
  show wpAny _ _ (spliced ((false, eval (.Name c1 p2) X.env) :: backTo pos (starEach [] X.env))) _ _ s1
  refine Calls.spliced_cons (ld_glob (X := X.suite a ((a, oe) :: pn)) I1 hgC mC (Calls.spliced_nil ?_) hdb)
  obtain ⟨od, inst⟩ := inst_of hz hf g2 I1 hd
  rw [← g1] at inst
  exact PySem.W.kia_one (PySem.W.mi_kitExc T.hg T.hk T.hs T.hd T.ha T.hn T.ht T.hm) I1.kIn inst kit (fun z => nomatch z) fun tk => ⟨.bl b, H1, I1.tok tk, rfl, hq⟩
theorem ce_isEm {k : Nat} {tpos : Pos} {e0 : Expr} {es : List Expr} {Cs : List Addr} {c : Str} {D : Addr} {b : Bool} (ec : cls = .ref D) (T : ExcC X.K D) (hz : Zc cls d oe) (hf : ∃ vs, oe.data = .fields vs) (g1 : g.1 = a) (g2 : d = some g.2)
    (hg : Gl X "isinstance") (hm : X.mg "isinstance" = none) (hes : PA (X.suite a ((a, oe) :: pn)) (e0 :: es) (fun σ H Q => Q (Cs.map V.ref) H)) (hl : Cs.length ≤ 1000) (kit : PySem.W.kitAny X.K (.ref D) (Cs.map Value.ref) = some b) (he : PE (X.suite a ((a, oe) :: pn)) (.Name n p) (tVar i))
    (hs1 : starEach [.Name n p, .Tuple (e0 :: es) k tpos] X.env = (false, eval (.Name n p) X.env) :: starEach [.Tuple (e0 :: es) k tpos] X.env := by rfl) (hs2 : starEach [.Tuple (e0 :: es) k tpos] X.env = (false, eval (.Tuple (e0 :: es) k tpos) X.env) :: starEach [] X.env := by rfl)
    (hpl : (backTo pos (starEach [.Tuple (e0 :: es) k tpos] X.env)).any (·.1) = false := by rfl) :
    PE (X.suite a ((a, oe) :: pn)) (.Call (.Name "isinstance" p3) [.Name n p, .Tuple (e0 :: es) k tpos] [] pos) (Te X.K X.mg W (eIsE g i c b)) := by
  subst ec
  refine ⟨fun pins s σ H Q I ⟨m, env, st, r, E, q⟩ => ?_⟩
  obtain ⟨fs, hσ, hd, hq⟩ := held_at E q r
  refine wpAny_Call_Name_kw (ld_blt (X := X.suite a ((a, oe) :: pn)) I hg hm PyProof.Rows.boot_isinstance ?_ (by decide) (by decide))
  refine PyProof.Rows.callWith_builtin1 (M := model X.prog X.w) (env := X.env) ?_ hs1 hpl
  rw [hs1]
  show wpAny _ _ (spliced ((false, eval (.Name n p) X.env) :: backTo pos (starEach [.Tuple (e0 :: es) k tpos] X.env))) _ _ s
  refine Calls.spliced_cons (thn (he.run pins s σ H (fun x H1 => x = .ref g.1 ∧ H1 = H) I ⟨.ref g.1, hσ, rfl, rfl⟩) fun u s1 ⟨x, H1, I1, r1, ex, eH⟩ => ?_)
  subst ex eH
  obtain rfl : u = Value.ref g.1 := r1
  rw [hs2]
  show wpAny _ _ (spliced ((false, eval (.Tuple (e0 :: es) k tpos) X.env) :: backTo pos (starEach [] X.env))) _ _ s1
  refine Calls.spliced_cons (wpAny_Tuple_spliced (thn (hes.run tpos pins s1 σ H1 (fun ys H' => ys = Cs.map V.ref ∧ H' = H1) I1 ⟨rfl, rfl⟩) fun us s2 ⟨ys, H2, I2, r2, ey, eH⟩ => ?_))
  subst ey eH
  have eu := refs_at r2
  subst eu
  refine ⟨by rw [List.length_map]; exact le_line (Nat.le_trans hl (by decide)), Calls.spliced_nil ?_⟩
  have I3 := I2.kept (h' := s2.heap.push { cls := .type "tuple", data := .seq (Cs.map Value.ref).toArray }) (t' := s2.toks) fun b ob q => Heap.get?_push_of_some _ q
  obtain ⟨od, inst⟩ := inst_of hz hf g2 I3 hd
  rw [← g1] at inst
  exact PySem.W.kia_tup (its := Cs.map Value.ref) (PySem.W.mi_kitExc T.hg T.hk T.hs T.hd T.ha T.hn T.ht T.hm) I3.kIn inst (Heap.get?_push_size _ rfl) kit (fun z => nomatch z) fun tk => ⟨.bl b, H2, I3.tok tk, rfl, hq⟩
end
end Mi
namespace Mi
open PySem PySem.Spec PyProof.Rows L2
/-! ### z.m(a), z a text -/
def eM1 (g : D → List D → Store → Option (D × Store)) (o a : ME D) : ME D := fun env s => (o env s).bind fun x s => match x with
  | .str z => (a env s).bind fun y s => R.of (g (.str z) [y] s)
  | _ => .no
section
variable {X : Cx} {W : WX} {apos pos : Pos} {o e : Expr} {fo fe : ME D}
theorem ce_m1 {id : String} {name : Str} {r : V → List V → Hp → VK → Prop} {g : D → List D → Store → Option (D × Store)} (slot : Slot "str" name id) (ty : typeOf (.builtin id) = pure (.type "method_descriptor")) (rule : MtR X id r) (hsd : MtS X.K r g) (ho : PE X o (Te X.K X.mg W fo)) (he : PE X e (Te X.K X.mg W fe))
    (hs : starEach [e] X.env = [(false, eval e X.env)] := by rfl) (hbase : attributeBase o name X.env (eval o X.env) = eval o X.env := by rfl) (hline : (apos.endLine == pos.line) = true := by rfl) :
    PE X (.Call (.Attribute o name apos) [e] [] pos) (Te X.K X.mg W (eM1 g fo fe)) :=
  PE.imp (pe_m1 slot ty rule ho he hs hbase hline) fun σ H Q h => Tm.bind (k := fun env (x : D) s => match x with
  | .str z => (fe env s).bind fun y s => R.of (g (.str z) [y] s)
  | _ => .no) h fun m1 H1 env x v s1 r1 E1 p1 g1 => by
    cases x with
    | str z =>
      cases p1
      exact ⟨⟨z, rfl⟩, m1, env, s1, r1, E1, G.bind g1 fun m2 H2 y vy s2 l2 r2 p2 g2 => hsd r2 (.str z) (.cons p2 .nil) g2⟩
    | _ => exact g1.elim
end
section
variable {K : PySem.W.Frag}
def dSplit (x : D) (ys : List D) (s : Store) : Option (D × Store) := match x, ys with
  | .str a, [.str b] => if b.length ≠ 0 ∧ a.length ≤ 1000000 then some (.loc s.length, s ++ [.lst ((Txt.split a b).map D.str)]) else none
  | _, _ => none
theorem reps_strs {m : List Addr} {H : Hp} : ∀ zs : List Str, Reps K m H (zs.map D.str) (zs.map V.str)
  | [] => .nil
  | z :: zs => .cons (.str z) (reps_strs zs)
theorem mts_split : MtS K (fun x xs H Q => ∃ a b, x = V.str a ∧ xs = [V.str b] ∧ (b.length == 0) = false ∧ a.length + 2 ≤ sizeLine ∧ rNewStrs (Txt.split a b) H Q) dSplit := by
  intro mg W σ m H s x d xs ds Q r p ps g
  unfold dSplit at g
  split at g
  · rename_i a b
    obtain ⟨w, rfl, h⟩ := reps1 ps
    cases h
    cases p
    split at g
    · rename_i hz
      refine ⟨a, b, rfl, rfl, by simpa using hz.1, by rw [sizeLine_eq]; omega, fun q hq => ?_⟩
      exact g (m ++ [q]) _ _ (le_more r hq) (rel_newlist r hq (reps_strs _)) (.loc (len_get r))
    · exact g.elim
  · exact g.elim
def dStarts (x : D) (ys : List D) (s : Store) : Option (D × Store) := match x, ys with
  | .str a, [.str b] => some (.bl (Txt.startswith a b), s)
  | _, _ => none
theorem mts_starts : MtS K (fun x xs H Q => ∃ a b, x = V.str a ∧ xs = [V.str b] ∧ Q (.bl (Txt.startswith a b)) H) dStarts := by
  intro mg W σ m H s x d xs ds Q r p ps g
  unfold dStarts at g
  split at g
  · rename_i a b
    obtain ⟨w, rfl, h⟩ := reps1 ps
    cases h
    cases p
    exact ⟨a, b, rfl, rfl, g.now r (.bl _)⟩
  · exact g.elim
noncomputable def dJoin (x : D) (ys : List D) (s : Store) : Option (D × Store) := match x, ys with
  | .str a, [y] => (seqOf s y).bind fun xs => (strsOf xs).bind fun zs => if (zs.map (·.length)).sum + zs.length * a.length ≤ 1000000 then some (.str (Txt.join a zs), s) else none
  | _, _ => none
theorem mts_join : MtS K (fun x xs H Q => ∃ a p, ∃ ys : List Str, x = V.str a ∧ xs = [V.ref p] ∧ (SqL K H p (ys.map V.str) ∨ SqT K H p (ys.map V.str)) ∧ (ys.map (·.length)).sum + ys.length * a.length ≤ 16777216 ∧ Q (.str (Txt.join a ys)) H) dJoin := by
  intro mg W σ m H s x d xs ds Q r p ps g
  unfold dJoin at g
  split at g
  · rename_i a y
    obtain ⟨w, rfl, h⟩ := reps1 ps
    cases p
    cases e : seqOf s y with
    | none => rw [e] at g; exact g.elim
    | some zs =>
      rw [e, Option.bind_some] at g
      cases q : strsOf zs with
      | none => rw [q] at g; exact g.elim
      | some ss =>
        rw [q, Option.bind_some] at g
        split at g
        · rename_i hz
          obtain ⟨b, vs, rfl, h1, h2⟩ := seqOf_sq r h e
          have ev := strs_reps h2 q
          subst ev
          exact ⟨a, b, ss, rfl, rfl, h1, by omega, g.now r (.str _)⟩
        · exact g.elim
  · exact g.elim
/-! ### z[a:b], a text besides -/
noncomputable def dSlZ (x : D) (lo hi : Option Int) (s : Store) : Option (D × Store) := match x with
  | .str z => if z.length ≤ 1000000 then some (.str (cutS z lo hi), s) else none
  | x => dSl x lo hi s
theorem sl_Z {X : Cx} : SlR X (fun x lo hi H Q => rSlLT X.K x lo hi H Q ∨ rSlS x lo hi H Q) := sl_LT.or sl_str
theorem sls_Z : SlS K (fun x lo hi H Q => rSlLT K x lo hi H Q ∨ rSlS x lo hi H Q) dSlZ := by
  intro mg W σ m H s x d lo hi Q r p g
  by_cases hz : ∃ z, d = .str z
  · obtain ⟨z, rfl⟩ := hz
    cases p
    by_cases hl : z.length ≤ 1000000
    · have e : dSlZ (.str z) lo hi s = some (.str (cutS z lo hi), s) := if_pos hl
      rw [e] at g
      exact .inr ⟨z, rfl, le_line hl, G.now g r (.str _)⟩
    · have e : dSlZ (.str z) lo hi s = none := if_neg hl
      rw [e] at g
      exact g.elim
  · have e : dSlZ d lo hi s = dSl d lo hi s := by
      cases d <;> first | rfl | exact (hz ⟨_, rfl⟩).elim
    rw [e] at g
    exact .inl (sls_LT r p g)
@[simp] theorem dSlZ_tup (xs : List D) (lo hi : Option Int) (s : Store) : dSlZ (.tup xs) lo hi s = dSl (.tup xs) lo hi s := rfl
@[simp] theorem dSlZ_fl (xs : List D) (lo hi : Option Int) (s : Store) : dSlZ (.fl xs) lo hi s = dSl (.fl xs) lo hi s := rfl
@[simp] theorem dSlZ_loc (l : Nat) (lo hi : Option Int) (s : Store) : dSlZ (.loc l) lo hi s = dSl (.loc l) lo hi s := rfl
theorem dSlZ_str {z : Str} (h : z.length ≤ 1000000) (lo hi : Option Int) (s : Store) : dSlZ (.str z) lo hi s = some (.str (cutS z lo hi), s) := if_pos h
/-! ### int(z), a text besides -/
noncomputable def dIntZ : List D → Store → Option (D × Store)
  | [.str a], s => if a.length ≤ 640 then (PySem.intText? a).map fun n => (.int n, s) else none
  | ds, s => dInt ds s
def rIntS : List V → Hp → VK → Prop := fun xs H Q => ∃ a n, xs = [V.str a] ∧ PySem.intText? a = some n ∧ a.length ≤ 640 ∧ Q (.int n) H
theorem call_intZ {X : Cx} : CallR X (.type "int") (fun xs H Q => ((∃ i, xs = [V.int i] ∧ Q (.int i) H) ∨ ∃ k, xs = [V.bl k] ∧ Q (.int (if k then 1 else 0)) H) ∨ rIntS xs H Q) := call_int1.or call_int_str
theorem fns_intZ : FnS K (fun xs H Q => ((∃ i, xs = [V.int i] ∧ Q (.int i) H) ∨ ∃ k, xs = [V.bl k] ∧ Q (.int (if k then 1 else 0)) H) ∨ rIntS xs H Q) dIntZ := by
  intro mg W σ m H s xs ds Q r p g
  by_cases hz : ∃ z, ds = [.str z]
  · obtain ⟨z, rfl⟩ := hz
    obtain ⟨w, rfl, h⟩ := reps1 p
    cases h
    simp only [dIntZ] at g
    split at g
    · rename_i hl
      cases e : PySem.intText? z with
      | none => rw [e] at g; exact g.elim
      | some n =>
        rw [e] at g
        exact .inr ⟨z, n, rfl, e, hl, G.now g r (.int n)⟩
    · exact g.elim
  · have e : dIntZ ds s = dInt ds s := by
      unfold dIntZ
      split
      · exact (hz ⟨_, rfl⟩).elim
      · rfl
    rw [e] at g
    exact .inl (fns_int r p g)
@[simp] theorem dIntZ_int (i : Int) (s : Store) : dIntZ [.int i] s = some (.int i, s) := rfl
@[simp] theorem dIntZ_bl (i : Bool) (s : Store) : dIntZ [.bl i] s = some (.int (if i then 1 else 0), s) := rfl
theorem dIntZ_str {z : Str} (h : z.length ≤ 640) {n : Int} (e : PySem.intText? z = some n) (s : Store) : dIntZ [.str z] s = some (.int n, s) := by
  simp only [dIntZ, if_pos h, e]
  rfl
end
/-! ### f'..' -/
noncomputable def eFmt (a : ME D) : ME D := fun env s => (a env s).bind fun x s => match x with
  | .str z => if z.length ≤ 1000000 then .ok (.str z) s else .no
  | .int i => if i.natAbs.log2 < 1920 then .ok (.str (toString i)) s else .no
  | _ => .no
noncomputable def eJs : List (ME D) → Str → Sl → Store → R Str
  | [], acc, _, s => .ok acc s
  | f :: fs, acc, env, s => (f env s).bind fun x s => match x with
    | .str y => if (acc ++ y).length ≤ 1000000 then eJs fs (acc ++ y) env s else .no
    | _ => .no
noncomputable def eFs (fs : List (ME D)) : ME D := fun env s => (eJs fs Str.empty env s).bind fun z s => .ok (.str z) s
section
variable {X : Cx} {W : WX} {pos : Pos} {e : Expr} {fa : ME D}
theorem ce_fmt (he : PE X e (Te X.K X.mg W fa)) : PE X (.FormattedValue e (-1) none pos) (Te X.K X.mg W (eFmt fa)) :=
  PE.imp (pe_fmt he) fun σ H Q h => Tm.bind (k := fun _ (x : D) s => match x with
  | .str z => if z.length ≤ 1000000 then R.ok (D.str z) s else .no
  | .int i => if i.natAbs.log2 < 1920 then .ok (.str (toString i)) s else .no
  | _ => .no) h fun m1 H1 env x v s1 r1 E1 p1 g1 => by
    cases x with
    | str z =>
      cases p1
      simp only at g1
      split at g1
      · rename_i hz; exact .inl ⟨z, rfl, le_line hz, g1.now r1 (.str _)⟩
      · exact g1.elim
    | int i =>
      cases p1
      simp only at g1
      split at g1
      · rename_i hz; exact .inr ⟨i, rfl, hz, g1.now r1 (.str _)⟩
      · exact g1.elim
    | _ => exact g1.elim
inductive PJs (X : Cx) (W : WX) : List Expr → List (ME D) → Prop where
  | nil : PJs X W [] []
  | cons {e : Expr} {f : ME D} {es : List Expr} {fs : List (ME D)} (h : PE X e (Te X.K X.mg W f)) (r : PJs X W es fs) : PJs X W (e :: es) (f :: fs)
theorem PJs.pj {es : List Expr} {fs : List (ME D)} (h : PJs X W es fs) : PJ X es (fs.map fun f => Te X.K X.mg W f) := by
  induction h with
  | nil => exact .nil
  | cons h _ ih => exact .cons h ih
theorem js_run (mg : Str → Option Value) : ∀ (fs : List (ME D)) (acc : Str) (σ : L2.St) (H : Hp) (Q : Str → Hp → Prop), Tm X.K X.mg (fun _ _ (a b : Str) => a = b) W (fun env s => eJs fs acc env s) σ H Q → tJs (fs.map fun f => Te X.K X.mg W f) acc σ H Q
  | [], acc, σ, H, Q, ⟨m, env, s, r, E, g⟩ => g m H acc .refl r rfl
  | f :: fs, acc, σ, H, Q, h => Tm.bind (k := fun env (x : D) s => match x with
    | .str y => if (acc ++ y).length ≤ 1000000 then eJs fs (acc ++ y) env s else .no
    | _ => .no) h fun m1 H1 env x v s1 r1 E1 p1 g1 => by
      cases x with
      | str y =>
        cases p1
        simp only at g1
        split at g1
        · rename_i hz
          exact ⟨y, rfl, le_line hz, js_run mg fs (acc ++ y) σ H1 Q ⟨m1, env, s1, r1, E1, g1⟩⟩
        · exact g1.elim
      | _ => exact g1.elim
theorem ce_fs {v1 v2 : Expr} {rest : List Expr} {fs : List (ME D)} (h : PJs X W (v1 :: v2 :: rest) fs) : PE X (.JoinedStr (v1 :: v2 :: rest) pos) (Te X.K X.mg W (eFs fs)) :=
  PE.imp (pe_joined h.pj) fun σ H Q h => js_run X.mg fs Str.empty σ H _ (Tm.bind (k := fun _ (z : Str) s => R.ok (D.str z) s) h fun m1 H1 env a b s1 r1 E1 p1 g1 => by
    cases (show a = b from p1)
    exact g1.now r1 (.str _))
@[simp] theorem eFmt_eq (a : ME D) (env : Sl) (s : Store) : eFmt a env s = (a env s).bind fun x s => match x with
  | .str z => if z.length ≤ 1000000 then .ok (.str z) s else .no
  | .int i => if i.natAbs.log2 < 1920 then .ok (.str (toString i)) s else .no
  | _ => .no := rfl
@[simp] theorem eJs_nil (acc : Str) (env : Sl) (s : Store) : eJs [] acc env s = .ok acc s := rfl
@[simp] theorem eJs_cons (f : ME D) (fs : List (ME D)) (acc : Str) (env : Sl) (s : Store) : eJs (f :: fs) acc env s = (f env s).bind fun x s => match x with
  | .str y => if (acc ++ y).length ≤ 1000000 then eJs fs (acc ++ y) env s else .no
  | _ => .no := rfl
@[simp] theorem eFs_eq (fs : List (ME D)) (env : Sl) (s : Store) : eFs fs env s = (eJs fs Str.empty env s).bind fun z s => .ok (.str z) s := rfl
end
@[simp] theorem eM1_eq (g : D → List D → Store → Option (D × Store)) (o a : ME D) (env : Sl) (s : Store) : eM1 g o a env s = (o env s).bind fun x s => match x with
  | .str z => (a env s).bind fun y s => R.of (g (.str z) [y] s)
  | _ => .no := rfl
theorem dSplit_str {a b : Str} (h : b.length ≠ 0) (hz : a.length ≤ 1000000) (s : Store) : dSplit (.str a) [.str b] s = some (.loc s.length, s ++ [.lst ((Txt.split a b).map D.str)]) := if_pos ⟨h, hz⟩
@[simp] theorem dStarts_str (a b : Str) (s : Store) : dStarts (.str a) [.str b] s = some (.bl (Txt.startswith a b), s) := rfl
theorem hcl1 {mg : Str → Option Value} {c k : Str} {C : Addr} {cls : Value} (g : mg c = some (.ref C)) (h3 : k ∈ [c]) (h4 : mg k = some cls) : cls = .ref C := by
  rw [List.mem_singleton.mp h3, g] at h4
  cases h4
  rfl
end Mi
namespace Mi
open PySem PySem.Spec PyProof.Rows L2
/-! ### z.endswith(a) -/
section
variable {K : PySem.W.Frag}
def dEnds (x : D) (ys : List D) (s : Store) : Option (D × Store) := match x, ys with
  | .str a, [.str b] => some (.bl (Txt.endswith a b), s)
  | _, _ => none
theorem mts_ends : MtS K (fun x xs H Q => ∃ a b, x = V.str a ∧ xs = [V.str b] ∧ Q (.bl (Txt.endswith a b)) H) dEnds := by
  intro mg W σ m H s x d xs ds Q r p ps g
  unfold dEnds at g
  split at g
  · rename_i a b
    obtain ⟨w, rfl, h⟩ := reps1 ps
    cases h
    cases p
    exact ⟨a, b, rfl, rfl, g.now r (.bl _)⟩
  · exact g.elim
@[simp] theorem dEnds_str (a b : Str) (s : Store) : dEnds (.str a) [.str b] s = some (.bl (Txt.endswith a b), s) := rfl
end
end Mi
namespace Mi
open PySem PySem.Spec PyProof.Rows L2
/-! ### what must hold of an end: rules that go forward -/
def WR {α : Type} (r : R α) (K : α → Store → Prop) (E : Ex → Store → Prop) : Prop := match r with
  | .ok a s => K a s
  | .ex e s => E e s
  | .no => False
def WO (o : Option (D × Store)) (K : D → Store → Prop) : Prop := match o with
  | some x => K x.1 x.2
  | none => False
/-- a branch -/
def WI (b : Bool) (A B : Prop) : Prop := (b = true → A) ∧ (b = false → B)
/-- a value that is a bool -/
def WB (x : D) (k : Bool → Prop) : Prop := match x with
  | .bl b => k b
  | _ => False
/-- what comes behind a statement -/
def Bd (P : RS → Prop) (g : MS) : RS → Prop := fun r => P (r.bind g)
/-- a def's end -/
def Fin (K : D → Store → Prop) (E : Ex → Store → Prop) : RS → Prop
  | .rt d s => K d s
  | .nx _ s => K .non s
  | .ex e _ s => E e s
  | _ => False
def NoE : Ex → Store → Prop := fun _ _ => False
/-! #### stores by their known cells -/
abbrev Hs := List (Nat × (Cell → Prop))
def Has (s : Store) (R : Hs) : Prop := (R.map (·.1)).Nodup ∧ ∀ x ∈ R, ∃ c, s[x.1]? = some c ∧ x.2 c
def Is (c : Cell) : Cell → Prop := fun d => d = c
abbrev Ls (xs : List D) : Cell → Prop := Is (.lst xs)
section
variable {s s' : Store} {R : Hs} {l p : Nat} {P Q : Cell → Prop} {c : Cell} {xs : List D}
theorem Has.nil : Has s [] := ⟨by simp, by simp⟩
theorem Has.get (H : Has s R) (h : (l, P) ∈ R) : ∃ c, s[l]? = some c ∧ P c := H.2 _ h
theorem Has.is (H : Has s R) (h : (l, Is c) ∈ R) : s[l]? = some c := by
  obtain ⟨d, e, q⟩ := H.get h
  rw [e, (show d = c from q)]
theorem Has.lst (H : Has s R) (h : (l, Ls xs) ∈ R) : s[l]? = some (.lst xs) := H.is h
theorem Has.lt (H : Has s R) (h : (l, P) ∈ R) : l < s.length := by
  obtain ⟨d, e, q⟩ := H.get h
  exact lt_of_get e
theorem Has.push (H : Has s R) (hP : P c) : Has (s ++ [c]) ((s.length, P) :: R) := by
  refine ⟨?_, fun x hx => ?_⟩
  · rw [List.map_cons, List.nodup_cons]
    refine ⟨fun h => ?_, H.1⟩
    obtain ⟨x, hx, e⟩ := List.mem_map.mp h
    obtain ⟨d, q, _⟩ := H.2 x hx
    have := lt_of_get q
    omega
  · rcases List.mem_cons.mp hx with rfl | hx
    · exact ⟨c, get_new s c, hP⟩
    · obtain ⟨d, q, r⟩ := H.2 x hx
      exact ⟨d, by rw [List.getElem?_append_left (lt_of_get q)]; exact q, r⟩
theorem Has.new (H : Has s R) (c : Cell) : Has (s ++ [c]) ((s.length, Is c) :: R) := H.push rfl
theorem Has.ext (H : Has s R) (x : Ext s s') : Has s' R := ⟨H.1, fun y hy => let ⟨c, a, b⟩ := H.2 y hy; ⟨c, x.get a, b⟩⟩
theorem Has.app (H : Has s R) (r : Store) : Has (s ++ r) R := H.ext ⟨r, rfl⟩
theorem Has.put (H : Has s R) (i : Nat) (h : R[i]? = some (l, P)) (hQ : Q c) : Has (s.set l c) (R.set i (l, Q)) := by
  have hi : i < R.length := (List.getElem?_eq_some_iff.mp h).1
  have hg : R[i] = (l, P) := (List.getElem?_eq_some_iff.mp h).2
  have hm : (l, P) ∈ R := List.mem_of_getElem? h
  have e : (R.set i (l, Q)).map (·.1) = R.map (·.1) := by
    apply List.ext_getElem?
    intro j
    rw [List.getElem?_map, List.getElem?_map, List.getElem?_set]
    by_cases c : i = j
    · subst c
      rw [if_pos rfl, if_pos hi, h]
      rfl
    · rw [if_neg c]
  refine ⟨by rw [e]; exact H.1, fun x hx => ?_⟩
  obtain ⟨j, hj, ej⟩ := List.getElem_of_mem hx
  rw [List.length_set] at hj
  rw [List.getElem_set] at ej
  by_cases q : i = j
  · rw [if_pos q] at ej
    subst ej
    obtain ⟨d, e1, _⟩ := H.get hm
    exact ⟨c, get_set e1, hQ⟩
  · rw [if_neg q] at ej
    subst ej
    obtain ⟨d, e1, e2⟩ := H.2 _ (List.getElem_mem hj)
    refine ⟨d, ?_, e2⟩
    rw [List.getElem?_set_ne]
    · exact e1
    · intro z
      have nd := List.pairwise_iff_getElem.mp H.1
      have a1 : (R.map (·.1))[i]'(by simpa using hi) = l := by simp [hg]
      have a2 : (R.map (·.1))[j]'(by simpa using hj) = l := by simp [z]
      rcases Nat.lt_or_ge i j with w | w
      · exact nd i j (by simpa using hi) (by simpa using hj) w (a1.trans a2.symm)
      · exact nd j i (by simpa using hj) (by simpa using hi) (by omega) (a2.trans a1.symm)
theorem Has.drop {x : Nat × (Cell → Prop)} (H : Has s (x :: R)) : Has s R := ⟨by have := H.1; rw [List.map_cons, List.nodup_cons] at this; exact this.2, fun y hy => H.2 y (List.mem_cons_of_mem _ hy)⟩
theorem Has.kp (H : Has s R) (k : Kp p s s') (hm : (p, P) ∈ R) (hP : ∃ c, s'[p]? = some c ∧ P c) : Has s' R := ⟨H.1, fun x hx => by
  by_cases q : x.1 = p
  · have : x = (p, P) := by
      obtain ⟨i, hi, e1⟩ := List.getElem_of_mem hx
      obtain ⟨j, hj, e2⟩ := List.getElem_of_mem hm
      by_cases z : i = j
      · subst z; rw [← e1, ← e2]
      · exfalso
        have nd := List.pairwise_iff_getElem.mp H.1
        have a1 : (R.map (·.1))[i]'(by simpa using hi) = p := by simp [e1, q]
        have a2 : (R.map (·.1))[j]'(by simpa using hj) = p := by simp [e2]
        rcases Nat.lt_or_ge i j with w | w
        · exact nd i j (by simpa using hi) (by simpa using hj) w (a1.trans a2.symm)
        · exact nd j i (by simpa using hj) (by simpa using hi) (by omega) (a2.trans a1.symm)
    subst this
    exact hP
  · obtain ⟨c, e1, e2⟩ := H.2 x hx
    exact ⟨c, by rw [k.2 x.1 (lt_of_get e1) q]; exact e1, e2⟩⟩
theorem Has.same (H : Has s R) (h : ∀ l, l < s.length → s'[l]? = s[l]?) : Has s' R := ⟨H.1, fun x hx => let ⟨c, a, b⟩ := H.2 x hx; ⟨c, by rw [h x.1 (lt_of_get a)]; exact a, b⟩⟩
theorem Has.weak {R' : Hs} (H : Has s R) (h : R'.Sublist R) : Has s R' := ⟨(h.map (·.1)).nodup H.1, fun y hy => H.2 y (h.subset hy)⟩
theorem Has.perm {R' : Hs} (H : Has s R) (h : R.Perm R') : Has s R' := ⟨(h.map (·.1)).nodup H.1, fun y hy => H.2 y (h.mem_iff.mpr hy)⟩
inductive Wk : Hs → Hs → Prop where
  | refl {R : Hs} : Wk R R
  | cons {l : Nat} {P Q : Cell → Prop} {R R' : Hs} (h : ∀ c, P c → Q c) (r : Wk R R') : Wk ((l, P) :: R) ((l, Q) :: R')
theorem Wk.fst {R R' : Hs} (w : Wk R R') : R'.map (·.1) = R.map (·.1) := by
  induction w with
  | refl => rfl
  | cons h r ih => rw [List.map_cons, List.map_cons, ih]
theorem Wk.mem {R R' : Hs} (w : Wk R R') : ∀ y ∈ R', ∃ P, (y.1, P) ∈ R ∧ ∀ c, P c → y.2 c := by
  induction w with
  | refl => exact fun y hy => ⟨y.2, hy, fun _ h => h⟩
  | cons h r ih =>
    intro y hy
    rcases List.mem_cons.mp hy with rfl | hy
    · exact ⟨_, List.mem_cons_self, h⟩
    · obtain ⟨P, h1, h2⟩ := ih y hy
      exact ⟨P, List.mem_cons_of_mem _ h1, h2⟩
theorem Has.wk {R' : Hs} (H : Has s R) (w : Wk R R') : Has s R' := ⟨by rw [w.fst]; exact H.1, fun y hy => by
  obtain ⟨P, h1, h2⟩ := w.mem y hy
  obtain ⟨c, e, q⟩ := H.get h1
  exact ⟨c, e, h2 c q⟩⟩
/-- a list, whatever it holds -/
def IsL : Cell → Prop := fun c => ∃ xs, c = .lst xs
theorem toL : ∀ c, Ls xs c → IsL c := fun c h => ⟨xs, h⟩
theorem Has.swap {x y : Nat × (Cell → Prop)} (H : Has s (x :: y :: R)) : Has s (y :: x :: R) := H.perm (List.Perm.swap ..)
end
section
variable {α β : Type} {K : D → Store → Prop} {KB : Bool → Store → Prop} {KL : List D → Store → Prop} {KI : Itm → Store → Prop} {KO : Option Int → Store → Prop} {E : Ex → Store → Prop} {env env2 : Sl} {s s' : Store} {a b c : ME D} {as : ME (List D)} {t u : ME Bool} {d x : D} {P : RS → Prop} {f g h : MS} {A B : Prop} {q : Prop} {Z : Hs}
theorem wr_go {Kk : α → Store → Prop} {r : R α} (h : WR r Kk E) : WR r Kk E := h
theorem wi_go {b : Bool} (h : WI b A B) : WI b A B := h
theorem bd_go {r : RS} (h : Bd P g r) : Bd P g r := h
theorem wr_ok {Kk : α → Store → Prop} {v : α} (h : Kk v s) : WR (.ok v s) Kk E := h
theorem wr_eq {Kk : α → Store → Prop} {r : R α} {v : α} (e : r = .ok v s) (h : Kk v s) : WR r Kk E := by rw [e]; exact h
theorem wr_bind {Kk : β → Store → Prop} {r : R α} {k : α → Store → R β} (h : WR r (fun a s => WR (k a s) Kk E) E) : WR (r.bind k) Kk E := by cases r <;> exact h
theorem wr_of {o : Option (D × Store)} (h : WO o K) : WR (R.of o) K E := by
  cases o with
  | none => exact False.elim h
  | some x => exact h
theorem wr_mono {Kk Kk' : α → Store → Prop} {E E' : Ex → Store → Prop} {r : R α} (h : WR r Kk E) (k : ∀ a s, Kk a s → Kk' a s) (e : ∀ x s, E x s → E' x s) : WR r Kk' E' := by
  cases r with
  | ok a s => exact k a s h
  | ex x s => exact e x s h
  | no => exact h
theorem wr_out {Kk : α → Store → Prop} {r : R α} (h : WR r Kk NoE) : ∃ v s, r = .ok v s ∧ Kk v s := by
  cases r with
  | ok a s => exact ⟨a, s, rfl, h⟩
  | ex x s => exact False.elim h
  | no => exact False.elim h
theorem wr_in {Kk : α → Store → Prop} {r : R α} (h : ∃ v s, r = .ok v s ∧ Kk v s) : WR r Kk E := by
  obtain ⟨v, s, rfl, h⟩ := h
  exact h
theorem wo_eq {o : Option (D × Store)} (e : o = some (d, s)) (h : K d s) : WO o K := by rw [e]; exact h
theorem wo_out {o : Option (D × Store)} (h : WO o K) : ∃ d s, o = some (d, s) ∧ K d s := by
  cases o with
  | none => exact False.elim h
  | some x => exact ⟨x.1, x.2, rfl, h⟩
/-! #### branches -/
theorem wi_t (h : A) : WI true A B := ⟨fun _ => h, fun e => by cases e⟩
theorem wi_f (h : B) : WI false A B := ⟨(fun e => by cases e), fun _ => h⟩
theorem wi_d [Decidable q] (h : q → A) (h2 : ¬ q → B) : WI (decide q) A B := ⟨fun e => h (of_decide_eq_true e), fun e => h2 (of_decide_eq_false e)⟩
theorem wi_so {b : Bool} (e : b = true) (h : A) : WI b A B := ⟨fun _ => h, fun z => by rw [e] at z; cases z⟩
theorem wi_un {b : Bool} (e : b = false) (h : B) : WI b A B := ⟨(fun z => by rw [e] at z; cases z), fun _ => h⟩
theorem wi_n {b : Bool} (h : WI b B A) : WI (!b) A B := ⟨fun e => h.2 (by simpa using e), fun e => h.1 (by simpa using e)⟩
theorem wi_b {b : Bool} (h : b = true → A) (h2 : b = false → B) : WI b A B := ⟨h, h2⟩
theorem wi_yes [Decidable q] (h : q) (h2 : A) : WI (decide q) A B := wi_d (fun _ => h2) (fun n => (n h).elim)
theorem wi_no [Decidable q] (h : ¬ q) (h2 : B) : WI (decide q) A B := wi_d (fun n => (h n).elim) (fun _ => h2)
theorem wi_and {b c : Bool} (h : WI b (WI c A B) B) : WI (b && c) A B := by
  cases b
  · exact wi_f (h.2 rfl)
  · exact h.1 rfl
theorem wi_or {b c : Bool} (h : WI b A (WI c A B)) : WI (b || c) A B := by
  cases b
  · exact h.2 rfl
  · exact wi_t (h.1 rfl)
theorem wi_same (b : Bool) (h : A) : WI b A A := ⟨fun _ => h, fun _ => h⟩
theorem wi_if {b : Bool} {r : R α} {r2 : R α} {Kk : α → Store → Prop} (h : WI b (WR r Kk E) (WR r2 Kk E)) : WR (if b = true then r else r2) Kk E := by
  cases b
  · exact h.2 rfl
  · exact h.1 rfl
/-! #### expressions -/
theorem w_C (h : K d s) : WR (eC d env s) K E := h
theorem w_V {i : Nat} (e : env[i]? = some (some d)) (h : K d s) : WR (eV i env s) K E := by unfold eV; rw [e]; exact h
theorem w_V0 {r : Sl} (h : K d s) : WR (eV 0 (some d :: r) s) K E := h
theorem w_V1 {x0 : Option D} {r : Sl} (h : K d s) : WR (eV 1 (x0 :: some d :: r) s) K E := h
theorem w_V2 {x0 x1 : Option D} {r : Sl} (h : K d s) : WR (eV 2 (x0 :: x1 :: some d :: r) s) K E := h
theorem w_V3 {x0 x1 x2 : Option D} {r : Sl} (h : K d s) : WR (eV 3 (x0 :: x1 :: x2 :: some d :: r) s) K E := h
theorem w_V4 {x0 x1 x2 x3 : Option D} {r : Sl} (h : K d s) : WR (eV 4 (x0 :: x1 :: x2 :: x3 :: some d :: r) s) K E := h
theorem w_V5 {x0 x1 x2 x3 x4 : Option D} {r : Sl} (h : K d s) : WR (eV 5 (x0 :: x1 :: x2 :: x3 :: x4 :: some d :: r) s) K E := h
theorem w_V6 {x0 x1 x2 x3 x4 x5 : Option D} {r : Sl} (h : K d s) : WR (eV 6 (x0 :: x1 :: x2 :: x3 :: x4 :: x5 :: some d :: r) s) K E := h
theorem w_V7 {x0 x1 x2 x3 x4 x5 x6 : Option D} {r : Sl} (h : K d s) : WR (eV 7 (x0 :: x1 :: x2 :: x3 :: x4 :: x5 :: x6 :: some d :: r) s) K E := h
theorem w_V8 {x0 x1 x2 x3 x4 x5 x6 x7 : Option D} {r : Sl} (h : K d s) : WR (eV 8 (x0 :: x1 :: x2 :: x3 :: x4 :: x5 :: x6 :: x7 :: some d :: r) s) K E := h
theorem w_V9 {x0 x1 x2 x3 x4 x5 x6 x7 x8 : Option D} {r : Sl} (h : K d s) : WR (eV 9 (x0 :: x1 :: x2 :: x3 :: x4 :: x5 :: x6 :: x7 :: x8 :: some d :: r) s) K E := h
theorem w_V10 {x0 x1 x2 x3 x4 x5 x6 x7 x8 x9 : Option D} {r : Sl} (h : K d s) : WR (eV 10 (x0 :: x1 :: x2 :: x3 :: x4 :: x5 :: x6 :: x7 :: x8 :: x9 :: some d :: r) s) K E := h
theorem w_V11 {x0 x1 x2 x3 x4 x5 x6 x7 x8 x9 x10 : Option D} {r : Sl} (h : K d s) : WR (eV 11 (x0 :: x1 :: x2 :: x3 :: x4 :: x5 :: x6 :: x7 :: x8 :: x9 :: x10 :: some d :: r) s) K E := h
theorem w_V12 {x0 x1 x2 x3 x4 x5 x6 x7 x8 x9 x10 x11 : Option D} {r : Sl} (h : K d s) : WR (eV 12 (x0 :: x1 :: x2 :: x3 :: x4 :: x5 :: x6 :: x7 :: x8 :: x9 :: x10 :: x11 :: some d :: r) s) K E := h
theorem w_V13 {x0 x1 x2 x3 x4 x5 x6 x7 x8 x9 x10 x11 x12 : Option D} {r : Sl} (h : K d s) : WR (eV 13 (x0 :: x1 :: x2 :: x3 :: x4 :: x5 :: x6 :: x7 :: x8 :: x9 :: x10 :: x11 :: x12 :: some d :: r) s) K E := h
theorem w_V14 {x0 x1 x2 x3 x4 x5 x6 x7 x8 x9 x10 x11 x12 x13 : Option D} {r : Sl} (h : K d s) : WR (eV 14 (x0 :: x1 :: x2 :: x3 :: x4 :: x5 :: x6 :: x7 :: x8 :: x9 :: x10 :: x11 :: x12 :: x13 :: some d :: r) s) K E := h
theorem w_V15 {x0 x1 x2 x3 x4 x5 x6 x7 x8 x9 x10 x11 x12 x13 x14 : Option D} {r : Sl} (h : K d s) : WR (eV 15 (x0 :: x1 :: x2 :: x3 :: x4 :: x5 :: x6 :: x7 :: x8 :: x9 :: x10 :: x11 :: x12 :: x13 :: x14 :: some d :: r) s) K E := h
theorem w_V16 {x0 x1 x2 x3 x4 x5 x6 x7 x8 x9 x10 x11 x12 x13 x14 x15 : Option D} {r : Sl} (h : K d s) : WR (eV 16 (x0 :: x1 :: x2 :: x3 :: x4 :: x5 :: x6 :: x7 :: x8 :: x9 :: x10 :: x11 :: x12 :: x13 :: x14 :: x15 :: some d :: r) s) K E := h
theorem w_V17 {x0 x1 x2 x3 x4 x5 x6 x7 x8 x9 x10 x11 x12 x13 x14 x15 x16 : Option D} {r : Sl} (h : K d s) : WR (eV 17 (x0 :: x1 :: x2 :: x3 :: x4 :: x5 :: x6 :: x7 :: x8 :: x9 :: x10 :: x11 :: x12 :: x13 :: x14 :: x15 :: x16 :: some d :: r) s) K E := h
theorem w_V18 {x0 x1 x2 x3 x4 x5 x6 x7 x8 x9 x10 x11 x12 x13 x14 x15 x16 x17 : Option D} {r : Sl} (h : K d s) : WR (eV 18 (x0 :: x1 :: x2 :: x3 :: x4 :: x5 :: x6 :: x7 :: x8 :: x9 :: x10 :: x11 :: x12 :: x13 :: x14 :: x15 :: x16 :: x17 :: some d :: r) s) K E := h
theorem w_V19 {x0 x1 x2 x3 x4 x5 x6 x7 x8 x9 x10 x11 x12 x13 x14 x15 x16 x17 x18 : Option D} {r : Sl} (h : K d s) : WR (eV 19 (x0 :: x1 :: x2 :: x3 :: x4 :: x5 :: x6 :: x7 :: x8 :: x9 :: x10 :: x11 :: x12 :: x13 :: x14 :: x15 :: x16 :: x17 :: x18 :: some d :: r) s) K E := h
theorem w_V20 {x0 x1 x2 x3 x4 x5 x6 x7 x8 x9 x10 x11 x12 x13 x14 x15 x16 x17 x18 x19 : Option D} {r : Sl} (h : K d s) : WR (eV 20 (x0 :: x1 :: x2 :: x3 :: x4 :: x5 :: x6 :: x7 :: x8 :: x9 :: x10 :: x11 :: x12 :: x13 :: x14 :: x15 :: x16 :: x17 :: x18 :: x19 :: some d :: r) s) K E := h
theorem w_V21 {x0 x1 x2 x3 x4 x5 x6 x7 x8 x9 x10 x11 x12 x13 x14 x15 x16 x17 x18 x19 x20 : Option D} {r : Sl} (h : K d s) : WR (eV 21 (x0 :: x1 :: x2 :: x3 :: x4 :: x5 :: x6 :: x7 :: x8 :: x9 :: x10 :: x11 :: x12 :: x13 :: x14 :: x15 :: x16 :: x17 :: x18 :: x19 :: x20 :: some d :: r) s) K E := h
theorem w_V22 {x0 x1 x2 x3 x4 x5 x6 x7 x8 x9 x10 x11 x12 x13 x14 x15 x16 x17 x18 x19 x20 x21 : Option D} {r : Sl} (h : K d s) : WR (eV 22 (x0 :: x1 :: x2 :: x3 :: x4 :: x5 :: x6 :: x7 :: x8 :: x9 :: x10 :: x11 :: x12 :: x13 :: x14 :: x15 :: x16 :: x17 :: x18 :: x19 :: x20 :: x21 :: some d :: r) s) K E := h
theorem w_V23 {x0 x1 x2 x3 x4 x5 x6 x7 x8 x9 x10 x11 x12 x13 x14 x15 x16 x17 x18 x19 x20 x21 x22 : Option D} {r : Sl} (h : K d s) : WR (eV 23 (x0 :: x1 :: x2 :: x3 :: x4 :: x5 :: x6 :: x7 :: x8 :: x9 :: x10 :: x11 :: x12 :: x13 :: x14 :: x15 :: x16 :: x17 :: x18 :: x19 :: x20 :: x21 :: x22 :: some d :: r) s) K E := h
theorem w_V24 {x0 x1 x2 x3 x4 x5 x6 x7 x8 x9 x10 x11 x12 x13 x14 x15 x16 x17 x18 x19 x20 x21 x22 x23 : Option D} {r : Sl} (h : K d s) : WR (eV 24 (x0 :: x1 :: x2 :: x3 :: x4 :: x5 :: x6 :: x7 :: x8 :: x9 :: x10 :: x11 :: x12 :: x13 :: x14 :: x15 :: x16 :: x17 :: x18 :: x19 :: x20 :: x21 :: x22 :: x23 :: some d :: r) s) K E := h
theorem w_V25 {x0 x1 x2 x3 x4 x5 x6 x7 x8 x9 x10 x11 x12 x13 x14 x15 x16 x17 x18 x19 x20 x21 x22 x23 x24 : Option D} {r : Sl} (h : K d s) : WR (eV 25 (x0 :: x1 :: x2 :: x3 :: x4 :: x5 :: x6 :: x7 :: x8 :: x9 :: x10 :: x11 :: x12 :: x13 :: x14 :: x15 :: x16 :: x17 :: x18 :: x19 :: x20 :: x21 :: x22 :: x23 :: x24 :: some d :: r) s) K E := h
theorem w_V26 {x0 x1 x2 x3 x4 x5 x6 x7 x8 x9 x10 x11 x12 x13 x14 x15 x16 x17 x18 x19 x20 x21 x22 x23 x24 x25 : Option D} {r : Sl} (h : K d s) : WR (eV 26 (x0 :: x1 :: x2 :: x3 :: x4 :: x5 :: x6 :: x7 :: x8 :: x9 :: x10 :: x11 :: x12 :: x13 :: x14 :: x15 :: x16 :: x17 :: x18 :: x19 :: x20 :: x21 :: x22 :: x23 :: x24 :: x25 :: some d :: r) s) K E := h
theorem w_V27 {x0 x1 x2 x3 x4 x5 x6 x7 x8 x9 x10 x11 x12 x13 x14 x15 x16 x17 x18 x19 x20 x21 x22 x23 x24 x25 x26 : Option D} {r : Sl} (h : K d s) : WR (eV 27 (x0 :: x1 :: x2 :: x3 :: x4 :: x5 :: x6 :: x7 :: x8 :: x9 :: x10 :: x11 :: x12 :: x13 :: x14 :: x15 :: x16 :: x17 :: x18 :: x19 :: x20 :: x21 :: x22 :: x23 :: x24 :: x25 :: x26 :: some d :: r) s) K E := h
theorem w_V28 {x0 x1 x2 x3 x4 x5 x6 x7 x8 x9 x10 x11 x12 x13 x14 x15 x16 x17 x18 x19 x20 x21 x22 x23 x24 x25 x26 x27 : Option D} {r : Sl} (h : K d s) : WR (eV 28 (x0 :: x1 :: x2 :: x3 :: x4 :: x5 :: x6 :: x7 :: x8 :: x9 :: x10 :: x11 :: x12 :: x13 :: x14 :: x15 :: x16 :: x17 :: x18 :: x19 :: x20 :: x21 :: x22 :: x23 :: x24 :: x25 :: x26 :: x27 :: some d :: r) s) K E := h
theorem w_V29 {x0 x1 x2 x3 x4 x5 x6 x7 x8 x9 x10 x11 x12 x13 x14 x15 x16 x17 x18 x19 x20 x21 x22 x23 x24 x25 x26 x27 x28 : Option D} {r : Sl} (h : K d s) : WR (eV 29 (x0 :: x1 :: x2 :: x3 :: x4 :: x5 :: x6 :: x7 :: x8 :: x9 :: x10 :: x11 :: x12 :: x13 :: x14 :: x15 :: x16 :: x17 :: x18 :: x19 :: x20 :: x21 :: x22 :: x23 :: x24 :: x25 :: x26 :: x27 :: x28 :: some d :: r) s) K E := h
theorem w_V30 {x0 x1 x2 x3 x4 x5 x6 x7 x8 x9 x10 x11 x12 x13 x14 x15 x16 x17 x18 x19 x20 x21 x22 x23 x24 x25 x26 x27 x28 x29 : Option D} {r : Sl} (h : K d s) : WR (eV 30 (x0 :: x1 :: x2 :: x3 :: x4 :: x5 :: x6 :: x7 :: x8 :: x9 :: x10 :: x11 :: x12 :: x13 :: x14 :: x15 :: x16 :: x17 :: x18 :: x19 :: x20 :: x21 :: x22 :: x23 :: x24 :: x25 :: x26 :: x27 :: x28 :: x29 :: some d :: r) s) K E := h
theorem w_V31 {x0 x1 x2 x3 x4 x5 x6 x7 x8 x9 x10 x11 x12 x13 x14 x15 x16 x17 x18 x19 x20 x21 x22 x23 x24 x25 x26 x27 x28 x29 x30 : Option D} {r : Sl} (h : K d s) : WR (eV 31 (x0 :: x1 :: x2 :: x3 :: x4 :: x5 :: x6 :: x7 :: x8 :: x9 :: x10 :: x11 :: x12 :: x13 :: x14 :: x15 :: x16 :: x17 :: x18 :: x19 :: x20 :: x21 :: x22 :: x23 :: x24 :: x25 :: x26 :: x27 :: x28 :: x29 :: x30 :: some d :: r) s) K E := h
theorem w_Vg {i : Nat} (h : WR (eV i env s) K E) : WR (eV i env s) K E := h
theorem w_e2 {g : D → D → Store → Option (D × Store)} (h : WR (a env s) (fun x s => WR (b env s) (fun y s => WO (g x y s) K) E) E) : WR (e2 g a b env s) K E :=
  wr_bind (wr_mono h (fun _ _ h => wr_bind (wr_mono h (fun _ _ h => wr_of h) fun _ _ h => h)) fun _ _ h => h)
theorem w_e1 {g : D → Store → Option (D × Store)} (h : WR (a env s) (fun x s => WO (g x s) K) E) : WR (e1 g a env s) K E :=
  wr_bind (wr_mono h (fun _ _ h => wr_of h) fun _ _ h => h)
theorem w_nil (h : KL [] s) : WR (aNil env s) KL E := h
theorem w_cons (h : WR (a env s) (fun x s => WR (as env s) (fun xs s => KL (x :: xs) s) E) E) : WR (aCons a as env s) KL E :=
  wr_bind (wr_mono h (fun _ _ h => wr_bind (wr_mono h (fun _ _ h => h) fun _ _ h => h)) fun _ _ h => h)
theorem w_fn {g : List D → Store → Option (D × Store)} (h : WR (as env s) (fun xs s => WO (g xs s) K) E) : WR (eFn g as env s) K E :=
  wr_bind (wr_mono h (fun _ _ h => wr_of h) fun _ _ h => h)
/-- a tuple that is written -/
def TupK (xs : List D) (s : Store) (K : D → Store → Prop) : Prop := xs.length ≤ 1000000 ∧ K (.tup xs) s
theorem tupk {xs : List D} (hz : xs.length ≤ 1000000) (h : K (.tup xs) s) : TupK xs s K := ⟨hz, h⟩
theorem w_tup (h : WR (as env s) (fun xs s => TupK xs s K) E) : WR (eTup as env s) K E :=
  wr_bind (wr_mono h (fun _ _ h => by
    show WR (if _ then _ else _) K E
    rw [if_pos (le_line h.1)]
    exact h.2) fun _ _ h => h)
/-- a list that is written: a new cell -/
def NewL (xs : List D) (s : Store) (K : D → Store → Prop) : Prop := xs.length ≤ 1000000 ∧ K (.loc s.length) (s ++ [.lst xs])
theorem w_lst (h : WR (as env s) (fun xs s => NewL xs s K) E) : WR (eLst as env s) K E :=
  wr_bind (wr_mono h (fun _ _ h => by
    show WR (if _ then _ else _) K E
    rw [if_pos (le_line h.1)]
    exact h.2) fun _ _ h => h)
theorem newl {xs : List D} (H : Has s Z) (hz : xs.length ≤ 1000000) (h : ∀ l s', s.length ≤ l → Has s' ((l, Ls xs) :: Z) → K (.loc l) s') : NewL xs s K := ⟨hz, h _ _ (Nat.le_refl _) (H.new _)⟩
theorem w_call {m : List D → Store → R D} (h : WR (as env s) (fun xs s => WR (m xs s) K E) E) : WR (eCall m as env s) K E := wr_bind h
theorem w_tV (h : WR (a env s) (fun x s => WB x fun b => KB b s) E) : WR (tV a env s) KB E :=
  wr_bind (wr_mono h (fun x _ h => by cases x <;> first | exact h | exact False.elim h) fun _ _ h => h)
theorem wb {b : Bool} {k : Bool → Prop} (h : k b) : WB (.bl b) k := h
def TruK (x : D) (s : Store) (KB : Bool → Store → Prop) : Prop := ∃ b, dTru s x = some b ∧ KB b s
theorem w_tru (h : WR (a env s) (fun x s => TruK x s KB) E) : WR (tTru a env s) KB E :=
  wr_bind (wr_mono h (fun x _ ⟨b, e, h⟩ => by rw [e]; exact h) fun _ _ h => h)
theorem tru {b : Bool} (e : dTru s x = some b) (h : KB b s) : TruK x s KB := ⟨b, e, h⟩
theorem tru_b {b : Bool} (h : KB b s) : TruK (.bl b) s KB := ⟨b, rfl, h⟩
theorem tru_n (h : KB false s) : TruK .non s KB := ⟨_, rfl, h⟩
theorem tru_i {i : Int} (h : KB (i != 0) s) : TruK (.int i) s KB := ⟨_, rfl, h⟩
theorem tru_t {xs : List D} (h : KB (!xs.isEmpty) s) : TruK (.tup xs) s KB := ⟨_, rfl, h⟩
theorem tru_l {xs : List D} {l : Nat} {Z : Hs} (H : Has s Z) (hm : (l, Ls xs) ∈ Z) (h : KB (!xs.isEmpty) s) : TruK (.loc l) s KB := ⟨_, dTru_loc (H.lst hm), h⟩
theorem w_and (h : WR (t env s) (fun b s => WI b (WR (u env s) KB E) (KB false s)) E) : WR (tAnd t u env s) KB E :=
  wr_bind (wr_mono h (fun b _ h => wi_if (⟨h.1, h.2⟩ : WI b _ _)) fun _ _ h => h)
theorem w_or (h : WR (t env s) (fun b s => WI b (KB true s) (WR (u env s) KB E)) E) : WR (tOr t u env s) KB E :=
  wr_bind (wr_mono h (fun b _ h => wi_if (⟨h.1, h.2⟩ : WI b _ _)) fun _ _ h => h)
theorem w_not (h : WR (t env s) (fun b s => KB (!b) s) E) : WR (tNot t env s) KB E :=
  wr_bind (wr_mono h (fun b _ h => h) fun _ _ h => h)
theorem w_tT (h : KB true s) : WR (tT env s) KB E := h
theorem w_eif (h : WR (t env s) (fun b s => WI b (WR (a env s) K E) (WR (c env s) K E)) E) : WR (eIf t a c env s) K E :=
  wr_bind (wr_mono h (fun b _ h => wi_if h) fun _ _ h => h)
theorem w_eAnd (h : WR (a env s) (fun x s => WB x fun k => WI k (WR (b env s) K E) (K (.bl false) s)) E) : WR (eAnd a b env s) K E :=
  wr_bind (wr_mono h (fun x _ h => by cases x <;> first | exact False.elim h | (rename_i k; cases k; (· exact h.2 rfl); (· exact h.1 rfl))) fun _ _ h => h)
theorem w_eOr (h : WR (a env s) (fun x s => WB x fun k => WI k (K (.bl true) s) (WR (b env s) K E)) E) : WR (eOr a b env s) K E :=
  wr_bind (wr_mono h (fun x _ h => by cases x <;> first | exact False.elim h | (rename_i k; cases k; (· exact h.2 rfl); (· exact h.1 rfl))) fun _ _ h => h)
theorem w_eNot (h : WR (a env s) (fun x s => WB x fun k => K (.bl !k) s) E) : WR (eNot a env s) K E :=
  wr_bind (wr_mono h (fun x _ h => by cases x <;> first | exact False.elim h | exact h) fun _ _ h => h)
theorem w_chain {g g' : D → D → Store → Option (D × Store)} (h : WR (a env s) (fun x s => WR (b env s) (fun y s => WO (g x y s) fun z s => WB z fun k => WI k (WR (c env s) (fun w s => WO (g' y w s) K) E) (K (.bl false) s)) E) E) : WR (eChain g g' a b c env s) K E :=
  wr_bind (wr_mono h (fun x _ h => wr_bind (wr_mono h (fun y _ h => wr_bind (wr_mono (wr_of h) (fun z _ h => by
    cases z <;> first | exact False.elim h | (rename_i k; cases k; (· exact h.2 rfl); (· exact wr_bind (wr_mono (h.1 rfl) (fun _ _ h => wr_of h) fun _ _ h => h)))) fun _ _ h => h)) fun _ _ h => h)) fun _ _ h => h)
def MtK (T : String) (x : D) (s : Store) (A : Prop) : Prop := tyOk T s x = true ∧ A
theorem mt_lst {xs : List D} {l : Nat} {Z : Hs} (H : Has s Z) (hm : (l, Ls xs) ∈ Z) (h : A) : MtK "list" (.loc l) s A := ⟨tyOk_list (H.lst hm), h⟩
theorem mt_str {z : Str} (h : A) : MtK "str" (.str z) s A := ⟨rfl, h⟩
theorem w_mt {T : String} {g : D → List D → Store → Option (D × Store)} (h : WR (a env s) (fun x s => MtK T x s (WR (as env s) (fun xs s => WO (g x xs s) K) E)) E) : WR (eMt T g a as env s) K E :=
  wr_bind (wr_mono h (fun x _ h => by rw [if_pos h.1]; exact wr_bind (wr_mono h.2 (fun _ _ h => wr_of h) fun _ _ h => h)) fun _ _ h => h)
theorem w_mt0 {T : String} {g : D → List D → Store → Option (D × Store)} (h : WR (a env s) (fun x s => MtK T x s (WO (g x [] s) K)) E) : WR (eMt0 T g a env s) K E :=
  wr_bind (wr_mono h (fun x _ h => by rw [if_pos h.1]; exact wr_of h.2) fun _ _ h => h)
theorem w_oN (h : KO none s) : WR (oNone env s) KO E := h
def OiK (x : D) (s : Store) (KO : Option Int → Store → Prop) : Prop := ∃ i, x = .int i ∧ KO (some i) s
theorem w_oS (h : WR (a env s) (fun x s => OiK x s KO) E) : WR (oSome a env s) KO E :=
  wr_bind (wr_mono h (fun x _ ⟨i, e, h⟩ => by subst e; exact h) fun _ _ h => h)
theorem oi {i : Int} (h : KO (some i) s) : OiK (.int i) s KO := ⟨i, rfl, h⟩
theorem w_sl {g : D → Option Int → Option Int → Store → Option (D × Store)} {lo hi : ME (Option Int)} (h : WR (a env s) (fun x s => WR (lo env s) (fun l s => WR (hi env s) (fun u s => WO (g x l u s) K) E) E) E) : WR (eSl g a lo hi env s) K E :=
  wr_bind (wr_mono h (fun _ _ h => wr_bind (wr_mono h (fun _ _ h => wr_bind (wr_mono h (fun _ _ h => wr_of h) fun _ _ h => h)) fun _ _ h => h)) fun _ _ h => h)
/-! #### statements -/
theorem w_seq (h : Bd P g (f env s)) : P (sSeq f g env s) := h
theorem bd_nx (h : P (g env s)) : Bd P g (.nx env s) := h
theorem bd_rt (h : P (.rt d s)) : Bd P g (.rt d s) := h
theorem bd_ct (h : P (.ct env s)) : Bd P g (.ct env s) := h
theorem bd_bk (h : P (.bk env s)) : Bd P g (.bk env s) := h
theorem bd_ex {e : Ex} (h : P (.ex e env s)) : Bd P g (.ex e env s) := h
/-- it goes on -/
def Nx (Q : Sl → Store → Prop) : RS → Prop
  | .nx env s => Q env s
  | _ => False
theorem nx_nx {Q : Sl → Store → Prop} (h : Q env s) : Nx Q (.nx env s) := h
theorem bd_cut {r : RS} (Q : Sl → Store → Prop) (h : Nx Q r) (k : ∀ env s, Q env s → P (g env s)) : Bd P g r := by
  cases r with
  | nx env s => exact k env s h
  | _ => exact False.elim h
theorem w_then {r : R α} {k : α → Store → RS} (h : WR r (fun a s => P (k a s)) (fun e s => P (.ex e env s))) : P (r.then env k) := by
  cases r with
  | ok a s => exact h
  | ex x s => exact h
  | no => exact False.elim h
theorem w_sNil (h : P (.nx env s)) : P (sNil env s) := h
theorem w_set {i : Nat} (h : WR (a env s) (fun d s => P (.nx (env.set i (some d)) s)) (fun e s => P (.ex e env s))) : P (sSet i a env s) := w_then h
def AsgK (gt : D → Sl → Option Sl) (d : D) (env : Sl) (s : Store) (P : RS → Prop) : Prop := ∃ env', gt d env = some env' ∧ P (.nx env' s)
theorem asg {gt : D → Sl → Option Sl} (e : gt d env = some env2) (h : P (.nx env2 s)) : AsgK gt d env s P := ⟨_, e, h⟩
theorem w_asg {gt : D → Sl → Option Sl} (h : WR (a env s) (fun d s => AsgK gt d env s P) (fun e s => P (.ex e env s))) : P (sAsg gt a env s) :=
  w_then (wr_mono h (fun d _ ⟨env', e, h⟩ => by rw [e]; exact h) fun _ _ h => h)
def AsgLK (n : Nat) (r : List D → Sl → Option Sl) (d : D) (env : Sl) (s : Store) (P : RS → Prop) : Prop := ∃ xs env', lstOf s d = some xs ∧ xs.length = n ∧ r xs env = some env' ∧ P (.nx env' s)
theorem asgL {n : Nat} {r : List D → Sl → Option Sl} {xs : List D} {l : Nat} {Z : Hs} (H : Has s Z) (hm : (l, Ls xs) ∈ Z) (hl : xs.length = n) (e : r xs env = some env2) (h : P (.nx env2 s)) : AsgLK n r (.loc l) env s P := ⟨xs, env2, by simp [lstOf, H.lst hm], hl, e, h⟩
theorem w_asgL {n : Nat} {r : List D → Sl → Option Sl} (h : WR (a env s) (fun d s => AsgLK n r d env s P) (fun e s => P (.ex e env s))) : P (sAsgL n r a env s) :=
  w_then (wr_mono h (fun d _ ⟨xs, env', e, hl, e2, h⟩ => by simp only [e, hl, if_true, e2]; exact h) fun _ _ h => h)
theorem w_if (h : WR (t env s) (fun b s => WI b (P (f env s)) (P (g env s))) (fun e s => P (.ex e env s))) : P (sIf t f g env s) :=
  w_then (wr_mono h (fun b _ h => by cases b; (· exact h.2 rfl); (· exact h.1 rfl)) fun _ _ h => h)
theorem w_ret (h : WR (a env s) (fun d s => P (.rt d s)) (fun e s => P (.ex e env s))) : P (sRet a env s) := w_then h
theorem w_retN (h : P (.rt .non s)) : P (sRetN env s) := h
theorem w_expr (h : WR (a env s) (fun _ s => P (.nx env s)) (fun e s => P (.ex e env s))) : P (sExpr a env s) := w_then h
theorem w_brk (h : P (.bk env s)) : P (sBrk env s) := h
theorem w_cnt (h : P (.ct env s)) : P (sCnt env s) := h
def PutK (gp : D → D → D → Store → Option Store) (x y d : D) (env : Sl) (s : Store) (P : RS → Prop) : Prop := ∃ s', gp x y d s = some s' ∧ P (.nx env s')
theorem putk {gp : D → D → D → Store → Option Store} {y : D} {s'' : Store} (e : gp x y d s = some s'') (h : P (.nx env s'')) : PutK gp x y d env s P := ⟨_, e, h⟩
theorem w_put {gp : D → D → D → Store → Option Store} (h : WR (c env s) (fun d s => WR (a env s) (fun x s => WR (b env s) (fun y s => PutK gp x y d env s P) (fun e s => P (.ex e env s))) (fun e s => P (.ex e env s))) (fun e s => P (.ex e env s))) : P (sPut gp a b c env s) :=
  w_then (wr_mono h (fun _ _ h => w_then (wr_mono h (fun _ _ h => w_then (wr_mono h (fun _ _ ⟨s', e, h⟩ => by rw [e]; exact h) fun _ _ h => h)) fun _ _ h => h)) fun _ _ h => h)
theorem w_augg {i : Nat} {gp : D → D → Store → Option (D × Store)} (h : P (sAug i gp a env s)) : P (sAug i gp a env s) := h
theorem w_aug {i : Nat} {gp : D → D → Store → Option (D × Store)} (e : env[i]? = some (some x)) (h : WR (a env s) (fun y s => WO (gp x y s) fun z s => P (.nx (env.set i (some z)) s)) (fun e s => P (.ex e env s))) : P (sAug i gp a env s) := by
  rw [sAug_eq, e]
  exact w_then (wr_mono h (fun y s h => by
    obtain ⟨d, s2, e, h⟩ := wo_out h
    rw [e]
    exact h) fun _ _ h => h)
theorem w_raise {c : Str} {ns : List Str} (h : WR (as env s) (fun xs s => xs.length = ns.length ∧ P (.ex ⟨c, (ns.zip xs).reverse⟩ env s)) (fun e s => P (.ex e env s))) : P (sRaise c ns as env s) :=
  w_then (wr_mono h (fun xs _ h => by rw [if_pos h.1]; exact h.2) fun _ _ h => h)
theorem w_for {it : ME Itm} {gt : D → Sl → Option Sl} (h : WR (it env s) (fun i s => P (forL i.guard gt f i.xs env s)) (fun e s => P (.ex e env s))) : P (sFor it gt f env s) := w_then h
theorem fin_rt (h : K d s) : Fin K E (.rt d s) := h
theorem fin_nx (h : K .non s) : Fin K E (.nx env s) := h
theorem fin_ex {e : Ex} (h : E e s) : Fin K E (.ex e env s) := h
theorem w_fnM {N n : Nat} {ds : List D} (h : Fin K E (f (ds.map some ++ List.replicate (N - n) none) s)) : WR (fnM N n f ds s) K E := by
  rw [fnM_eq]
  cases e : f (ds.map some ++ List.replicate (N - n) none) s <;> rw [e] at h <;> exact h
theorem tn_nx {I : Sl → Store → Prop} (h : I env s) : Turns I P (.nx env s) := h
theorem tn_ct {I : Sl → Store → Prop} (h : I env s) : Turns I P (.ct env s) := h
theorem tn_bk {I : Sl → Store → Prop} (h : P (.nx env s)) : Turns I P (.bk env s) := h
theorem tn_rt {I : Sl → Store → Prop} (h : P (.rt d s)) : Turns I P (.rt d s) := h
theorem tn_ex {I : Sl → Store → Prop} {e : Ex} (h : P (.ex e env s)) : Turns I P (.ex e env s) := h
/-! #### what is gone through -/
def SeqK (x : D) (s : Store) (KI : Itm → Store → Prop) : Prop := ∃ xs gd, (∀ env, iSeq (eC x) env s = .ok (Itm.mk xs gd) s) ∧ KI (Itm.mk xs gd) s
theorem w_iSeq (h : WR (a env s) (fun x s => SeqK x s KI) E) : WR (iSeq a env s) KI E :=
  wr_bind (wr_mono h (fun x s ⟨xs, gd, e, h⟩ => wr_eq (e env) h) fun _ _ h => h)
theorem is_tup {xs : List D} (h : KI (Itm.mk xs always) s) : SeqK (.tup xs) s KI := ⟨_, _, fun _ => rfl, h⟩
theorem is_fl {xs : List D} (h : KI (Itm.mk xs always) s) : SeqK (.fl xs) s KI := ⟨_, _, fun _ => rfl, h⟩
theorem is_str {z : Str} (h : KI (Itm.mk (z.cps.toList.map fun c => .str ⟨#[c]⟩) always) s) : SeqK (.str z) s KI := ⟨_, _, fun _ => rfl, h⟩
theorem is_lst {xs : List D} {l : Nat} (g : s[l]? = some (.lst xs)) (h : KI (Itm.mk xs fun s2 => s2[l]? = some (.lst xs)) s) : SeqK (.loc l) s KI := ⟨_, _, fun _ => by simp [iSeq, eC, g], h⟩
theorem is_lstH {xs : List D} {l : Nat} {Z : Hs} (H : Has s Z) (hm : (l, Ls xs) ∈ Z) (h : KI (Itm.mk xs fun s2 => s2[l]? = some (.lst xs)) s) : SeqK (.loc l) s KI := is_lst (H.lst hm) h
def RngK (xs : List D) (s : Store) (KI : Itm → Store → Prop) : Prop := ∃ n : Nat, xs = [.int (n : Int)] ∧ n ≤ 1000000 ∧ KI (Itm.mk (rng n) always) s
theorem w_rng (h : WR (as env s) (fun xs s => RngK xs s KI) E) : WR (iRange1 as env s) KI E := by
  rw [iRange1_eq]
  exact wr_bind (wr_mono h (fun xs s ⟨n, e, hn, h⟩ => by
    subst e
    rw [rangeOf_int s (n : Int) (by omega) (by omega)]
    rw [Int.toNat_natCast]
    exact h) fun _ _ h => h)
theorem rg {n : Nat} {i : Int} (e : i = (n : Int)) (hn : n ≤ 1000000) (h : KI (Itm.mk (rng n) always) s) : RngK [.int i] s KI := ⟨n, by rw [e], hn, h⟩
def Rng2K (xs : List D) (s : Store) (KI : Itm → Store → Prop) : Prop := ∃ (lo : Int) (n : Nat), xs = [.int lo, .int (lo + (n : Int))] ∧ 0 ≤ lo ∧ lo ≤ 1000000 ∧ n ≤ 1000000 ∧ KI (Itm.mk (rng2 lo n) always) s
theorem w_rng2 (h : WR (as env s) (fun xs s => Rng2K xs s KI) E) : WR (iRange2 as env s) KI E := by
  rw [iRange2_eq]
  exact wr_bind (wr_mono h (fun xs s ⟨lo, n, e, h0, h1, hn, h⟩ => by
    subst e
    rw [range2_int lo (lo + n) s (by omega) (by omega) (by omega) (by omega)]
    rw [show lo + (n : Int) - lo = (n : Int) by omega, Int.toNat_natCast]
    exact h) fun _ _ h => h)
theorem rg2 {n : Nat} {i j : Int} (e : j = i + (n : Int)) (h0 : 0 ≤ i) (h1 : i ≤ 1000000) (hn : n ≤ 1000000) (h : KI (Itm.mk (rng2 i n) always) s) : Rng2K [.int i, .int j] s KI := ⟨i, n, by rw [e], h0, h1, hn, h⟩
/-! #### loops -/
theorem w_forA {gd : Store → Prop} {gt : D → Sl → Option Sl} {xs : List D} (I : Nat → Sl → Store → Prop) (h0 : I 0 env s) (hg : ∀ i env s, I i env s → gd s)
    (hs : ∀ i d env s, xs[i]? = some d → I i env s → Turns (I (i + 1)) P (turn gt f d env s)) (he : ∀ env s, I xs.length env s → P (.nx env s)) : P (forL gd gt f xs env s) :=
  forL_at xs I P hg hs he h0
theorem w_forN {i0 n : Nat} (I : Nat → Sl → Store → Prop) (h0 : I 0 env s)
    (hs : ∀ i env s, i < n → I i env s → Turns (I (i + 1)) P (f (env.set i0 (some (.int (i : Nat)))) s)) (he : ∀ env s, I n env s → P (.nx env s)) : P (forL always (gN i0) f (rng n) env s) :=
  forL_at (rng n) I P (fun _ _ _ _ => trivial) (fun i d env s hd hi => by
    obtain ⟨h1, rfl⟩ := rng_get hd
    exact hs i env s h1 hi) (fun env s h => he env s (by rw [rng_len] at h; exact h)) h0
/-! #### comprehensions -/
theorem w_lc {it : ME Itm} {vs : List Nat} {gt : D → Sl → Option Sl} (h : WR (it env s) (fun i s => WR (lcL i.guard gt t a (wipeE env vs) i.xs [] s) (fun acc s => K (.loc s.length) (s ++ [.lst acc])) E) E) : WR (eLc it vs gt t a env s) K E :=
  wr_bind (wr_mono h (fun _ _ h => wr_bind h) fun _ _ h => h)
/-- one item -/
def Pk (gt : D → Sl → Option Sl) (t : ME Bool) (a : ME D) (x : D) (env : Sl) (s : Store) (yes : D → Store → Prop) (no : Store → Prop) : Prop := match gt x env with
  | none => False
  | some env1 => WR (t env1 s) (fun b s => WI b (WR (a env1 s) yes NoE) (no s)) NoE
theorem pk_gN {i : Nat} {yes : D → Store → Prop} {no : Store → Prop} (h : WR (t (env.set i (some x)) s) (fun b s => WI b (WR (a (env.set i (some x)) s) yes NoE) (no s)) NoE) : Pk (gN i) t a x env s yes no := h
theorem w_lcA {gd : Store → Prop} {gt : D → Sl → Option Sl} {xs : List D} (I : Nat → List D → Store → Prop) (h0 : I 0 [] s) (hz : xs.length ≤ 1000000) (hg : ∀ i acc s, I i acc s → gd s)
    (hs : ∀ i d acc s, xs[i]? = some d → acc.length ≤ i → I i acc s → Pk gt t a d env s (fun y s => I (i + 1) (acc ++ [y]) s) (fun s => I (i + 1) acc s)) (he : ∀ acc s, acc.length ≤ xs.length → I xs.length acc s → KL acc s) : WR (lcL gd gt t a env xs [] s) KL E := by
  obtain ⟨acc', s', e, hl, hi⟩ := lcL_at (gd := gd) (g := gt) (t := t) (e := a) (env := env) xs (fun i acc s => (acc.length ≤ i ∧ i ≤ xs.length) ∧ I i acc s) (fun i acc s h => hg i acc s h.2) (fun i d acc s hd ⟨hl, hi⟩ => by
    have hlt := (List.getElem?_eq_some_iff.mp hd).1
    have q := hs i d acc s hd hl.1 hi
    unfold Pk at q
    unfold pick
    cases e1 : gt d env with
    | none => rw [e1] at q; exact q.elim
    | some env1 =>
      rw [e1] at q
      dsimp only at q ⊢
      cases e2 : t env1 s with
      | no => rw [e2] at q; exact q.elim
      | ex x s => rw [e2] at q; exact q.elim
      | ok b s2 =>
        rw [e2] at q
        cases b with
        | false => exact ⟨⟨by omega, by omega⟩, q.2 rfl⟩
        | true =>
          have q := q.1 rfl
          simp only [R.bind_ok, if_true]
          cases e3 : a env1 s2 with
          | no => rw [e3] at q; exact q.elim
          | ex x s => rw [e3] at q; exact q.elim
          | ok y s3 =>
            rw [e3] at q
            exact ⟨by omega, ⟨by simp; omega, by omega⟩, q⟩) (acc := []) (s := s) ⟨⟨Nat.le_refl _, Nat.zero_le _⟩, h0⟩
  exact wr_eq e (he acc' s' hl.1 hi)
/-! #### values -/
theorem wo_go {o : Option (D × Store)} (h : WO o K) : WO o K := h
theorem wo_some (h : K d s) : WO (some (d, s)) K := h
theorem o_mul {i j : Int} (h : (-(2 ^ 64) < i ∧ i < 2 ^ 64) ∨ (-(2 ^ 64) < j ∧ j < 2 ^ 64)) (k : K (.int (i * j)) s) : WO (dMul (.int i) (.int j) s) K := wo_eq (dMul_int i j s h) k
theorem o_div {i j : Int} (h : 0 < j ∧ j < 1073741824) (k : K (.int (i / j)) s) : WO (dDiv (.int i) (.int j) s) K := wo_eq (dDiv_int i j s h) k
theorem o_mod {i j : Int} (h : 0 < j) (k : K (.int (i % j)) s) : WO (dMod (.int i) (.int j) s) K := wo_eq (dMod_int i j s h) k
theorem o_pow {i j : Int} (h : 0 ≤ j ∧ j ≤ 1000000 ∧ i.natAbs < 2 ^ 64) (k : K (.int (i ^ j.toNat)) s) : WO (dPow (.int i) (.int j) s) K := wo_eq (dPow_int i j s h) k
theorem o_max {i j : Int} (k : K (.int (max i j)) s) : WO (dMax2 [.int i, .int j] s) K := wo_eq (dMax2_max i j s) k
theorem o_min {i j : Int} (k : K (.int (min i j)) s) : WO (dMin2 [.int i, .int j] s) K := wo_eq (dMin2_min i j s) k
theorem o_is {T : String} {b : Bool} (e : dIsi T x s = some (.bl b, s)) (k : K (.bl b) s) : WO (dIsi T x s) K := wo_eq e k
/-- an item of a tuple -/
theorem o_ixT {xs : List D} {i : Int} (e : L2.atI xs i = some d) (k : K d s) : WO (dIx (.tup xs) (.int i) s) K := wo_eq (by rw [dIx_tup, e]; rfl) k
theorem o_ixA {xs : List D} {i : Int} (e : L2.atI xs i = some d) (k : K d s) : WO (dIxA (.tup xs) (.int i) s) K := wo_eq (by rw [dIxA_tup, dIx_tup, e]; rfl) k
theorem o_ixL {xs : List D} {l : Nat} {i : Int} (H : Has s Z) (hm : (l, Ls xs) ∈ Z) (e : L2.atI xs i = some d) (k : K d s) : WO (dIx (.loc l) (.int i) s) K := wo_eq (by rw [dIx_loc (H.lst hm), e]; rfl) k
theorem o_ixTm {xs : List D} {i : Int} (h0 : 0 ≤ i) (h1 : i < xs.length) (k : ∀ d ∈ xs, xs[i.toNat]? = some d → K d s) : WO (dIx (.tup xs) (.int i) s) K := by
  obtain ⟨n, rfl⟩ := Int.eq_ofNat_of_zero_le h0
  have hn : n < xs.length := by omega
  exact o_ixT (L2.atI_nat (v := xs[n]) (by simp [hn])) (k _ (List.getElem_mem _) (by simp [hn]))
theorem o_ixLm {xs : List D} {l : Nat} {i : Int} (H : Has s Z) (hm : (l, Ls xs) ∈ Z) (h0 : 0 ≤ i) (h1 : i < xs.length) (k : ∀ d ∈ xs, xs[i.toNat]? = some d → K d s) : WO (dIx (.loc l) (.int i) s) K := by
  obtain ⟨n, rfl⟩ := Int.eq_ofNat_of_zero_le h0
  have hn : n < xs.length := by omega
  exact o_ixL H hm (L2.atI_nat (v := xs[n]) (by simp [hn])) (k _ (List.getElem_mem _) (by simp [hn]))
theorem o_lenL {xs : List D} {l : Nat} (H : Has s Z) (hm : (l, Ls xs) ∈ Z) (k : K (.int xs.length) s) : WO (dLen [.loc l] s) K := wo_eq (dLen_loc (H.lst hm)) k
theorem o_lenT {xs : List D} (k : K (.int xs.length) s) : WO (dLen [.tup xs] s) K := k
theorem o_tupL {xs : List D} {l : Nat} (H : Has s Z) (hm : (l, Ls xs) ∈ Z) (k : K (.tup xs) s) : WO (dTuple [.loc l] s) K := wo_eq (dTuple_loc (H.lst hm)) k
theorem o_sumL {ns : List Int} {l : Nat} (H : Has s Z) (hm : (l, Ls (ns.map D.int)) ∈ Z) (k : K (.int ns.sum) s) : WO (dSum [.loc l] s) K := wo_eq (dSum_loc (H.lst hm)) k
theorem o_app {xs : List D} {l : Nat} {y : D} (H : Has s Z) (i : Nat) (hi : Z[i]? = some (l, Ls xs)) (hz : xs.length ≤ 1000000) (k : ∀ s', Has s' (Z.set i (l, Ls (xs ++ [y]))) → K .non s') : WO (dAppend (.loc l) [y] s) K :=
  wo_eq (dAppend_loc (H.lst (List.mem_of_getElem? hi)) hz y) (k _ (H.put i hi rfl))
theorem o_pop {xs : List D} {l : Nat} {y : D} (H : Has s Z) (i : Nat) (hi : Z[i]? = some (l, Ls (xs ++ [y]))) (k : ∀ s', Has s' (Z.set i (l, Ls xs)) → K y s') : WO (dPop (.loc l) [] s) K :=
  wo_eq (dPop_loc (H.lst (List.mem_of_getElem? hi))) (k _ (H.put i hi rfl))
theorem o_addL {xs ys : List D} {l k : Nat} (H : Has s Z) (hm : (l, Ls xs) ∈ Z) (hn : (k, Ls ys) ∈ Z) (hz : xs.length + ys.length ≤ 1000000) (q : ∀ l s', s.length ≤ l → Has s' ((l, Ls (xs ++ ys)) :: Z) → K (.loc l) s') : WO (dAdd (.loc l) (.loc k) s) K :=
  wo_eq (dAdd_loc (H.lst hm) (H.lst hn) hz) (q _ _ (Nat.le_refl _) (H.new _))
theorem o_addT {xs ys : List D} (hz : xs.length + ys.length ≤ 1000000) (q : K (.tup (xs ++ ys)) s) : WO (dAdd (.tup xs) (.tup ys) s) K := wo_eq (dAdd_tup hz) q
theorem o_slT {xs : List D} {lo hi : Option Int} (q : K (.tup (cutD xs lo hi)) s) : WO (dSlZ (.tup xs) lo hi s) K := q
theorem o_slL {xs : List D} {l : Nat} {lo hi : Option Int} (H : Has s Z) (hm : (l, Ls xs) ∈ Z) (q : ∀ k s', s.length ≤ k → Has s' ((k, Ls (cutD xs lo hi)) :: Z) → K (.loc k) s') : WO (dSlZ (.loc l) lo hi s) K :=
  wo_eq (by rw [dSlZ_loc]; simp [dSl, lstOf, H.lst hm]) (q _ _ (Nat.le_refl _) (H.new _))
theorem o_listT {xs : List D} (H : Has s Z) (q : ∀ l s', s.length ≤ l → Has s' ((l, Ls xs) :: Z) → K (.loc l) s') : WO (dList [.tup xs] s) K := q _ _ (Nat.le_refl _) (H.new _)
theorem o_listL {xs : List D} {l : Nat} (H : Has s Z) (hm : (l, Ls xs) ∈ Z) (q : ∀ l s', s.length ≤ l → Has s' ((l, Ls xs) :: Z) → K (.loc l) s') : WO (dList [.loc l] s) K := wo_eq (by simp [dList, seqOf, lstOf, H.lst hm]) (q _ _ (Nat.le_refl _) (H.new _))
theorem ty_lst {xs : List D} {l : Nat} (H : Has s Z) (hm : (l, Ls xs) ∈ Z) : tyOk "list" s (.loc l) = true := tyOk_list (H.lst hm)
end
end Mi
namespace Mi
open PySem PySem.Spec PyProof.Rows L2
/-! ### bits -/
section
variable {K : PySem.W.Frag}
noncomputable def dShl := dI fun i j => if CPow i j then some (.int (i * 2 ^ j.toNat)) else none
theorem ops_shl : OpS K (rI CPow fun i j => .int (i * 2 ^ j.toNat)) dShl := ops_dI fun i j d h => by
  split at h
  · cases h; exact ⟨by assumption, fun _ _ => .int _⟩
  · cases h
noncomputable def dShr := dI fun i j => if 0 ≤ j then some (.int (i / 2 ^ j.toNat)) else none
theorem ops_shr : OpS K (rI (fun _ j => 0 ≤ j) fun i j => .int (i / 2 ^ j.toNat)) dShr := ops_dI fun i j d h => by
  split at h
  · cases h; exact ⟨by assumption, fun _ _ => .int _⟩
  · cases h
def dBand := dI fun i j => some (.int (Builtin.bitAnd i j))
theorem ops_band : OpS K (rI0 fun i j => .int (Builtin.bitAnd i j)) dBand := ops_dI0 fun _ _ _ _ => .int _
def dBor := dI fun i j => some (.int (Builtin.bitOr i j))
theorem ops_bor : OpS K (rI0 fun i j => .int (Builtin.bitOr i j)) dBor := ops_dI0 fun _ _ _ _ => .int _
def dBxor := dI fun i j => some (.int (Builtin.bitXor i j))
theorem ops_bxor : OpS K (rI0 fun i j => .int (Builtin.bitXor i j)) dBxor := ops_dI0 fun _ _ _ _ => .int _
end
/-! ### zip(a, b), two tuples or two lists -/
def zipD (xs ys : List D) : List D := (xs.zip ys).map fun p => .tup [p.1, p.2]
theorem zip_len (xs ys : List D) : (zipD xs ys).length = min xs.length ys.length := by simp [zipD]
theorem zip_get {xs ys : List D} {i : Nat} {d : D} (h : (zipD xs ys)[i]? = some d) : ∃ x y, xs[i]? = some x ∧ ys[i]? = some y ∧ d = .tup [x, y] := by
  unfold zipD at h
  rw [List.getElem?_map] at h
  cases e : (xs.zip ys)[i]? with
  | none => rw [e] at h; cases h
  | some p =>
    rw [e] at h
    cases h
    obtain ⟨h1, h2⟩ := List.getElem?_zip_eq_some.mp e
    exact ⟨p.1, p.2, h1, h2, rfl⟩
def iZip (a : ME (List D)) : ME Itm := fun env s => (a env s).bind fun x s => match x with
  | [.tup xs, .tup ys] => .ok (Itm.mk (zipD xs ys) always) s
  | [x, y] => match lstOf s x, lstOf s y with
    | some xs, some ys => .ok (Itm.mk (zipD xs ys) (fun s2 => lstOf s2 x = some xs ∧ lstOf s2 y = some ys)) s
    | _, _ => .no
  | _ => .no
section
variable {K : PySem.W.Frag} {m : List Addr} {H : Hp}
theorem zip_turn {m2 : List Addr} {H2 H3 : Hp} {s2 : Store} {v x1 y1 : V} {x y : D} (r2 : Rel K m2 H2 s2) (hx : Rep K m2 H2 x x1) (hy : Rep K m2 H2 y y1) {T : Addr} (ev : v = .ref T) (hT : H2 T = none) (h3 : H3 = upd H2 T (.tup [x1, y1])) :
    Le K m2 H2 m2 H3 ∧ Rel K m2 H3 s2 ∧ Rep K m2 H3 (.tup [x, y]) v := by
  subst ev h3
  exact ⟨le_new hT, r2.tmp hT, rep_newtup hT (.cons hx (.cons hy .nil))⟩
theorem itr_zipT {xs ys : List D} {vs ws : List V} {a b : Addr} (h : SqT K H a vs) (h' : SqT K H b ws) (p : Reps K m H xs vs) (p' : Reps K m H ys ws) : ItR K m H ⟨zipD xs ys, always⟩ (RZ.ItzT K a b) := fun m2 H2 s2 l2 r2 g => by
  have hq : SqT K H2 a vs := l2.tup a vs h
  have hq' : SqT K H2 b ws := l2.tup b ws h'
  have h2 := p.monoW l2
  have h2' := p'.monoW l2
  refine ⟨fun i d e => ?_, ⟨vs, ws, hq, hq', by
    show vs.length ≤ (zipD xs ys).length ∨ ws.length ≤ (zipD xs ys).length
    rw [zip_len, ← h2.length, ← h2'.length]
    omega⟩⟩
  obtain ⟨x, y, hx, hy, rfl⟩ := zip_get e
  obtain ⟨v, hv, rv⟩ := h2.get hx
  obtain ⟨v', hv', rv'⟩ := h2'.get hy
  refine ⟨⟨vs, ws, v, v', hq, hq', hv, hv'⟩, fun w H3 yl => ?_⟩
  obtain ⟨T, z, z', ev, hT, h3, y1, y2⟩ := yl
  have e1 := y1 vs hq
  have e2 := y2 ws hq'
  rw [hv] at e1
  rw [hv'] at e2
  cases e1
  cases e2
  exact zip_turn r2 rv rv' ev hT h3
theorem itr_zipL {x y : D} {xs ys : List D} {a b : Addr} (hx : ∀ m2 H2 s2, Lw K m H m2 H2 → Rel K m2 H2 s2 → lstOf s2 x = some xs → ∃ vs, SqL K H2 a vs ∧ Reps K m2 H2 xs vs) (hy : ∀ m2 H2 s2, Lw K m H m2 H2 → Rel K m2 H2 s2 → lstOf s2 y = some ys → ∃ vs, SqL K H2 b vs ∧ Reps K m2 H2 ys vs) : ItR K m H ⟨zipD xs ys, fun s2 => lstOf s2 x = some xs ∧ lstOf s2 y = some ys⟩ (Itz K a b) := fun m2 H2 s2 l2 r2 g => by
  obtain ⟨vs, hq, h2⟩ := hx m2 H2 s2 l2 r2 g.1
  obtain ⟨ws, hq', h2'⟩ := hy m2 H2 s2 l2 r2 g.2
  refine ⟨fun i d e => ?_, ⟨vs, ws, hq, hq', by
    show vs.length ≤ (zipD xs ys).length ∨ ws.length ≤ (zipD xs ys).length
    rw [zip_len, ← h2.length, ← h2'.length]
    omega⟩⟩
  obtain ⟨x, y, hx, hy, rfl⟩ := zip_get e
  obtain ⟨v, hv, rv⟩ := h2.get hx
  obtain ⟨v', hv', rv'⟩ := h2'.get hy
  refine ⟨⟨vs, ws, v, v', hq, hq', hv, hv'⟩, fun w H3 yl => ?_⟩
  obtain ⟨T, z, z', ev, hT, h3, y1, y2⟩ := yl
  have e1 := y1 vs hq
  have e2 := y2 ws hq'
  rw [hv] at e1
  rw [hv'] at e2
  cases e1
  cases e2
  exact zip_turn r2 rv rv' ev hT h3
end
/-- a list at its address, later too -/
theorem lst_addr {K : PySem.W.Frag} {m : List Addr} {H : Hp} {s : Store} {x : D} {v : V} {xs : List D} (r : Rel K m H s) (p : Rep K m H x v) (e : lstOf s x = some xs) : ∃ a vs, v = .ref a ∧ SqL K H a vs ∧ Reps K m H xs vs ∧ ∀ m2 H2 s2, Lw K m H m2 H2 → Rel K m2 H2 s2 → lstOf s2 x = some xs → ∃ vs, SqL K H2 a vs ∧ Reps K m2 H2 xs vs := by
  obtain ⟨a, vs, rfl, hq, rr⟩ := lstOf_sq r p e
  refine ⟨a, vs, rfl, hq, rr, fun m2 H2 s2 l2 r2 e2 => ?_⟩
  obtain ⟨b, ws, eb, hq2, rr2⟩ := lstOf_sq r2 (p.monoW l2) e2
  cases eb
  exact ⟨ws, hq2, rr2⟩
section
variable {X : Cx} {W : WX} {e e2 : Expr} {p pos tpos : Pos} {elts : List Expr} {kk : Nat} {fs : ME (List D)}
theorem ci_zip (hg : Gl X "zip") (hm : X.mg "zip" = none) (ha : PA X [e, e2] (Ta X.K X.mg W fs)) (hs : starEach [e, e2] X.env = (false, eval e X.env) :: starEach [e2] X.env := by rfl) (hpl : (backTo pos (starEach [e2] X.env)).any (·.1) = false := by rfl) :
    PI X (.Tuple elts kk tpos) (.Call (.Name "zip" p) [e, e2] [] pos) (Ti X.K X.mg W (iZip fs)) := PI.imp (RZ.pi_zipA hg hm ha hs hpl) fun σ H Rw h =>
  Tm.bind (k := fun _ (x : List D) s => match x with
  | [.tup xs, .tup ys] => R.ok (Itm.mk (zipD xs ys) always) s
  | [x, y] => match lstOf s x, lstOf s y with
    | some xs, some ys => R.ok (Itm.mk (zipD xs ys) (fun s2 => lstOf s2 x = some xs ∧ lstOf s2 y = some ys)) s
    | _, _ => R.no
  | _ => R.no) h fun m1 H1 env x vs s1 r1 E1 p1 g1 => by
    split at g1
    · obtain ⟨v, w, rfl, h1, h2⟩ := reps2 p1
      obtain ⟨a, vs, rfl, hq, rr⟩ := h1.sqT
      obtain ⟨b, ws, rfl, hq', rr'⟩ := h2.sqT
      exact ⟨a, b, vs, ws, rfl, .inr ⟨hq, hq', g1 m1 H1 _ .refl r1 (itr_zipT hq hq' rr rr')⟩⟩
    · obtain ⟨v, w, rfl, h1, h2⟩ := reps2 p1
      split at g1
      · rename_i xs ys q1 q2
        obtain ⟨a, vs, rfl, hq, rr, hx⟩ := lst_addr r1 h1 q1
        obtain ⟨b, ws, rfl, hq', rr', hy⟩ := lst_addr r1 h2 q2
        exact ⟨a, b, vs, ws, rfl, .inl ⟨hq, hq', g1 m1 H1 _ .refl r1 (itr_zipL hx hy)⟩⟩
      · exact g1.elim
    · exact g1.elim
end
/-! ### x in CONST, a module's tuple of texts -/
def dInC (neg : Bool) (cs : List Str) (x : D) (s : Store) : Option (D × Store) := match x with
  | .str z => some (.bl (if neg then !decide (z ∈ cs) else decide (z ∈ cs)), s)
  | _ => none
/-- a module's tuple of texts -/
def ConT (K : PySem.W.Frag) (mg : Str → Option Value) (x : Str) (cs : List Str) : Prop := ∃ a, mg x = some (.ref a) ∧ ∀ H, SqT K H a (cs.map V.str)
theorem inV_strs (z : Str) : ∀ cs : List Str, inV (.str z) (cs.map V.str) = decide (z ∈ cs)
  | [] => rfl
  | c :: cs => by
    have ih := inV_strs z cs
    unfold inV at ih ⊢
    rw [List.map_cons, List.any_cons, ih]
    by_cases h : c = z
    · subst h; simp [eqV]
    · have : ¬ z = c := fun e => h e.symm
      simp [eqV, h, this]
theorem flat_strsV (cs : List Str) : (cs.map V.str).all flatV = true := by
  induction cs with
  | nil => rfl
  | cons c cs ih => rw [List.map_cons, List.all_cons, ih]; rfl
section
variable {X : Cx} {W : WX} {pos p : Pos} {a : Expr} {fa : ME D} {x : Str} {cs : List Str}
theorem ce_inC (hg : Gl X x) (hc : ConT X.K X.mg x cs) (ha : PE X a (Te X.K X.mg W fa)) (hdb : (x == ("__debug__" : Str)) = false := by decide) : PE X (.Compare a [.In] [.Name x p] pos) (Te X.K X.mg W (e1 (dInC false cs) fa)) := by
  obtain ⟨ca, hm, hq⟩ := hc
  refine PE.imp (pe_cmpR op_in_seq ha (pe_glob (v := .ref ca) hg hm rfl hdb) (by with_unfolding_all rfl)) fun σ H Q h => ?_
  exact Tm.bind (k := fun _ (x : D) s => R.of (dInC false cs x s)) h fun m1 H1 env x v s1 r1 E1 p1 g1 => by
    cases x with
    | str z =>
      cases p1
      refine ⟨ca, cs.map V.str, rfl, .inr (hq H1), rfl, flat_strsV cs, ?_⟩
      rw [inV_strs]
      exact G.now (d := D.bl (decide (z ∈ cs))) g1 r1 (.bl _)
    | _ => exact g1.elim
theorem ce_notinC (hg : Gl X x) (hc : ConT X.K X.mg x cs) (ha : PE X a (Te X.K X.mg W fa)) (hdb : (x == ("__debug__" : Str)) = false := by decide) : PE X (.Compare a [.NotIn] [.Name x p] pos) (Te X.K X.mg W (e1 (dInC true cs) fa)) := by
  obtain ⟨ca, hm, hq⟩ := hc
  refine PE.imp (pe_cmpR op_notIn_seq ha (pe_glob (v := .ref ca) hg hm rfl hdb) (by with_unfolding_all rfl)) fun σ H Q h => ?_
  exact Tm.bind (k := fun _ (x : D) s => R.of (dInC true cs x s)) h fun m1 H1 env x v s1 r1 E1 p1 g1 => by
    cases x with
    | str z =>
      cases p1
      refine ⟨ca, cs.map V.str, rfl, .inr (hq H1), rfl, flat_strsV cs, ?_⟩
      rw [inV_strs]
      exact G.now (d := D.bl (!decide (z ∈ cs))) g1 r1 (.bl _)
    | _ => exact g1.elim
end
end Mi
namespace Mi
open PySem PySem.Spec PyProof.Rows L2
/-! ### z.m(), z a text -/
def eM0 (g : D → List D → Store → Option (D × Store)) (o : ME D) : ME D := fun env s => (o env s).bind fun x s => match x with
  | .str z => R.of (g (.str z) [] s)
  | _ => .no
section
variable {X : Cx} {W : WX} {apos pos : Pos} {o : Expr} {fo : ME D}
theorem ce_m0 {id : String} {name : Str} {r : V → List V → Hp → VK → Prop} {g : D → List D → Store → Option (D × Store)} (slot : Slot "str" name id) (ty : typeOf (.builtin id) = pure (.type "method_descriptor")) (rule : MtR X id r) (hsd : MtS X.K r g) (ho : PE X o (Te X.K X.mg W fo))
    (hbase : attributeBase o name X.env (eval o X.env) = eval o X.env := by rfl) (hline : (apos.endLine == pos.line) = true := by rfl) :
    PE X (.Call (.Attribute o name apos) [] [] pos) (Te X.K X.mg W (eM0 g fo)) :=
  PE.imp (pe_m0 slot ty rule ho hbase hline) fun σ H Q h => Tm.bind (k := fun env (x : D) s => match x with
  | .str z => R.of (g (.str z) [] s)
  | _ => .no) h fun m1 H1 env x v s1 r1 E1 p1 g1 => by
    cases x with
    | str z =>
      cases p1
      exact ⟨⟨z, rfl⟩, hsd r1 (.str z) .nil g1⟩
    | _ => exact g1.elim
end
section
variable {K : PySem.W.Frag}
def dIsdigit (x : D) (ys : List D) (s : Store) : Option (D × Store) := match x, ys with
  | .str a, [] => some (.bl (Txt.isdigit a), s)
  | _, _ => none
theorem mts_isdigit : MtS K (fun x xs H Q => ∃ a, x = V.str a ∧ xs = [] ∧ True ∧ Q (.bl (Txt.isdigit a)) H) dIsdigit := by
  intro mg W σ m H s x d xs ds Q r p ps g
  unfold dIsdigit at g
  split at g
  · cases ps
    cases p
    exact ⟨_, rfl, rfl, trivial, g.now r (.bl _)⟩
  · exact g.elim
def dUpper (x : D) (ys : List D) (s : Store) : Option (D × Store) := match x, ys with
  | .str a, [] => if a.length ≤ 5592405 then some (.str (Txt.upper a), s) else none
  | _, _ => none
theorem mts_upper : MtS K (fun x xs H Q => ∃ a, x = V.str a ∧ xs = [] ∧ a.length ≤ 5592405 ∧ Q (.str (Txt.upper a)) H) dUpper := by
  intro mg W σ m H s x d xs ds Q r p ps g
  unfold dUpper at g
  split at g
  · cases ps
    cases p
    split at g
    · rename_i hz
      exact ⟨_, rfl, rfl, hz, g.now r (.str _)⟩
    · exact g.elim
  · exact g.elim
def dRstrip (x : D) (ys : List D) (s : Store) : Option (D × Store) := match x, ys with
  | .str a, [.str b] => if a.length ≤ 1000000 then some (.str (Txt.rstripChars a b), s) else none
  | _, _ => none
theorem mts_rstrip : MtS K (fun x xs H Q => ∃ a b, x = V.str a ∧ xs = [V.str b] ∧ a.length ≤ sizeLine ∧ Q (.str (Txt.rstripChars a b)) H) dRstrip := by
  intro mg W σ m H s x d xs ds Q r p ps g
  unfold dRstrip at g
  split at g
  · obtain ⟨w, rfl, h⟩ := reps1 ps
    cases h
    cases p
    split at g
    · rename_i hz
      exact ⟨_, _, rfl, rfl, le_line hz, g.now r (.str _)⟩
    · exact g.elim
  · exact g.elim
end
/-! ### comb(a, b), brought from math -/
section
variable {X : Cx}
def rComb : List V → Hp → VK → Prop := fun vs H Q => ∃ a b : Int, vs = [V.int a, V.int b] ∧ 0 ≤ a ∧ 0 ≤ b ∧ a ≤ 18000 ∧ Q (.int (PySem.W.mcComb a b)) H
theorem cr_comb : CallR X (.builtin "math.comb") rComb := by
  intro pins s σ H vs us Q I r h
  obtain ⟨a, b, rfl, h0, h1, h2, q⟩ := h
  cases r with
  | cons ra rr =>
    cases rr with
    | cons rb rr =>
      cases rr
      obtain ⟨t, rfl⟩ := ra
      obtain ⟨u, rfl⟩ := rb
      exact PySem.W.mc_comb h0 h1 (by omega) (.inr h2) fun _ => ⟨.int (PySem.W.mcComb a b), H, I.tok _, ⟨_, rfl⟩, q⟩
end
def dComb : List D → Store → Option (D × Store)
  | [.int a, .int b], s => if 0 ≤ a ∧ 0 ≤ b ∧ a ≤ 18000 then some (.int (PySem.W.mcComb a b), s) else none
  | _, _ => none
theorem fns_comb {K : PySem.W.Frag} : FnS K rComb dComb := by
  intro mg W σ m H s xs ds Q r p g
  unfold dComb at g
  split at g
  · obtain ⟨v, w, rfl, h1, h2⟩ := reps2 p
    cases h1; cases h2
    split at g
    · rename_i hz
      exact ⟨_, _, rfl, hz.1, hz.2.1, hz.2.2, g.now r (.int _)⟩
    · exact g.elim
  · exact g.elim
section
variable {X : Cx} {W : WX} {x : Str} {id : String} {p pos : Pos} {e : Expr} {es : List Expr} {t : TA} {r : List V → Hp → VK → Prop}
theorem pe_callG (hc : CallR X (.builtin id) r) (hg : Gl X x) (hm : X.mg x = some (.builtin id)) (ha : PA X (e :: es) t) (hdb : (x == ("__debug__" : Str)) = false := by decide)
    (he : starEach (e :: es) X.env = (false, eval e X.env) :: starEach es X.env := by rfl) (hpl : (backTo pos (starEach es X.env)).any (·.1) = false := by rfl) : PE X (.Call (.Name x p) (e :: es) [] pos) (tCB r t) := by
  refine ⟨fun pins s σ H Q I h => ?_⟩
  refine wpAny_Call_Name_kw (ld_glob I hg hm ?_ hdb)
  exact PyProof.Rows.callWith_builtin1 (thn (ha.run pos pins s σ H _ I h) fun us s1 ⟨vs, H1, I1, r1, q1⟩ => hc pins s1 σ H1 vs us Q I1 r1 q1) he hpl
theorem ce_callG {g : List D → Store → Option (D × Store)} {fs : ME (List D)} (hc : CallR X (.builtin id) r) (hs : FnS X.K r g) (hg : Gl X x) (hm : X.mg x = some (.builtin id)) (ha : PA X (e :: es) (Ta X.K X.mg W fs)) (hdb : (x == ("__debug__" : Str)) = false := by decide)
    (he : starEach (e :: es) X.env = (false, eval e X.env) :: starEach es X.env := by rfl) (hpl : (backTo pos (starEach es X.env)).any (·.1) = false := by rfl) : PE X (.Call (.Name x p) (e :: es) [] pos) (Te X.K X.mg W (eFn g fs)) :=
  PE.imp (pe_callG hc hg hm ha hdb he hpl) fun σ H Q h => Tm.bind (k := fun env (xs : List D) s => R.of (g xs s)) h fun m1 H1 env xs vs s1 r1 E1 p1 g1 => hs r1 p1 g1
end
/-! ### a, b = x, y with plain names -/
def sPar (i j : Nat) (a b : ME D) : MS := fun env s => (a env s).then env fun x s => (b env s).then env fun y s => .nx ((env.set i (some x)).set j (some y)) s
section
variable {X : Cx} {W : WX} {x y : Str} {a b : Expr} {fa fb : ME D} {px py pt pos : Pos} {i j kt k2 : Nat} {pt2 : Pos}
theorem cs_par (hc : X.calm = true) (hN : X.N.Nodup) (hi : X.N[i]? = some x) (hj : X.N[j]? = some y) (hij : i ≠ j)
    (hx : X.env.scope.names.lookup x = some .local) (hy : X.env.scope.names.lookup y = some .local) (ha : PE X a (Te X.K X.mg W fa)) (hb : PE X b (Te X.K X.mg W fb))
    (hsa : starEach [a, b] X.env = (false, eval a X.env) :: starEach [b] X.env := by rfl) (hsb : starEach [b] X.env = (false, eval b X.env) :: starEach [] X.env := by rfl)
    (hw : swappedStores [.Tuple [.Name x px, .Name y py] kt pt] (.Tuple [a, b] k2 pt2) X.env = pure (some [x, y]) := by rfl)
    (hs : swapsWithSole [.Tuple [.Name x px, .Name y py] kt pt] (.Tuple [a, b] k2 pt2) pos.line X.env = pure false := by rfl) :
    PS X (.Assign [.Tuple [.Name x px, .Name y py] kt pt] (.Tuple [a, b] k2 pt2) pos) (Ts X.K X.mg W (sPar i j fa fb)) :=
  PS.imp (ps_par hc hN hi hj hij hx hy (pa_cons ha (pa_cons hb pa_nil hsb) hsa) hw hs) fun Dn σ H h => Ts.ofE (k := fun env x s => (fb env s).then env fun y s => .nx ((env.set i (some x)).set j (some y)) s) h fun m1 H1 env x v s1 r1 E1 p1 g1 => by
    refine ⟨m1, env, s1, r1, E1, GS.ofE E1 g1 fun m2 H2 y w s2 l2 r2 p2 g2 => ?_⟩
    exact ⟨v, w, rfl, g2 m2 _ H2 .refl r2 (relE_set (relE_set (E1.mono l2) (p1.mono l2) i) p2 j)⟩
end
/-! ### [e for x in a for y in b] -/
open Classical in
noncomputable def lc2 (guard : Store → Prop) (g : D → Sl → Option Sl) (t : ME Bool) (it1 : ME Itm) (vs1 : List Nat) (g1 : D → Sl → Option Sl) (t1 : ME Bool) (e : ME D) (env : Sl) : List D → List D → Store → R (List D)
  | [], acc, s => if guard s then .ok acc s else .no
  | x :: xs, acc, s => if guard s then (match g x env with
    | none => .no
    | some env1 => match t env1 s with
      | .ok b s1 => if b then (match it1 env1 s1 with
        | .ok i s2 => match lcL i.guard g1 t1 e (wipeE env1 vs1) i.xs acc s2 with
          | .ok acc' s3 => lc2 guard g t it1 vs1 g1 t1 e env xs acc' s3
          | _ => .no
        | _ => .no) else lc2 guard g t it1 vs1 g1 t1 e env xs acc s1
      | _ => .no) else .no
noncomputable def eLc2 (it : ME Itm) (vs : List Nat) (g : D → Sl → Option Sl) (t : ME Bool) (it1 : ME Itm) (vs1 : List Nat) (g1 : D → Sl → Option Sl) (t1 : ME Bool) (e : ME D) : ME D := fun env s => (it env s).bind fun i s => (lc2 i.guard g t it1 vs1 g1 t1 e (wipeE env vs) i.xs [] s).bind fun acc s => .ok (.loc s.length) (s ++ [.lst acc])
section
variable {X : Cx} {W : WX}
theorem lw_trans {K : PySem.W.Frag} {m m1 m2 : List Addr} {H H1 H2 : Hp} (e : Lw K m H m1 H1) (f : Lw K m1 H1 m2 H2) : Lw K m H m2 H2 :=
  ⟨by obtain ⟨r, rfl⟩ := e.pre; obtain ⟨r2, rfl⟩ := f.pre; exact ⟨r ++ r2, by simp⟩, fun a xs h => f.tup a xs (e.tup a xs h), fun a xs h => f.frl a xs (e.frl a xs h), fun b v h n => f.xd b v (e.xd b v h n).1 (e.xd b v h n).2, fun a xs h => f.trk a xs (e.trk a xs h)⟩
theorem gtm_more {K : PySem.W.Frag} {us vs : List Nat} {g : D → Sl → Option Sl} (hv : ∀ i ∈ us, i ∈ vs) : ∀ v σ H Q, GTm K vs g v σ H Q → GTm K us g v σ H Q := fun v σ H Q ⟨m, env, s, d, env', r, E, p, e, q⟩ =>
  ⟨m, env, s, d, env', r, E, p, e, fun σ' E' k n => q σ' E' (fun i hi => k i fun z => hi (hv i z)) n⟩
theorem lc2_run {fi fi1 : ME Itm} {vs vs1 : List Nat} {gt gt1 : D → Sl → Option Sl} {ft ft1 : ME Bool} {fe : ME D} : ∀ σ H Q, Te X.K X.mg W (eLc2 fi vs gt ft fi1 vs1 gt1 ft1 fe) σ H Q →
    tLc2 (Ti X.K X.mg W fi) (GTm X.K vs gt) (Tt X.K X.mg WF ft) (Ti X.K X.mg WF fi1) (GTm X.K vs1 gt1) (Tt X.K X.mg WF ft1) (Te X.K X.mg WF fe) vs vs1 σ H Q := fun σ H Q h =>
  Tm.bind (k := fun env (i : Itm) s => (lc2 i.guard gt ft fi1 vs1 gt1 ft1 fe (wipeE env vs) i.xs [] s).bind fun acc s => R.ok (D.loc s.length) (s ++ [Cell.lst acc])) h fun m1 H1 env it J s1 r1 E1 p1 g1 => by
    intro P hP
    let Go : Nat → Hp → Prop := fun i H => ∃ m2 s2 acc accV, Le X.K m1 H1 m2 H ∧ Rel X.K m2 H s2 ∧ H P = some (.lst accV) ∧ P ∉ m2 ∧ Reps X.K m2 H acc accV ∧
        G X.K X.mg (Rep X.K) W σ m1 H1 Q ((lc2 it.guard gt ft fi1 vs1 gt1 ft1 fe (wipeE env vs) (it.xs.drop i) acc s2).bind fun acc s => R.ok (D.loc s.length) (s ++ [Cell.lst acc]))
    refine ⟨fun i k H => k = it.xs.length - i ∧ i ≤ it.xs.length ∧ Go i H,
      ⟨it.xs.length, by simp, Nat.zero_le _, m1, s1, [], [], le_new hP, r1.tmp hP, upd_same, r1.new_notin hP, .nil, g1⟩, ?_⟩
    rintro i k H2 ⟨rfl, hi, m2, s2, acc, accV, l2, r2, hD, nD, pA, g2⟩
    by_cases hlt : i < it.xs.length
    · have hx : it.xs[i]? = some it.xs[i] := by simp [hlt]
      have hd : it.xs.drop i = it.xs[i] :: it.xs.drop (i + 1) := List.drop_eq_getElem_cons hlt
      rw [hd] at g2
      unfold lc2 at g2
      by_cases hgd : it.guard s2
      · simp only [hgd, if_true] at g2
        obtain ⟨hall, _⟩ := p1 m2 H2 s2 l2.w r2 hgd
        obtain ⟨hgo, hy⟩ := hall i _ hx
        refine .inr ⟨hgo, fun H' => Go (i + 1) H', fun H' q => ⟨it.xs.length - (i + 1), by omega, rfl, hlt, q⟩, fun v H3 y => ?_⟩
        obtain ⟨l3, r3, p3⟩ := hy v H3 y
        cases q : gt it.xs[i] (wipeE env vs) with
        | none => simp only [q] at g2; exact g2.elim
        | some env3 =>
          simp only [q] at g2
          have l13 := l2.trans l3
          have hD3 := l3.fr P _ hD nD
          refine ⟨m2, wipeE env vs, s2, it.xs[i], env3, r3, relE_wipe (E1.mono l13) vs, p3, q, fun σ4 E4 k4 n4 => ⟨by rw [wipe_congr n4 k4, wipe_wipe], m2, env3, s2, r3, E4, ?_⟩⟩
          cases ht : ft env3 s2 with
          | no => rw [ht] at g2; exact g2.elim
          | ex x s4 => rw [ht] at g2; exact g2.elim
          | ok b s4 =>
            simp only [ht] at g2
            intro m5 H5 b' l5 r5 eb
            cases (show b = b' from eb)
            have hD5 := l5.fr P _ hD3 nD
            have nD5 : P ∉ m5 := fun z => by
              rcases l5.nw P z with w | w
              · exact nD w
              · rw [hD3] at w; cases w
            have l15 := l13.trans l5
            have pA5 := (pA.mono l3).mono l5
            cases b with
            | false =>
              refine iteF ⟨m5, s4, acc, accV, l15, r5, hD5, nD5, pA5, ?_⟩
              simpa using g2
            | true =>
              simp only [if_true] at g2
              refine iteT ⟨m5, env3, s4, r5, E4.mono l5, ?_⟩
              cases hi1 : fi1 env3 s4 with
              | no => rw [hi1] at g2; exact g2.elim
              | ex x s6 => rw [hi1] at g2; exact g2.elim
              | ok it2 s6 =>
                simp only [hi1] at g2
                intro m6 H6 J1 l6 r6 p6
                have hD6 := l6.fr P _ hD5 nD5
                have nD6 : P ∉ m6 := fun z => by
                  rcases l6.nw P z with w | w
                  · exact nD5 w
                  · rw [hD5] at w; cases w
                have l16 := l15.trans l6
                have E6 := (E4.mono l5).mono l6
                let Gi : Nat → Hp → Prop := fun j H => ∃ m7 s7 acc7 accV7, Lw X.K m6 H6 m7 H ∧ Le X.K m1 H1 m7 H ∧ Rel X.K m7 H s7 ∧ H P = some (.lst accV7) ∧ P ∉ m7 ∧ Reps X.K m7 H acc7 accV7 ∧
                  G X.K X.mg (Rep X.K) W σ m1 H1 Q ((match lcL it2.guard gt1 ft1 fe (wipeE env3 vs1) (it2.xs.drop j) acc7 s7 with
                    | .ok acc' s3 => lc2 it.guard gt ft fi1 vs1 gt1 ft1 fe (wipeE env vs) (it.xs.drop (i + 1)) acc' s3
                    | _ => .no).bind fun acc s => R.ok (D.loc s.length) (s ++ [Cell.lst acc]))
                refine ⟨fun j k H => k = it2.xs.length - j ∧ j ≤ it2.xs.length ∧ Gi j H, ⟨it2.xs.length, by simp, Nat.zero_le _, m6, s6, acc, accV, Le.refl.w, l16, r6, hD6, nD6, pA5.mono l6, g2⟩, ?_⟩
                rintro j k7 H7 ⟨rfl, hj, m7, s7, acc7, accV7, l7, l17, r7, hD7, nD7, pA7, g7⟩
                by_cases hlt1 : j < it2.xs.length
                · have hx1 : it2.xs[j]? = some it2.xs[j] := by simp [hlt1]
                  have hd1 : it2.xs.drop j = it2.xs[j] :: it2.xs.drop (j + 1) := List.drop_eq_getElem_cons hlt1
                  rw [hd1] at g7
                  unfold lcL at g7
                  by_cases hgd1 : it2.guard s7
                  · simp only [hgd1, if_true] at g7
                    obtain ⟨hall1, _⟩ := p6 m7 H7 s7 l7 r7 hgd1
                    obtain ⟨hgo1, hy1⟩ := hall1 j _ hx1
                    refine .inr ⟨hgo1, fun H' => Gi (j + 1) H', fun H' q => ⟨it2.xs.length - (j + 1), by omega, rfl, hlt1, q⟩, fun v8 H8 y8 => ?_⟩
                    obtain ⟨l8, r8, p8⟩ := hy1 v8 H8 y8
                    cases q8 : gt1 it2.xs[j] (wipeE env3 vs1) with
                    | none => simp only [q8] at g7; exact g7.elim
                    | some env8 =>
                      simp only [q8] at g7
                      have l78 := lw_trans l7 l8.w
                      have l18 := l17.trans l8
                      have hD8 := l8.fr P _ hD7 nD7
                      refine ⟨m7, wipeE env3 vs1, s7, it2.xs[j], env8, r8, relE_wipe (E6.monoW l78) vs1, p8, q8, fun σ9 E9 k9 n9 => ⟨by rw [wipe_congr n9 k9, wipe_wipe], m7, env8, s7, r8, E9, ?_⟩⟩
                      cases ht1 : ft1 env8 s7 with
                      | no => rw [ht1] at g7; exact g7.elim
                      | ex x s4 => rw [ht1] at g7; exact g7.elim
                      | ok b s9 =>
                        simp only [ht1] at g7
                        intro m10 H10 b' l10 r10 eb
                        cases (show b = b' from eb)
                        have hD10 := l10.fr P _ hD8 nD7
                        have nD10 : P ∉ m10 := fun z => by
                          rcases l10.nw P z with w | w
                          · exact nD7 w
                          · rw [hD8] at w; cases w
                        have l710 := lw_trans l78 l10.w
                        have l110 := l18.trans l10
                        have pA10 := (pA7.mono l8).mono l10
                        cases b with
                        | false =>
                          refine iteF ⟨m10, s9, acc7, accV7, l710, l110, r10, hD10, nD10, pA10, ?_⟩
                          simpa using g7
                        | true =>
                          simp only [if_true] at g7
                          refine iteT ⟨m10, env8, s9, r10, E9.mono l10, ?_⟩
                          cases he : fe env8 s9 with
                          | no => rw [he] at g7; exact g7.elim
                          | ex x s6 => rw [he] at g7; exact g7.elim
                          | ok y s11 =>
                            simp only [he] at g7
                            by_cases hz : acc7.length < sizeLine
                            · simp only [hz, if_true] at g7
                              intro m11 H11 yv l11 r11 p11
                              have hD11 := l11.fr P _ hD10 nD10
                              have nD11 : P ∉ m11 := fun z => by
                                rcases l11.nw P z with w | w
                                · exact nD10 w
                                · rw [hD10] at w; cases w
                              have pA11 := pA10.mono l11
                              exact ⟨accV7, hD11, by rw [← pA7.length]; exact hz, m11, s11, acc7 ++ [y], accV7 ++ [yv], lw_trans (lw_trans l710 l11.w) (lw_side hD11), (l110.trans l11).side hP hD11, r11.side hD11 nD11, upd_same, nD11,
                                (pA11.monoW (lw_side hD11)).append (.cons (p11.monoW (lw_side hD11)) .nil), g7⟩
                            · simp only [hz, if_false] at g7
                              exact g7.elim
                  · simp only [hgd1, if_false] at g7
                    exact g7.elim
                · have e : j = it2.xs.length := by omega
                  subst e
                  rw [List.drop_length] at g7
                  unfold lcL at g7
                  by_cases hgd1 : it2.guard s7
                  · simp only [hgd1, if_true] at g7
                    exact .inl ⟨(p6 m7 H7 s7 l7 r7 hgd1).2, m7, s7, acc7, accV7, l17, r7, hD7, nD7, pA7, g7⟩
                  · simp only [hgd1, if_false] at g7
                    exact g7.elim
      · simp only [hgd, if_false] at g2
        exact g2.elim
    · have e : i = it.xs.length := by omega
      subst e
      rw [List.drop_length] at g2
      unfold lc2 at g2
      by_cases hgd : it.guard s2
      · simp only [hgd, if_true] at g2
        refine .inl ⟨(p1 m2 H2 s2 l2.w r2 hgd).2, ?_⟩
        exact g2 (m2 ++ [P]) H2 (.ref P) (l2.adopt hP) (r2.adopt nD hD pA) (.loc (len_get r2))
      · simp only [hgd, if_false] at g2
        exact g2.elim
variable {elt tg iter tg1 iter1 : Expr} {ifs ifs1 : List Expr} {scope : Scope} {own : List (Str × Nat)} {pos : Pos} {fi fi1 : ME Itm} {us vs1 : List Nat} {gt gt1 : D → Sl → Option Sl} {ft ft1 : ME Bool} {fe : ME D}
theorem ce_lc2 (hc : X.calm = true) (hN : X.N.Nodup) (hi : PI X tg iter (Ti X.K X.mg W fi)) (ok : BlkOk X.N X.env.scope scope own) (hv : ∀ i ∈ vs1, i ∈ own.map (·.2)) (hu : ∀ i ∈ us, i ∈ own.map (·.2))
    (hg : ∀ (s : Shared) (H : Hp) (C : Addr) (cl : List (Str × Addr)) (fp : List Addr), PG (X.blk s H scope (compEnvC scope cl C X.env) fp) tg (GTm X.K us gt)) (ht : ∀ (s : Shared) (H : Hp) (C : Addr) (cl : List (Str × Addr)) (fp : List Addr), PTs (X.blk s H scope (compEnvC scope cl C X.env) fp) ifs (Tt X.K X.mg WF ft))
    (hi1 : ∀ (s : Shared) (H : Hp) (C : Addr) (cl : List (Str × Addr)) (fp : List Addr), PI (X.blk s H scope (compEnvC scope cl C X.env) fp) tg1 iter1 (Ti X.K X.mg WF fi1))
    (hg1 : ∀ (s : Shared) (H : Hp) (C : Addr) (cl : List (Str × Addr)) (fp : List Addr), PG (X.blk s H scope (compEnvC scope cl C X.env) fp) tg1 (GTm X.K vs1 gt1)) (ht1 : ∀ (s : Shared) (H : Hp) (C : Addr) (cl : List (Str × Addr)) (fp : List Addr), PTs (X.blk s H scope (compEnvC scope cl C X.env) fp) ifs1 (Tt X.K X.mg WF ft1))
    (he : ∀ (s : Shared) (H : Hp) (C : Addr) (cl : List (Str × Addr)) (fp : List Addr), PE (X.blk s H scope (compEnvC scope cl C X.env) fp) elt (Te X.K X.mg WF fe)) (hs : ∀ x, foldedSetIterable iter X.env x = pure x := by intro _; rfl) (hs1 : ∀ env x, foldedSetIterable iter1 env x = pure x := by intro _ _; rfl) :
    PE X (.ListComp elt [⟨tg, iter, ifs, 0⟩, ⟨tg1, iter1, ifs1, 0⟩] scope pos) (Te X.K X.mg W (eLc2 fi (own.map (·.2)) gt ft fi1 vs1 gt1 ft1 fe)) :=
  PE.imp (pe_lc2 hc hN hi ok hv (fun s H C cl fp => PG.imp (hg s H C cl fp) (gtm_more hu)) ht hi1 hg1 ht1 he hs hs1) lc2_run
theorem cs_setLc2 {i : Nat} {y : Str} {py spos : Pos} (hc : X.calm = true) (hN : X.N.Nodup) (hy : X.N[i]? = some y) (hyl : X.env.scope.names.lookup y = some .local)
    (hsw : swapsWith (.ListComp elt [⟨tg, iter, ifs, 0⟩, ⟨tg1, iter1, ifs1, 0⟩] scope pos) (some (.Name y py)) spos.line X.env = pure true) (hi : PI X tg iter (Ti X.K X.mg W fi)) (ok : BlkOk X.N X.env.scope scope own) (hv : ∀ i ∈ vs1, i ∈ own.map (·.2)) (hu : ∀ i ∈ us, i ∈ own.map (·.2))
    (hg : ∀ (s : Shared) (H : Hp) (C : Addr) (cl : List (Str × Addr)) (fp : List Addr), PG (X.blk s H scope (compEnvC scope cl C X.env) fp) tg (GTm X.K us gt)) (ht : ∀ (s : Shared) (H : Hp) (C : Addr) (cl : List (Str × Addr)) (fp : List Addr), PTs (X.blk s H scope (compEnvC scope cl C X.env) fp) ifs (Tt X.K X.mg WF ft))
    (hi1 : ∀ (s : Shared) (H : Hp) (C : Addr) (cl : List (Str × Addr)) (fp : List Addr), PI (X.blk s H scope (compEnvC scope cl C X.env) fp) tg1 iter1 (Ti X.K X.mg WF fi1))
    (hg1 : ∀ (s : Shared) (H : Hp) (C : Addr) (cl : List (Str × Addr)) (fp : List Addr), PG (X.blk s H scope (compEnvC scope cl C X.env) fp) tg1 (GTm X.K vs1 gt1)) (ht1 : ∀ (s : Shared) (H : Hp) (C : Addr) (cl : List (Str × Addr)) (fp : List Addr), PTs (X.blk s H scope (compEnvC scope cl C X.env) fp) ifs1 (Tt X.K X.mg WF ft1))
    (he : ∀ (s : Shared) (H : Hp) (C : Addr) (cl : List (Str × Addr)) (fp : List Addr), PE (X.blk s H scope (compEnvC scope cl C X.env) fp) elt (Te X.K X.mg WF fe)) (hs : ∀ x, foldedSetIterable iter X.env x = pure x := by intro _; rfl) (hs1 : ∀ env x, foldedSetIterable iter1 env x = pure x := by intro _ _; rfl) :
    PS X (.Assign [.Name y py] (.ListComp elt [⟨tg, iter, ifs, 0⟩, ⟨tg1, iter1, ifs1, 0⟩] scope pos) spos) (Ts X.K X.mg W (sSet i (eLc2 fi (own.map (·.2)) gt ft fi1 vs1 gt1 ft1 fe))) :=
  PS.imp (ps_setLc2 (i := i) hc hN hy hyl hsw hi ok hv (fun s H C cl fp => PG.imp (hg s H C cl fp) (gtm_more hu)) ht hi1 hg1 ht1 he hs hs1) fun Dn σ H h =>
  lc2_run σ H _ (Ts.ofE (k := fun env d s => RS.nx (env.set i (some d)) s) h fun m1 H1 env d v s1 r1 E1 p1 g1 => g1 m1 _ H1 .refl r1 (relE_set E1 p1 i))
end
end Mi
/-! sorted(set(xs)), xs a list of ints: fewer than 64 distinct ones -/
namespace Mi
open PySem PySem.Spec PyProof.Rows L2
section
variable {P : Program} {w : World} {A : Around} {E : Value → Shared → Prop} {s : Shared}
/-- the object of an empty set -/
abbrev so0 (w : World) : Obj := { cls := .type "set", dict := none, data := .set #[] 0 (.fresh 0 0 (!w.params.followText "set-order")) }
set_option maxHeartbeats 3200000 in
theorem set_lst {l : Addr} {us : Array Value} (ns : List Int) {Q : Value → Shared → Prop} (hA : A.handled = none) (hL : s.heap.IsList l us) (hI : IntsAre us.toList ns) (hB : ns.length + 1 < scanBound)
    (kQ : ∀ (g : Heap) (tk c : Nat), SetR w g s.heap.objs.size (fun j => decide (j ∈ ns)) c → c ≤ ns.length → (∀ b o, s.heap.get? b = some o → g.get? b = some o) → Q (.ref s.heap.objs.size) { s with heap := g, toks := tk }) :
    wpAny (model P w) A (call (.type "set") [.ref l]) Q E s := by
  have hz : us.size = ns.length := by have q := IntsAre.length hI; rw [Array.length_toList] at q; exact q
  obtain ⟨c, tl, hm⟩ := F.called_set.mro
  have f1 := F.called_set.made; have f2 := F.called_set.sub; have f3 := F.called_set.notType
  have f4 := F.called_set.canCreate; have f5 := F.typeCall_set_1 (.ref l)
  refine wpAny_call (codeAny_of_tree ?_); show wpAny _ _ (callAny (.type "set") _) _ _ _
  refine wpAny_pure ⟨Code.quiet_builtin _ (by decide +kernel), codeAny_builtin F.entry_type_call ?_⟩; rw [Around.under_plain (weight_type_call_type "set" [.ref l] []) rfl]
  repeat (any_goals (first | assumption | wp_step))
  refine codeAny_mono (code_set_led1 (.ref l) (E := E) (Q₁ := fun v s1 => v = .ref s.heap.objs.size ∧ s1 = { s with heap := s.heap.push (so0 w) }) ⟨rfl, rfl⟩) fun r s1 q => ?_
  match r, q with
  | .error e, q => exact q
  | .ok (.ret v), q =>
    obtain ⟨rfl, rfl⟩ := q
    have gS : (s.heap.push (so0 w)).get? s.heap.objs.size = some (so0 w) := Heap.get?_push_size _ rfl
    have tS : Shared.TypeIs { s with heap := s.heap.push (so0 w) } (.ref s.heap.objs.size) "set" := ⟨_, gS, rfl⟩
    have f6 := F.called_set.init.lookup; have f7 := F.called_set.init.bind (.ref s.heap.objs.size)
    repeat (any_goals (first | assumption | wp_step))
    refine codeAny_mono (codeAny_call_builtin (R := wants (fun r s2 => r = .none ∧ ∃ g tk c, s2 = { s with heap := g, toks := tk } ∧ SetR w g s.heap.objs.size (fun j => decide (j ∈ ns)) c ∧ c ≤ ns.length ∧ (∀ b o, s.heap.get? b = some o → g.get? b = some o)) E)
      F.called_set.init.plain F.entry_set_init (check_set_init_1 tS ?_)) fun r2 s2 q2 => ?_
    · obtain ⟨⟨oc, od, odt, os⟩, go, hc, nl, hd⟩ := hL
      dsimp only at hc hd; subst hc; subst hd
      have gl : (s.heap.push (so0 w)).get? l = some { cls := .type "list", dict := od, data := .seq us nl, slots := os } := Heap.get?_push_of_some _ go
      have f8 := F.sub_list_set; have f9 := F.sub_list_frozenset
      have f10 : (Value.type "list" == Value.type "dict") = false := by decide
      have lL : (s.heap.push (so0 w)).IsList l us := ⟨_, gl, rfl, nl, rfl⟩
      unfold Builtin.«set.__init__» noKeywords Builtin.Frozenset.updateFrom; generalize eI : pyIter = PI
      wp_walk
      subst eI
      refine wpAny_pyIter_list lL ?_; refine wpAny_bind (wpAny_runValue ?_)
      have lt : l < s.heap.objs.size := Heap.lt_size go
      have hA3 : A.in1.in1.in1.handled = none := by simp [hA]
      have nI : l ≠ (s.heap.push (so0 w)).objs.size := by rw [Heap.size_push]; exact Nat.ne_of_lt (Nat.lt_succ_of_lt lt)
      have nS : s.heap.objs.size ∉ [(s.heap.push (so0 w)).objs.size, l] := by rw [Heap.size_push]; simp only [List.mem_cons, List.not_mem_nil, or_false, not_or]; exact ⟨Nat.ne_of_lt (Nat.lt_succ_self _), Nat.ne_of_gt lt⟩
      refine set_update_ints ((Walks.list hA3 _ l nI us).toS) s.heap.objs.size nS ns hz hB (fun i v hv => ?_) (us.size - 0) 0 _ (by omega) (Nat.zero_le _) ⟨⟨_, Heap.get?_push_size _ rfl, rfl, rfl⟩, (lL.push _)⟩
        ⟨0, Nat.le_refl 0, setR_new_at (Heap.get?_push_of_some _ gS)⟩ fun s' c' mv hc' R' => ?_
      · have hi : i < ns.length := by rw [← hz]; exact (Array.getElem?_eq_some_iff.mp hv).1
        obtain ⟨t, e⟩ := PyProof.Rows.IntsAre.int_at hI i v (by rw [Array.getElem?_toList]; exact hv)
        exact ⟨ns[i], t, List.getElem?_eq_getElem hi, by rw [e, List.getD_eq_getElem?_getD, List.getElem?_eq_getElem hi] <;> rfl⟩
      · obtain ⟨g, g2, d2, tk2, o2⟩ := s'
        obtain rfl : g2 = s.gens := mv.gens
        obtain rfl : d2 = s.drawn := mv.drawn
        obtain rfl : o2 = s.os := mv.os
        show wpAny _ _ _ _ _ _; refine wpAny_pure ?_
        show wpAny _ _ (ret Value.none) _ _ _; rw [hz] at hc'
        refine wpAny_pure ⟨rfl, g, tk2, c', rfl, R', hc', fun b o e => ?_⟩
        have lb : b < s.heap.objs.size := Heap.lt_size e
        exact mv.heap b o (by rw [Heap.size_push]; simp only [List.mem_cons, List.not_mem_nil, or_false, not_or]; exact ⟨Nat.ne_of_lt lb, Nat.ne_of_lt (Nat.lt_succ_of_lt lb)⟩) (Heap.get?_push_of_some _ (Heap.get?_push_of_some _ e))
    · match r2, q2 with
      | .error e, q2 => exact q2
      | .ok (.ret v), q2 =>
        obtain ⟨rfl, g, tk, c', rfl, R', hc', k'⟩ := q2
        repeat (any_goals (first | assumption | wp_step))
        exact kQ _ _ _ R' hc' k'
end
/-- the ints of a list, ascending and each once -/
def intsD : List D → Option (List Int)
  | [] => some []
  | .int k :: r => (intsD r).map (k :: ·)
  | _ :: _ => none
theorem intsD_eq : ∀ {ds : List D} {ns : List Int}, intsD ds = some ns → ds = ns.map D.int
  | [], _, e => by cases e; rfl
  | .int k :: r, _, e => by
    unfold intsD at e
    cases q : intsD r with
    | none => rw [q] at e; cases e
    | some ns => rw [q] at e; cases e; rw [intsD_eq q]; rfl
theorem intsD_map : ∀ ns : List Int, intsD (ns.map D.int) = some ns
  | [] => rfl
  | k :: r => by show (intsD (r.map D.int)).map (k :: ·) = _; rw [intsD_map r]; rfl
/-- insertion, no int twice -/
def insI (k : Int) : List Int → List Int
  | [] => [k]
  | x :: r => if k < x then k :: x :: r else if k = x then x :: r else x :: insI k r
def setI (ns : List Int) : List Int := ns.foldr insI []
theorem insI_mem {k j : Int} : ∀ {l : List Int}, j ∈ insI k l ↔ j = k ∨ j ∈ l
  | [] => by simp [insI]
  | x :: r => by
    unfold insI
    split
    · simp
    · split
      · rename_i e; subst e; simp
      · simp [insI_mem (l := r)]
        constructor
        · rintro (h | h | h) <;> simp [h]
        · rintro (h | h | h) <;> simp [h]
theorem insI_asc {k : Int} : ∀ {l : List Int}, l.Pairwise (· < ·) → (insI k l).Pairwise (· < ·)
  | [], _ => by simp [insI]
  | x :: r, h => by
    obtain ⟨h1, h2⟩ := List.pairwise_cons.mp h
    unfold insI
    split
    · rename_i q
      exact List.pairwise_cons.mpr ⟨fun y hy => by
        rcases List.mem_cons.mp hy with e | e
        · rw [e]; exact q
        · exact Int.lt_trans q (h1 y e), h⟩
    · split
      · exact h
      · refine List.pairwise_cons.mpr ⟨fun y hy => ?_, insI_asc h2⟩
        rcases insI_mem.mp hy with e | e
        · rw [e]; omega
        · exact h1 y e
theorem setI_mem {j : Int} : ∀ {ns : List Int}, j ∈ setI ns ↔ j ∈ ns
  | [] => by simp [setI]
  | k :: r => by
    show j ∈ insI k (setI r) ↔ _
    rw [insI_mem, setI_mem (ns := r)]; simp
theorem setI_asc : ∀ {ns : List Int}, (setI ns).Pairwise (· < ·)
  | [] => by simp [setI]
  | k :: r => insI_asc (setI_asc (ns := r))
/-- two ascending lists of the same ints are one -/
theorem asc_uniq : ∀ {a b : List Int}, a.Pairwise (· < ·) → b.Pairwise (· < ·) → (∀ k, k ∈ a ↔ k ∈ b) → a = b
  | [], [], _, _, _ => rfl
  | [], y :: s, _, _, h => by have := (h y).mpr (by simp); simp at this
  | x :: r, [], _, _, h => by have := (h x).mp (by simp); simp at this
  | x :: r, y :: s, ha, hb, h => by
    obtain ⟨a1, a2⟩ := List.pairwise_cons.mp ha
    obtain ⟨b1, b2⟩ := List.pairwise_cons.mp hb
    have e : x = y := by
      have h1 := (h x).mp (by simp)
      have h2 := (h y).mpr (by simp)
      rcases List.mem_cons.mp h1 with q | q
      · exact q
      · rcases List.mem_cons.mp h2 with q2 | q2
        · exact q2.symm
        · have := a1 _ q2; have := b1 _ q; omega
    subst e
    rw [asc_uniq a2 b2 fun k => ⟨fun hk => by
      have := (h k).mp (by simp [hk])
      rcases List.mem_cons.mp this with q | q
      · have := a1 _ hk; omega
      · exact q, fun hk => by
      have := (h k).mpr (by simp [hk])
      rcases List.mem_cons.mp this with q | q
      · have := b1 _ hk; omega
      · exact q⟩]
/-- sorted(set(x)) -/
def dSortSet (x : D) (s : Store) : Option (D × Store) := (lstOf s x).bind fun ds => (intsD ds).bind fun ns => if ns.length < 64 then some (.loc s.length, s ++ [.lst ((setI ns).map D.int)]) else none
def tSortSet (K : PySem.W.Frag) (ta : TE) : TE := fun σ H Q => ta σ H fun x H1 => ∃ (l : Addr) (ns : List Int), x = .ref l ∧ SqL K H1 l (ns.map V.int) ∧ ns.length < 64 ∧ ∀ p, H1 p = none → Q (.ref p) (upd H1 p (.lst ((setI ns).map V.int)))
section
variable {X : Cx} {W : WX} {a : Expr} {ta : TE} {fa : ME D} {p p2 q pos : Pos}
theorem pe_sortSet (hc : X.calm = true) (hg : Gl X "sorted") (hm : X.mg "sorted" = none) (hg2 : Gl X "set") (hm2 : X.mg "set" = none) (ha : PE X a ta)
    (na : starEach [a] X.env = (false, eval a X.env) :: starEach [] X.env := by rfl) : PE X (.Call (.Name "sorted" p) [.Call (.Name "set" p2) [a] [] q] [] pos) (tSortSet X.K ta) := by
  refine ⟨fun pins s σ H Q I h => ?_⟩
  refine Call_ (ld_blt I hg hm boot_sorted ?_)
  refine PyProof.Rows.callWith_builtin1 (PyProof.Rows.args_cons ?_ rfl) rfl rfl
  refine Call_ (ld_blt I hg2 hm2 boot_set (PyProof.Rows.callWith_type1 (PyProof.Rows.args_cons (thn (ha.run pins s σ H _ I h) fun v s1 ⟨x, H1, I1, r1, q1⟩ => PyProof.Rows.args_nil ?_) na) na rfl))
  obtain ⟨l, ns, rfl, hq, hn, q1⟩ := q1
  cases r1
  obtain ⟨its, rv, pl, hz⟩ := I1.list hq
  have hd := I1.ok.hd hc
  refine set_lst ns hd pl.isList (by simpa using ints_of_vals rv) (by unfold scanBound; omega) fun g tk c R hcn k => ?_
  refine PyProof.Rows.args_nil ?_
  have I2 : Inv X pins σ H1 { s1 with heap := g, toks := tk } := I1.kept k
  refine sorted_set R hd (by omega) fun s' p out c2 ms k2 g2 o2 hp hgp hi hs hmm hl => ?_
  have e : ms = setI ns := asc_uniq hs setI_asc fun j => by rw [hmm, setI_mem, decide_eq_true_eq]
  subst e
  have hle : s1.heap.objs.size ≤ p := Nat.le_trans (by
    obtain ⟨o, _, _, _, ho, _⟩ := R
    exact Nat.le_of_lt (Heap.lt_size ho)) hp
  have hn2 : H1 p = none := I2.hok.fresh hp
  have hlen : ((setI ns).map V.int).length ≤ sizeLine := by rw [List.length_map, hl, sizeLine_eq]; omega
  have J : Inv X pins σ (upd H1 p (.lst ((setI ns).map V.int))) { ({ s1 with heap := g, toks := tk } : Shared) with heap := s'.heap, gens := s'.gens, drawn := s'.drawn, toks := s'.toks } :=
    I2.call (ch := []) (Un.laid k2 hp hn2) (I2.hok.laid k2 hp ⟨hlen, out.toList, c2, vals_of_ints hi, hgp⟩) (by rw [g2]; exact I2.bare) (fun _ z => nomatch z)
  have e : s' = { s1 with heap := s'.heap, gens := s'.gens, drawn := s'.drawn, toks := s'.toks } := by
    cases s'; cases s1; cases o2; rfl
  rw [e]
  exact ⟨.ref p, _, J, rfl, q1 p hn2⟩
theorem reps_intsI {K : PySem.W.Frag} {m : List Addr} {H : Hp} : ∀ {ns : List Int} {vs : List V}, Reps K m H (ns.map D.int) vs → vs = ns.map V.int
  | [], _, .nil => rfl
  | k :: r, _, .cons h t => by cases h; rw [reps_intsI t]; rfl
theorem reps_intsJ {K : PySem.W.Frag} {m : List Addr} {H : Hp} : ∀ ns : List Int, Reps K m H (ns.map D.int) (ns.map V.int)
  | [] => .nil
  | k :: r => .cons (.int k) (reps_intsJ r)
theorem ce_sortSet (hc : X.calm = true) (hg : Gl X "sorted") (hm : X.mg "sorted" = none) (hg2 : Gl X "set") (hm2 : X.mg "set" = none) (ha : PE X a (Te X.K X.mg W fa))
    (na : starEach [a] X.env = (false, eval a X.env) :: starEach [] X.env := by rfl) : PE X (.Call (.Name "sorted" p) [.Call (.Name "set" p2) [a] [] q] [] pos) (Te X.K X.mg W (e1 dSortSet fa)) :=
  PE.imp (pe_sortSet hc hg hm hg2 hm2 ha na) fun σ H Q h => Tm.bind (k := fun _ (x : D) s => R.of (dSortSet x s)) h fun m1 H1 env x v s1 r1 E1 p1 g1 => by
    cases q : lstOf s1 x with
    | none => rw [show dSortSet x s1 = none by unfold dSortSet; rw [q]; rfl] at g1; exact g1.elim
    | some ds =>
      cases q2 : intsD ds with
      | none => rw [show dSortSet x s1 = none by unfold dSortSet; rw [q, Option.bind_some, q2]; rfl] at g1; exact g1.elim
      | some ns =>
        by_cases h64 : ns.length < 64
        · rw [show dSortSet x s1 = some (.loc s1.length, s1 ++ [.lst ((setI ns).map D.int)]) by unfold dSortSet; rw [q, Option.bind_some, q2, Option.bind_some, if_pos h64]] at g1
          obtain ⟨a, vs, rfl, hq, rr⟩ := lstOf_sq r1 p1 q
          rw [intsD_eq q2] at rr
          rw [reps_intsI rr] at hq
          exact ⟨a, ns, rfl, hq, h64, fun p hp => g1 (m1 ++ [p]) _ _ (le_more r1 hp) (rel_newlist r1 hp (reps_intsJ _)) (.loc (len_get r1))⟩
        · rw [show dSortSet x s1 = none by unfold dSortSet; rw [q, Option.bind_some, q2, Option.bind_some, if_neg h64]] at g1; exact g1.elim
end
end Mi
namespace Mi
open PySem PySem.Spec PyProof.Rows L2
/-- a def that gives nothing: the foot of a recursion's levels -/
theorem okNo {P : Program} {w : World} {K : PySem.W.Frag} {mg : Str → Option Value} {base : Heap} {k n : Nat} {f : Addr} {fd : FuncData} {ps : List Str} : FnOk P w K mg base (L2.CX P w) k f fd ps (spM K mg n fun _ _ => .no) :=
  ⟨fun _ _ _ _ h => by obtain ⟨_, m, s, ds, r, p, g⟩ := h; exact g.elim, fun _ _ _ _ _ _ _ _ _ _ _ _ _ h => by obtain ⟨_, m, s, ds, r, p, g⟩ := h; exact g.elim⟩
/-- a comprehension within a comprehension: its names are told anew -/
def envK (sc : Scope) : Env := { scope := sc, locals := 0, globals := 0, cells := [] }
theorem blkOk_in {N : List Str} {own : List (Str × Nat)} {sc sc1 scope : Scope} {env : Env} (h : blkC N (relabel sc1 (envK sc)) scope own = true) (he : env.scope = sc := by rfl) : BlkOk N (relabel sc1 env) scope own := by
  subst he
  exact blkOk_by h
/-! ### sorted of a list, a tuple, or a dict with ints as keys -/
def intKs : List (Key × D) → Option (List Int)
  | [] => some []
  | (.inl k, _) :: r => (intKs r).map (k :: ·)
  | _ :: _ => none
theorem intKs_eq : ∀ {ds : List (Key × D)} {ns : List Int}, intKs ds = some ns → ds.map (·.1) = ns.map Sum.inl
  | [], _, e => by cases e; rfl
  | (.inl k, d) :: r, _, e => by
    unfold intKs at e
    cases q : intKs r with
    | none => rw [q] at e; cases e
    | some ns => rw [q] at e; cases e; rw [List.map_cons, List.map_cons, intKs_eq q]
  | (.inr z, d) :: r, _, e => by cases e
open Classical in
noncomputable def dSortedD (ds : List D) (s : Store) : Option (D × Store) := match ds with
  | [x] => match dicOf s x with
    | some (_, ks) => (intKs ks).bind fun ns => if ns.Nodup ∧ ns.length < 64 then some (.loc s.length, s ++ [.lst ((setI ns).map D.int)]) else none
    | none => dSorted [x] s
  | _ => none
def rSortD (K : PySem.W.Frag) : List V → Hp → VK → Prop := fun xs H Q => rSortB K xs H Q ∨ ∃ (a : Addr) (kvs : List (Key × V)) (ks : List Int), xs = [.ref a] ∧ Rd H a (.dK kvs) ∧ kvs.map (·.1) = ks.map Sum.inl ∧ ks.length < 64 ∧
    ∀ (ys : List Int) (p : Addr), ys.Perm ks → ys.Pairwise (· ≤ ·) → H p = none → Q (.ref p) (upd H p (.lst (ys.map V.int)))
theorem call_sortD {X : Cx} (hc : X.calm = true) (hu : X.A.units + 64 < cLine) : CallR X (.builtin "sorted") (rSortD X.K) := (cr_sortedB hu).or (call_sortedDI hc)
theorem repk_fst {K : PySem.W.Frag} {m : List Addr} {H : Hp} : ∀ {ks : List (Key × D)} {vs : List (Key × V)}, RepK K m H ks vs → vs.map (·.1) = ks.map (·.1)
  | _, _, .nil => rfl
  | _, _, .cons (k := k) _ r => by rw [List.map_cons, List.map_cons, repk_fst r]
theorem fns_sortD {K : PySem.W.Frag} : FnS K (rSortD K) dSortedD := by
  intro mg W σ m H s xs ds Q r p g
  unfold dSortedD at g
  split at g
  · rename_i x
    obtain ⟨v, rfl, h⟩ := reps1 p
    cases e : dicOf s x with
    | some o =>
      obtain ⟨l, ks⟩ := o
      rw [e] at g
      simp only at g
      cases e2 : intKs ks with
      | none => rw [e2] at g; exact g.elim
      | some ns =>
        rw [e2, Option.bind_some] at g
        split at g
        · rename_i c
          obtain ⟨a, vs, _, rfl, _, h1, h2⟩ := dicOf_at r h e
          refine .inr ⟨a, vs, ns, rfl, .inl h1, (repk_fst h2).trans (intKs_eq e2), c.2, fun ys q hp hs hq => ?_⟩
          have hd : ys.Nodup := hp.nodup_iff.mpr c.1
          have ha : ys.Pairwise (· < ·) := (hs.and hd).imp fun h => by have := h.1; have := h.2; omega
          have ey : ys = setI ns := asc_uniq ha setI_asc fun k => by rw [setI_mem]; exact hp.mem_iff
          rw [ey]
          exact g (m ++ [q]) _ _ (le_more r hq) (rel_newlist r hq (reps_intsJ _)) (.loc (len_get r))
        · exact g.elim
    | none =>
      rw [e] at g
      exact .inl (fns_sorted r p g)
  · exact g.elim
end Mi
namespace Mi
open PySem PySem.Spec PyProof.Rows L2
/-! ### forward rules for laws with dicts -/
section
variable {α β : Type} {K : D → Store → Prop} {KI : Itm → Store → Prop} {E : Ex → Store → Prop} {env : Sl} {s s' : Store} {a b c : ME D} {as : ME (List D)} {t u : ME Bool} {d x y : D} {P : RS → Prop} {Z : Hs} {l : Nat} {xs : List D} {ks : List (Key × D)} {k : Key} {i : Int}
theorem o_ixATm (h0 : 0 ≤ i) (h1 : i < xs.length) (k : ∀ d ∈ xs, xs[i.toNat]? = some d → K d s) : WO (dIxA (.tup xs) (.int i) s) K := by
  rw [dIxA_tup]
  exact o_ixTm h0 h1 k
theorem o_ixAL (H : Has s Z) (hm : (l, Ls xs) ∈ Z) (e : L2.atI xs i = some d) (k : K d s) : WO (dIxA (.loc l) (.int i) s) K := wo_eq (by rw [dIxA_loc (H.lst hm), e]; rfl) k
theorem o_ixALm (H : Has s Z) (hm : (l, Ls xs) ∈ Z) (h0 : 0 ≤ i) (h1 : i < xs.length) (k : ∀ d ∈ xs, xs[i.toNat]? = some d → K d s) : WO (dIxA (.loc l) (.int i) s) K := by
  obtain ⟨n, rfl⟩ := Int.eq_ofNat_of_zero_le h0
  have hn : n < xs.length := by omega
  exact o_ixAL H hm (L2.atI_nat (v := xs[n]) (by simp [hn])) (k _ (List.getElem_mem _) (by simp [hn]))
theorem o_ixAD (H : Has s Z) (hm : (l, Is (.dic ks)) ∈ Z) (hk : keyOf x = some k) (hd : getD ks k = some d) (q : K d s) : WO (dIxA (.loc l) x s) K := wo_eq (dIxA_dic (H.is hm) hk hd) q
theorem o_notD (H : Has s Z) (hm : (l, Is (.dic ks)) ∈ Z) (hk : keyOf x = some k) (q : K (.bl (!(getD ks k).isSome)) s) : WO (dNotIn x (.loc l) s) K := wo_eq (by simp [dNotIn, dInB, dicOf, H.is hm, hk]) q
theorem pk_dic (H : Has s Z) (i : Nat) (hi : Z[i]? = some (l, Is (.dic ks))) (hk : keyOf x = some k) (hz : ks.length ≤ 1000000) (q : ∀ s', Has s' (Z.set i (l, Is (.dic (putD ks k y)))) → P (.nx env s')) : PutK pAny (.loc l) x y env s P :=
  putk (pAny_dic (H.is (List.mem_of_getElem? hi)) hk hz y) (q _ (H.put i hi rfl))
theorem Has.keep {Q : Cell → Prop} {c : Cell} (H : Has s Z) (hm : (l, Q) ∈ Z) (hc : Q c) : Has (s.set l c) Z := by
  obtain ⟨j, hj, e⟩ := List.getElem_of_mem hm
  have hg : Z[j]? = some (l, Q) := by rw [List.getElem?_eq_getElem hj, e]
  have := H.put j hg hc
  rwa [show Z.set j (l, Q) = Z by
    apply List.ext_getElem?
    intro n
    rw [List.getElem?_set]
    by_cases q : j = n
    · subst q; rw [if_pos rfl, if_pos hj, hg]
    · rw [if_neg q]] at this
theorem pk_keep {Q : Cell → Prop} {j : Nat} (H : Has s Z) (hm : (l, Q) ∈ Z) (hs : s[l]? = some (.lst xs)) (hj : j < xs.length) (hc : Q (.lst (xs.set j y))) (q : ∀ s', Has s' Z → s'[l]? = some (.lst (xs.set j y)) → P (.nx env s')) : PutK pAny (.loc l) (.int (j : Nat)) y env s P :=
  putk (s'' := s.set l (.lst (xs.set j y))) (by
    rw [pAny_loc hs]
    simp only [pList, hs]
    have : ixN xs.length (j : Int) = some j := by unfold ixN; simp; omega
    rw [this]
    rfl) (q _ (H.keep hm hc) (get_set hs))
theorem o_slA {lo hi : Option Int} (q : K (.tup (cutD xs lo hi)) s) : WO (dSl (.tup xs) lo hi s) K := q
theorem o_slAL {lo hi : Option Int} (H : Has s Z) (hm : (l, Ls xs) ∈ Z) (q : ∀ k s', s.length ≤ k → Has s' ((k, Ls (cutD xs lo hi)) :: Z) → K (.loc k) s') : WO (dSl (.loc l) lo hi s) K :=
  wo_eq (by simp [dSl, lstOf, H.lst hm]) (q _ _ (Nat.le_refl _) (H.new _))
theorem o_listAT (H : Has s Z) (q : ∀ l s', s.length ≤ l → Has s' ((l, Ls xs) :: Z) → K (.loc l) s') : WO (dListA [.tup xs] s) K := q _ _ (Nat.le_refl _) (H.new _)
theorem w_dict0 (H : Has s Z) (h : ∀ l s', s.length ≤ l → Has s' ((l, Is (.dic [])) :: Z) → K (.loc l) s') : WR (eDict0 env s) K E := h _ _ (Nat.le_refl _) (H.new _)
def EnmK (xs : List D) (s : Store) (KI : Itm → Store → Prop) : Prop := ∃ ys, xs = [.tup ys] ∧ KI (Itm.mk (enm ys) always) s
theorem w_enm (h : WR (as env s) (fun xs s => EnmK xs s KI) E) : WR (iEnm as env s) KI E := by
  rw [iEnm_eq]
  exact wr_bind (wr_mono h (fun xs s ⟨ys, e, h⟩ => by subst e; exact h) fun _ _ h => h)
theorem enmk {ys : List D} (h : KI (Itm.mk (enm ys) always) s) : EnmK [.tup ys] s KI := ⟨ys, rfl, h⟩
theorem w_dc {it : ME Itm} {vs : List Nat} {gt : D → Sl → Option Sl} (h : WR (it env s) (fun i s => WR (dcL i.guard gt t a b (wipeE env vs) i.xs [] s) (fun acc s => K (.loc s.length) (s ++ [.dic acc])) E) E) : WR (eDc it vs gt t a b env s) K E :=
  wr_bind (wr_mono h (fun _ _ h => wr_bind h) fun _ _ h => h)
end
/-! ### texts -/
abbrev cp (z : Str) : List Nat := z.cps.toList
theorem cp_inj {x y : Str} (h : cp x = cp y) : x = y := PySem.W.str_of_cps h
def Tk (z : Str) : Prop := ∀ c ∈ cp z, c < 1000
theorem tk_ok {z : Str} (h : Tk z) : PyData.strOk z = true := by
  unfold PyData.strOk
  rw [← Array.all_toList]
  exact List.all_eq_true.mpr fun c hc => by have := h c hc; simp; omega
theorem pysS : ∀ ws : List Str, pys0 (ws.map D.str) = some (ws.map PyData.str)
  | [] => rfl
  | x :: r => by rw [List.map_cons, pys0, py0, pysS r]; rfl
theorem layS : ∀ ws : List Str, (∀ w ∈ ws, Tk w) → PyData.canLayAll0 (ws.map PyData.str) = true ∧ PyData.depthAll (ws.map PyData.str) = 0
  | [], _ => ⟨by simp [PyData.canLayAll0], by simp [PyData.depthAll]⟩
  | x :: r, h => by
    obtain ⟨a, b⟩ := layS r fun y hy => h y (by simp [hy])
    constructor
    · simp [PyData.canLayAll0, PyData.canLay0, tk_ok (h x (by simp)), a]
    · simp [PyData.depthAll, PyData.depth, b]
theorem eqvS : ∀ A B : List Str, PyData.eqvAll (A.map PyData.str) (B.map PyData.str) = decide (A = B)
  | [], [] => by simp [PyData.eqvAll]
  | [], _ :: _ => by simp [PyData.eqvAll]
  | _ :: _, [] => by simp [PyData.eqvAll]
  | a :: A, b :: B => by
    have ih := eqvS A B
    simp [PyData.eqvAll, PyData.eqv, ih, Bool.beq_eq_decide_eq]
theorem shS {ws : List Str} (h : ∀ w ∈ ws, Tk w) : SeqAt.shaped (.list (ws.map PyData.str)) = true := by
  obtain ⟨a, b⟩ := layS ws h
  simp [SeqAt.shaped, PyData.canLay0, PyData.depth, a, b]
/-- two lists of texts -/
theorem ne_strs {s : Store} {l k : Nat} {A B : List Str} (h : s[l]? = some (.lst (A.map D.str))) (h2 : s[k]? = some (.lst (B.map D.str))) (hA : ∀ w ∈ A, Tk w) (hB : ∀ w ∈ B, Tk w) : dNe (.loc l) (.loc k) s = some (.bl (!decide (A = B)), s) := by
  have h1 : py1 s (.loc l) = some (.list (A.map PyData.str)) := by simp [py1, h, pysS]
  have h3 : py1 s (.loc k) = some (.list (B.map PyData.str)) := by simp [py1, h2, pysS]
  have h6 : PyData.eqv (.list (A.map PyData.str)) (.list (B.map PyData.str)) = decide (A = B) := by rw [PyData.eqv]; exact eqvS A B
  have h7 : dScal (.loc l) (.loc k) = none := rfl
  simp [dNe, dEqB, h7, h1, h3, shS hA, shS hB, h6]
/-- rows of texts -/
abbrev rowD (r : List Str) : D := .tup (r.map D.str)
theorem pysR : ∀ L : List (List Str), pys0 (L.map rowD) = some (L.map fun r => PyData.tuple (r.map PyData.str))
  | [] => rfl
  | r :: L => by rw [List.map_cons, pys0, py0, pysS r, pysR L]; rfl
theorem layR : ∀ L : List (List Str), (∀ r ∈ L, ∀ w ∈ r, Tk w) → PyData.canLayAll0 (L.map fun r => PyData.tuple (r.map PyData.str)) = true ∧ PyData.depthAll (L.map fun r => PyData.tuple (r.map PyData.str)) ≤ 1
  | [], _ => ⟨by simp [PyData.canLayAll0], by simp [PyData.depthAll]⟩
  | r :: L, h => by
    obtain ⟨a, b⟩ := layR L fun y hy => h y (by simp [hy])
    obtain ⟨a2, b2⟩ := layS r (h r (by simp))
    constructor
    · simp [PyData.canLayAll0, PyData.canLay0, a, a2]
    · simp [PyData.depthAll, PyData.depth, b2]
      omega
theorem eq_none {s : Store} {L : List (List Str)} (h : ∀ r ∈ L, ∀ w ∈ r, Tk w) : dEq (.tup (L.map rowD)) (.tup []) s = some (.bl L.isEmpty, s) := by
  obtain ⟨a, b⟩ := layR L h
  have h1 : py1 s (.tup (L.map rowD)) = some (.tuple (L.map fun r => PyData.tuple (r.map PyData.str))) := by simp [py1, py0, pysR]
  have h3 : py1 s (.tup []) = some (.tuple []) := by simp [py1, py0, pys0]
  have h4 : SeqAt.shaped (.tuple (L.map fun r => PyData.tuple (r.map PyData.str))) = true := by
    simp [SeqAt.shaped, PyData.canLay0, PyData.depth, a]
    omega
  have h5 : SeqAt.shaped (.tuple []) = true := by decide +kernel
  have h6 : PyData.eqv (.tuple (L.map fun r => PyData.tuple (r.map PyData.str))) (.tuple []) = L.isEmpty := by
    cases L <;> simp [PyData.eqv, PyData.eqvAll]
  have h7 : dScal (.tup (L.map rowD)) (.tup []) = none := rfl
  simp [dEq, dEqB, h7, h1, h3, h4, h5, h6]
/-! ### sorted texts -/
noncomputable def srtZ (A : List Str) : List Str := A.mergeSort fun x y => decide (cp x ≤ cp y)
theorem srtZ_ok (A : List Str) : sortOk (A.map D.str) ∧ sortD (A.map D.str) = (srtZ A).map D.str := by
  refine ⟨(sort_strs A).1, ?_⟩
  unfold sortD srtZ
  have e := PySem.W.dataLe_str (fun x : Str => x)
  have e2 : (fun x y : Str => decide (cp x ≤ cp y)) = fun x y : Str => PySem.W.dataLe false pyD (D.str x) (D.str y) := by
    funext x y
    exact (congrFun (congrFun e x) y).symm
  rw [e2, List.map_mergeSort (r := fun x y : Str => PySem.W.dataLe false pyD (D.str x) (D.str y)) (s := PySem.W.dataLe false pyD) fun _ _ _ _ => rfl]
theorem srtZ_perm (A : List Str) : (srtZ A).Perm A := List.mergeSort_perm _ _
theorem srtZ_pw (A : List Str) : (srtZ A).Pairwise fun x y => cp x ≤ cp y :=
  (List.pairwise_mergeSort (le := fun x y : Str => decide (cp x ≤ cp y)) (fun a b c h1 h2 => by simp at h1 h2 ⊢; exact List.le_trans h1 h2) (fun a b => by simp; exact List.le_total _ _) A).imp fun {a b} h => by simpa using h
theorem srtZ_eq {A B : List Str} : srtZ A = srtZ B ↔ A.Perm B := by
  constructor
  · intro h
    exact (srtZ_perm A).symm.trans (h ▸ srtZ_perm B)
  · intro h
    exact List.Perm.eq_of_pairwise (le := fun x y => cp x ≤ cp y) (fun a b _ _ h1 h2 => cp_inj (List.le_antisymm h1 h2)) (srtZ_pw A) (srtZ_pw B) ((srtZ_perm A).trans (h.trans (srtZ_perm B).symm))
theorem srtZ_fix {A : List Str} (nd : A.Nodup) : A = srtZ A ↔ A.Pairwise fun x y => cp x < cp y := by
  constructor
  · intro h
    have p := srtZ_pw A
    rw [← h] at p
    refine (p.and nd).imp fun {a b} ⟨h1, h2⟩ => ?_
    rcases Classical.em (cp a < cp b) with q | q
    · exact q
    · exact absurd (cp_inj (List.le_antisymm h1 (List.not_lt.mp q))) h2
  · intro h
    refine (List.mergeSort_of_pairwise (le := fun x y : Str => decide (cp x ≤ cp y)) (h.imp fun {a b} q => ?_)).symm
    exact decide_eq_true (List.not_lt.mp fun z => List.lt_irrefl (cp a) (List.lt_trans q z))
section
variable {K : D → Store → Prop} {s : Store} {xs : List D} {i : Int} {z : Str}
theorem o_iT1 (k : K (.bl true) s) : WO (dIsi "tuple" (.tup xs) s) K := wo_eq rfl k
theorem o_iT2 (k : K (.bl false) s) : WO (dIsi "tuple" (.int i) s) K := wo_eq rfl k
theorem o_iT3 (k : K (.bl false) s) : WO (dIsi "tuple" (.str z) s) K := wo_eq rfl k
theorem o_iS1 (k : K (.bl true) s) : WO (dIsi "str" (.str z) s) K := wo_eq rfl k
theorem o_iS2 (k : K (.bl false) s) : WO (dIsi "str" (.int i) s) K := wo_eq rfl k
theorem o_iS3 (k : K (.bl false) s) : WO (dIsi "str" (.tup xs) s) K := wo_eq rfl k
theorem o_iI1 (k : K (.bl true) s) : WO (dIsi "int" (.int i) s) K := wo_eq rfl k
theorem o_iI2 (k : K (.bl false) s) : WO (dIsi "int" (.str z) s) K := wo_eq rfl k
theorem o_iI3 (k : K (.bl false) s) : WO (dIsi "int" (.tup xs) s) K := wo_eq rfl k
theorem o_iB1 (k : K (.bl false) s) : WO (dIsi "bool" (.int i) s) K := wo_eq rfl k
end
end Mi
namespace Law
open PySem PySem.Spec PyProof.Rows L2 Mi
/-! ### the text -/
def topS (i : Nat) : Stmt := PySem.Challenge.pw_beforeinall_k24_orders_and_their_records.main.body.getD i (.Pass ⟨0, 0, 0, 0⟩)
abbrev s_deed_places : Stmt := topS 5
abbrev s_order_of : Stmt := topS 7
abbrev s_check_order : Stmt := topS 8
abbrev s_order_records : Stmt := topS 9
abbrev s_d_law_pool : Stmt := topS 11
abbrev s_d_law_draw : Stmt := topS 12
abbrev s_d_law_deeds : Stmt := topS 13
abbrev s_d_law_entries : Stmt := topS 14
abbrev s_d_law_order : Stmt := topS 15
abbrev s_d_law_records : Stmt := topS 16
abbrev s_d_law_same : Stmt := topS 17
abbrev s_d_law_judge : Stmt := topS 18
abbrev s_d_law_ask : Stmt := topS 19
abbrev s_d_law_put : Stmt := topS 20
abbrev s_d_law_bent : Stmt := topS 21
abbrev s_d_law_arranged : Stmt := topS 22
abbrev s_d_law_asked : Stmt := topS 23
abbrev s_law : Stmt := topS 24
theorem sc_deed_places : FnScope ["book", "place", "deed"] ["book"] (defScope s_deed_places) := ⟨rfl, rfl, rfl, by decide +kernel, rfl, by decide +kernel, by decide +kernel⟩
theorem sc_order_of : FnScope ["book", "chosen", "dating", "places", "levels", "deed", "year"] ["book", "chosen", "dating"] (defScope s_order_of) := ⟨rfl, rfl, rfl, by decide +kernel, rfl, by decide +kernel, by decide +kernel⟩
theorem sc_check_order : FnScope ["chosen", "thing", "told", "level", "deed", "at"] ["chosen", "thing"] (defScope s_check_order) := ⟨rfl, rfl, rfl, by decide +kernel, rfl, by decide +kernel, by decide +kernel⟩
theorem sc_order_records : FnScope ["order", "records", "at", "level", "first", "deed"] ["order"] (defScope s_order_records) := ⟨rfl, rfl, rfl, by decide +kernel, rfl, by decide +kernel, by decide +kernel⟩
theorem sc_d_law_pool : FnScope ["script", "cells", "cell"] ["script"] (defScope s_d_law_pool) := ⟨rfl, rfl, rfl, by decide +kernel, rfl, by decide +kernel, by decide +kernel⟩
theorem sc_d_law_draw : FnScope ["pool", "many", "cells", "turn", "at", "cell", "one", "two"] ["pool", "many"] (defScope s_d_law_draw) := ⟨rfl, rfl, rfl, by decide +kernel, rfl, by decide +kernel, by decide +kernel⟩
theorem sc_d_law_deeds : FnScope ["pool", "many", "letters", "tails", "words", "letter", "tail", "out", "step", "at"] ["pool", "many"] (defScope s_d_law_deeds) := ⟨rfl, rfl, rfl, by decide +kernel, rfl, by decide +kernel, by decide +kernel⟩
theorem sc_d_law_entries : FnScope ["pool", "deeds", "first", "many", "out", "step", "digger", "one", "other", "parts"] ["pool", "deeds", "first", "many"] (defScope s_d_law_entries) := ⟨rfl, rfl, rfl, by decide +kernel, rfl, by decide +kernel, by decide +kernel⟩
theorem sc_d_law_order : FnScope ["chosen", "years", "times", "time", "deed"] ["chosen", "years"] (defScope s_d_law_order) := ⟨rfl, rfl, rfl, by decide +kernel, rfl, by decide +kernel, by decide +kernel⟩
theorem sc_d_law_records : FnScope ["order", "out", "at", "first", "deed"] ["order"] (defScope s_d_law_records) := ⟨rfl, rfl, rfl, by decide +kernel, rfl, by decide +kernel, by decide +kernel⟩
theorem sc_d_law_same : FnScope ["told", "due", "at"] ["told", "due"] (defScope s_d_law_same) := ⟨rfl, rfl, rfl, by decide +kernel, rfl, by decide +kernel, by decide +kernel⟩
theorem sc_d_law_judge : FnScope ["chosen", "thing", "found", "level", "deed", "many", "one", "at", "place"] ["chosen", "thing"] (defScope s_d_law_judge) := ⟨rfl, rfl, rfl, by decide +kernel, rfl, by decide +kernel, by decide +kernel⟩
theorem sc_d_law_ask : FnScope ["chosen", "thing", "refused"] ["chosen", "thing"] (defScope s_d_law_ask) := ⟨rfl, rfl, rfl, by decide +kernel, rfl, by decide +kernel, by decide +kernel⟩
theorem sc_d_law_put : FnScope ["row", "at", "thing"] ["row", "at", "thing"] (defScope s_d_law_put) := ⟨rfl, rfl, rfl, by decide +kernel, rfl, by decide +kernel, by decide +kernel⟩
theorem sc_d_law_bent : FnScope ["pool", "chosen", "order", "kind", "strange", "at", "level", "place", "extra", "other"] ["pool", "chosen", "order"] (defScope s_d_law_bent) := ⟨rfl, rfl, rfl, by decide +kernel, rfl, by decide +kernel, by decide +kernel⟩
theorem sc_d_law_arranged : FnScope ["pool", "chosen", "most", "levels", "deed"] ["pool", "chosen"] (defScope s_d_law_arranged) := ⟨rfl, rfl, rfl, by decide +kernel, rfl, by decide +kernel, by decide +kernel⟩
theorem sc_d_law_asked : FnScope ["pool", "chosen", "order", "due", "wrong", "step", "thing"] ["pool", "chosen", "order"] (defScope s_d_law_asked) := ⟨rfl, rfl, rfl, by decide +kernel, rfl, by decide +kernel, by decide +kernel⟩
theorem sc_law : FnScope ["script", "pool", "many", "entries", "deeds", "first", "book", "spread", "dating", "years", "place", "share", "chosen", "order", "deed"] ["script"] (defScope s_law) := ⟨rfl, rfl, rfl, by decide +kernel, rfl, by decide +kernel, by decide +kernel⟩
abbrev s_BadOrder : Stmt := (clsBody (topS 3)).getD 0 (.Pass ⟨0, 0, 0, 0⟩)
theorem sc_BadOrder : FnScope ["self", "at"] ["self", "at"] (defScope s_BadOrder) := ⟨rfl, rfl, rfl, by decide +kernel, rfl, by decide +kernel, by decide +kernel⟩
/-! ### what the top has left -/
structure Fx (K : PySem.W.Frag) (mg : Str → Option Value) where
  a_deed_places : Addr
  d_deed_places : FuncData
  F_deed_places : Fun K "deed_places" "deed_places" s_deed_places a_deed_places d_deed_places
  g_deed_places : mg "deed_places" = some (.ref a_deed_places)
  a_order_of : Addr
  d_order_of : FuncData
  F_order_of : Fun K "order_of" "order_of" s_order_of a_order_of d_order_of
  g_order_of : mg "order_of" = some (.ref a_order_of)
  a_check_order : Addr
  d_check_order : FuncData
  F_check_order : Fun K "check_order" "check_order" s_check_order a_check_order d_check_order
  g_check_order : mg "check_order" = some (.ref a_check_order)
  a_order_records : Addr
  d_order_records : FuncData
  F_order_records : Fun K "order_records" "order_records" s_order_records a_order_records d_order_records
  g_order_records : mg "order_records" = some (.ref a_order_records)
  a_d_law_pool : Addr
  d_d_law_pool : FuncData
  F_d_law_pool : Fun K "_law_pool" "_law_pool" s_d_law_pool a_d_law_pool d_d_law_pool
  g_d_law_pool : mg "_law_pool" = some (.ref a_d_law_pool)
  a_d_law_draw : Addr
  d_d_law_draw : FuncData
  F_d_law_draw : Fun K "_law_draw" "_law_draw" s_d_law_draw a_d_law_draw d_d_law_draw
  g_d_law_draw : mg "_law_draw" = some (.ref a_d_law_draw)
  a_d_law_deeds : Addr
  d_d_law_deeds : FuncData
  F_d_law_deeds : Fun K "_law_deeds" "_law_deeds" s_d_law_deeds a_d_law_deeds d_d_law_deeds
  g_d_law_deeds : mg "_law_deeds" = some (.ref a_d_law_deeds)
  a_d_law_entries : Addr
  d_d_law_entries : FuncData
  F_d_law_entries : Fun K "_law_entries" "_law_entries" s_d_law_entries a_d_law_entries d_d_law_entries
  g_d_law_entries : mg "_law_entries" = some (.ref a_d_law_entries)
  a_d_law_order : Addr
  d_d_law_order : FuncData
  F_d_law_order : Fun K "_law_order" "_law_order" s_d_law_order a_d_law_order d_d_law_order
  g_d_law_order : mg "_law_order" = some (.ref a_d_law_order)
  a_d_law_records : Addr
  d_d_law_records : FuncData
  F_d_law_records : Fun K "_law_records" "_law_records" s_d_law_records a_d_law_records d_d_law_records
  g_d_law_records : mg "_law_records" = some (.ref a_d_law_records)
  a_d_law_same : Addr
  d_d_law_same : FuncData
  F_d_law_same : Fun K "_law_same" "_law_same" s_d_law_same a_d_law_same d_d_law_same
  g_d_law_same : mg "_law_same" = some (.ref a_d_law_same)
  a_d_law_judge : Addr
  d_d_law_judge : FuncData
  F_d_law_judge : Fun K "_law_judge" "_law_judge" s_d_law_judge a_d_law_judge d_d_law_judge
  g_d_law_judge : mg "_law_judge" = some (.ref a_d_law_judge)
  a_d_law_ask : Addr
  d_d_law_ask : FuncData
  F_d_law_ask : Fun K "_law_ask" "_law_ask" s_d_law_ask a_d_law_ask d_d_law_ask
  g_d_law_ask : mg "_law_ask" = some (.ref a_d_law_ask)
  a_d_law_put : Addr
  d_d_law_put : FuncData
  F_d_law_put : Fun K "_law_put" "_law_put" s_d_law_put a_d_law_put d_d_law_put
  g_d_law_put : mg "_law_put" = some (.ref a_d_law_put)
  a_d_law_bent : Addr
  d_d_law_bent : FuncData
  F_d_law_bent : Fun K "_law_bent" "_law_bent" s_d_law_bent a_d_law_bent d_d_law_bent
  g_d_law_bent : mg "_law_bent" = some (.ref a_d_law_bent)
  a_d_law_arranged : Addr
  d_d_law_arranged : FuncData
  F_d_law_arranged : Fun K "_law_arranged" "_law_arranged" s_d_law_arranged a_d_law_arranged d_d_law_arranged
  g_d_law_arranged : mg "_law_arranged" = some (.ref a_d_law_arranged)
  a_d_law_asked : Addr
  d_d_law_asked : FuncData
  F_d_law_asked : Fun K "_law_asked" "_law_asked" s_d_law_asked a_d_law_asked d_d_law_asked
  g_d_law_asked : mg "_law_asked" = some (.ref a_d_law_asked)
  a_law : Addr
  d_law : FuncData
  F_law : Fun K "law" "law" s_law a_law d_law
  g_law : mg "law" = some (.ref a_law)
  c_BadOrder : Addr
  i_BadOrder : Addr
  d_BadOrder : FuncData
  gc_BadOrder : mg "BadOrder" = some (.ref c_BadOrder)
  T_BadOrder : OexC K c_BadOrder
  iC_BadOrder : PySem.W.findIn K (.ref c_BadOrder) "__init__" = some (some (.ref i_BadOrder))
  tI_BadOrder : PySem.W.typeIn K (.ref i_BadOrder) = some (.type "function")
  F_BadOrder : Fun K "__init__" "BadOrder.__init__" s_BadOrder i_BadOrder d_BadOrder
  xf_BadOrder : XfC K c_BadOrder
  te_BadOrder : PySem.W.exmOne K (.ref c_BadOrder) (.ref c_BadOrder) = some true
  no_BadOrder_at : PySem.W.findIn K (.ref c_BadOrder) "at" = some none
  b_bool : mg "bool" = none
  b_enumerate : mg "enumerate" = none
  b_int : mg "int" = none
  b_isinstance : mg "isinstance" = none
  b_len : mg "len" = none
  b_list : mg "list" = none
  b_range : mg "range" = none
  b_set : mg "set" = none
  b_sorted : mg "sorted" = none
  b_str : mg "str" = none
  b_tuple : mg "tuple" = none
variable {P : Program} {w : World} {K : PySem.W.Frag} {mg : Str → Option Value} {base : Heap}
theorem bd_deed_places (X : Fx K mg) : Binds K X.d_deed_places ["book"] [] := X.F_deed_places.binds (ps := ["book"]) fun _ _ _ _ _ _ us hl => match us, hl with | [_], _ => rfl
theorem bd_order_of (X : Fx K mg) : Binds K X.d_order_of ["book", "chosen", "dating"] [] := X.F_order_of.binds (ps := ["book", "chosen", "dating"]) fun _ _ _ _ _ _ us hl => match us, hl with | [_, _, _], _ => rfl
theorem bd_check_order (X : Fx K mg) : Binds K X.d_check_order ["chosen", "thing"] [] := X.F_check_order.binds (ps := ["chosen", "thing"]) fun _ _ _ _ _ _ us hl => match us, hl with | [_, _], _ => rfl
theorem bd_order_records (X : Fx K mg) : Binds K X.d_order_records ["order"] [] := X.F_order_records.binds (ps := ["order"]) fun _ _ _ _ _ _ us hl => match us, hl with | [_], _ => rfl
theorem bd_d_law_pool (X : Fx K mg) : Binds K X.d_d_law_pool ["script"] [] := X.F_d_law_pool.binds (ps := ["script"]) fun _ _ _ _ _ _ us hl => match us, hl with | [_], _ => rfl
theorem bd_d_law_draw (X : Fx K mg) : Binds K X.d_d_law_draw ["pool", "many"] [] := X.F_d_law_draw.binds (ps := ["pool", "many"]) fun _ _ _ _ _ _ us hl => match us, hl with | [_, _], _ => rfl
theorem bd_d_law_deeds (X : Fx K mg) : Binds K X.d_d_law_deeds ["pool", "many"] [] := X.F_d_law_deeds.binds (ps := ["pool", "many"]) fun _ _ _ _ _ _ us hl => match us, hl with | [_, _], _ => rfl
theorem bd_d_law_entries (X : Fx K mg) : Binds K X.d_d_law_entries ["pool", "deeds", "first", "many"] [] := X.F_d_law_entries.binds (ps := ["pool", "deeds", "first", "many"]) fun _ _ _ _ _ _ us hl => match us, hl with | [_, _, _, _], _ => rfl
theorem bd_d_law_order (X : Fx K mg) : Binds K X.d_d_law_order ["chosen", "years"] [] := X.F_d_law_order.binds (ps := ["chosen", "years"]) fun _ _ _ _ _ _ us hl => match us, hl with | [_, _], _ => rfl
theorem bd_d_law_records (X : Fx K mg) : Binds K X.d_d_law_records ["order"] [] := X.F_d_law_records.binds (ps := ["order"]) fun _ _ _ _ _ _ us hl => match us, hl with | [_], _ => rfl
theorem bd_d_law_same (X : Fx K mg) : Binds K X.d_d_law_same ["told", "due"] [] := X.F_d_law_same.binds (ps := ["told", "due"]) fun _ _ _ _ _ _ us hl => match us, hl with | [_, _], _ => rfl
theorem bd_d_law_judge (X : Fx K mg) : Binds K X.d_d_law_judge ["chosen", "thing"] [] := X.F_d_law_judge.binds (ps := ["chosen", "thing"]) fun _ _ _ _ _ _ us hl => match us, hl with | [_, _], _ => rfl
theorem bd_d_law_ask (X : Fx K mg) : Binds K X.d_d_law_ask ["chosen", "thing"] [] := X.F_d_law_ask.binds (ps := ["chosen", "thing"]) fun _ _ _ _ _ _ us hl => match us, hl with | [_, _], _ => rfl
theorem bd_d_law_put (X : Fx K mg) : Binds K X.d_d_law_put ["row", "at", "thing"] [] := X.F_d_law_put.binds (ps := ["row", "at", "thing"]) fun _ _ _ _ _ _ us hl => match us, hl with | [_, _, _], _ => rfl
theorem bd_d_law_bent (X : Fx K mg) : Binds K X.d_d_law_bent ["pool", "chosen", "order"] [] := X.F_d_law_bent.binds (ps := ["pool", "chosen", "order"]) fun _ _ _ _ _ _ us hl => match us, hl with | [_, _, _], _ => rfl
theorem bd_d_law_arranged (X : Fx K mg) : Binds K X.d_d_law_arranged ["pool", "chosen"] [] := X.F_d_law_arranged.binds (ps := ["pool", "chosen"]) fun _ _ _ _ _ _ us hl => match us, hl with | [_, _], _ => rfl
theorem bd_d_law_asked (X : Fx K mg) : Binds K X.d_d_law_asked ["pool", "chosen", "order"] [] := X.F_d_law_asked.binds (ps := ["pool", "chosen", "order"]) fun _ _ _ _ _ _ us hl => match us, hl with | [_, _, _], _ => rfl
theorem bd_law (X : Fx K mg) : Binds K X.d_law ["script"] [] := X.F_law.binds (ps := ["script"]) fun _ _ _ _ _ _ us hl => match us, hl with | [_], _ => rfl
theorem bi_BadOrder (X : Fx K mg) : Binds K X.d_BadOrder ["self", "at"] [] := X.F_BadOrder.binds (ps := ["self", "at"]) fun _ _ _ _ _ _ us hl => match us, hl with | [_, _], _ => rfl
theorem oi_BadOrder (X : Fx K mg) : FnOk P w K mg base (L2.CX P w) 1 X.i_BadOrder X.d_BadOrder ["self", "at"] (spI1 X.c_BadOrder "at") := okI1 X.F_BadOrder sc_BadOrder rfl rfl X.T_BadOrder X.no_BadOrder_at fun cdv A outer s H E => pss_one (ps_ost (pv 0) (pv 1))
/-! ### mirrors and derivations -/
noncomputable def le_deed_places_1 : ME D := eV 1
noncomputable def ke_deed_places_2 : ME D := eV 2
noncomputable def b_deed_places : MS := sRet (eDc (iEnm (aCons (e2 dIxA (eV 0) (eC (.int 2))) (aNil))) [1, 2] (gT 2 (gsC (gN 1) (gsC (gN 2) (gsN)))) (tT) (ke_deed_places_2) (le_deed_places_1))
noncomputable def m_deed_places : List D → Store → R D := fnM 3 1 b_deed_places
theorem ok_deed_places (X : Fx K mg) : FnOk P w K mg base (L2.CX P w) 1 X.a_deed_places X.d_deed_places ["book"] (spM K mg 1 m_deed_places) :=
  okM (k := 0) X.F_deed_places sc_deed_places rfl fun cdv A outer s H E hr tk =>
    (css_one (cs_ret (ce_dc (own := [("place", 1), ("deed", 2)]) rfl sc_deed_places.nd (ci_enum (by rfl) X.b_enumerate (ca_cons (ce_ix (ix_any hr.units) ops_ixA (ce_v 0) (ce_int) (fun _ _ => rfl)) (ca_nil))) (blkOk_by (N := ["book", "place", "deed"]) (sc := defScope s_deed_places) (by decide +kernel)) (fun _ _ _ _ _ => cg_tup (n := 2) rfl (cgs_cons (us := [1, 2]) (cg_name (i := 1) sc_deed_places.nd rfl (by first | exact Or.inl rfl | exact Or.inr rfl)) (cgs_cons (us := [2]) (cg_name (i := 2) sc_deed_places.nd rfl (by first | exact Or.inl rfl | exact Or.inr rfl)) (cgs_nil (vs := []))))) (fun _ _ _ _ _ => cts_nil) (fun _ _ _ _ _ => ce_v 2) (fun _ _ _ _ _ => ce_v 1))) :
      PSs _ _ (Ts _ _ _ b_deed_places))
noncomputable def bl_order_records_1 : MS := sSeq (sExpr (eMt "list" dAppend (eV 1) (aCons (eTup (aCons (eC (.str "gap")) (aCons (eV 4) (aCons (eV 5) (aCons (eC (.int 0)) (aNil)))))) (aNil))))
  (sExpr (eMt "list" dAppend (eV 1) (aCons (eTup (aCons (eC (.str "gap")) (aCons (eV 5) (aCons (eV 4) (aCons (eC (.int 0)) (aNil)))))) (aNil))))
noncomputable def bl_order_records_2 : MS := sSeq (sSet 4 (e2 dIxA (eV 3) (eC (.int 0))))
  (sSeq (sFor (iSeq (eSl dSl (eV 3) (oSome (eC (.int 1))) (oNone))) (gN 5) (bl_order_records_1))
  (sIf (tV (e2 dLt (e2 dAdd (eV 2) (eC (.int 1))) (eFn dLen (aCons (eV 0) (aNil))))) (sExpr (eMt "list" dAppend (eV 1) (aCons (eTup (aCons (eC (.str "gap")) (aCons (eV 4) (aCons (e2 dIxA (e2 dIxA (eV 0) (e2 dAdd (eV 2) (eC (.int 1)))) (eC (.int 0))) (aCons (eC (.int 1)) (aNil)))))) (aNil)))) (sNil)))
noncomputable def b_order_records : MS := sSeq (sSet 1 (eLst (aNil)))
  (sSeq (sFor (iEnm (aCons (eV 0) (aNil))) (gT 2 (gsC (gN 2) (gsC (gN 3) (gsN)))) (bl_order_records_2))
  (sRet (eFn dTuple (aCons (eV 1) (aNil)))))
noncomputable def m_order_records : List D → Store → R D := fnM 6 1 b_order_records
theorem ok_order_records (X : Fx K mg) : FnOk P w K mg base (L2.CX P w) 1 X.a_order_records X.d_order_records ["order"] (spM K mg 1 m_order_records) :=
  okM (k := 0) X.F_order_records sc_order_records rfl fun cdv A outer s H E hr tk =>
    (css_cons (cs_set (j := 1) sc_order_records.nd rfl (Or.inl rfl) (ce_lst (ca_nil)))
    (css_cons (cs_for (passes_of rfl) rfl (ci_enum (by rfl) X.b_enumerate (ca_cons (ce_v 0) (ca_nil))) (cg_tup (n := 2) rfl (cgs_cons (us := [2, 3]) (cg_name (i := 2) sc_order_records.nd rfl (by first | exact Or.inl rfl | exact Or.inr rfl)) (cgs_cons (us := [3]) (cg_name (i := 3) sc_order_records.nd rfl (by first | exact Or.inl rfl | exact Or.inr rfl)) (cgs_nil (vs := []))))) (css_cons (cs_set (j := 4) sc_order_records.nd rfl (Or.inl rfl) (ce_ix (ix_any hr.units) ops_ixA (ce_v 3) (ce_int) (fun _ _ => rfl)))
    (css_cons (cs_for (passes_of rfl) rfl (ci_seq (ce_sl sl_LT sls_LT (ce_v 3) (co_some (ce_int)) (co_none))) (cg_name (i := 5) sc_order_records.nd rfl (by first | exact Or.inl rfl | exact Or.inr rfl)) (css_cons (cs_expr (ce_bm PySem.F.plainAttrs_list PySem.F.slot_list_append PySem.F.type_list_append mt_append mts_append (ce_v 1) (ca_cons (ce_tup (ca_cons (ce_str) (ca_cons (ce_v 4) (ca_cons (ce_v 5) (ca_cons (ce_int) (ca_nil)))))) (ca_nil))))
    (css_one (cs_expr (ce_bm PySem.F.plainAttrs_list PySem.F.slot_list_append PySem.F.type_list_append mt_append mts_append (ce_v 1) (ca_cons (ce_tup (ca_cons (ce_str) (ca_cons (ce_v 5) (ca_cons (ce_v 4) (ca_cons (ce_int) (ca_nil)))))) (ca_nil)))))))
    (css_one (cs_if (ct_cmp opA_lt ops_lt (ce_op op_addA ops_add (ce_v 2) (ce_int)) (ce_callB call_len fns_len (by rfl) X.b_len (by decide +kernel) (ca_cons (ce_v 0) (ca_nil))) (nomark _)) (css_one (cs_expr (ce_bm PySem.F.plainAttrs_list PySem.F.slot_list_append PySem.F.type_list_append mt_append mts_append (ce_v 1) (ca_cons (ce_tup (ca_cons (ce_str) (ca_cons (ce_v 4) (ca_cons (ce_ix (ix_any hr.units) ops_ixA (ce_ix (ix_any hr.units) ops_ixA (ce_v 0) (ce_op op_addA ops_add (ce_v 2) (ce_int)) (fun _ _ => rfl)) (ce_int) (fun _ _ => rfl)) (ca_cons (ce_int) (ca_nil)))))) (ca_nil))))) (css_nil))))))
    (css_one (cs_ret (ce_callTy call_tuple_of fns_tuple (by rfl) X.b_tuple (by decide +kernel) (ca_cons (ce_v 1) (ca_nil)))))) :
      PSs _ _ (Ts _ _ _ b_order_records))
noncomputable def le_d_law_pool_1 : ME D := eFn dInt (aCons (eV 2) (aNil))
noncomputable def b_d_law_pool : MS := sSeq (sSet 1 (eLc (iSeq (eV 0)) [2] (gN 2) (tT) (le_d_law_pool_1)))
  (sSeq (sIf (tV (e2 dEq (eV 1) (eLst (aNil)))) (sSet 1 (eLst (aCons (eC (.int 24)) (aNil)))) (sNil))
  (sRet (eLst (aCons (eV 1) (aCons (eC (.int 0)) (aNil))))))
noncomputable def m_d_law_pool : List D → Store → R D := fnM 3 1 b_d_law_pool
theorem ok_d_law_pool (X : Fx K mg) : FnOk P w K mg base (L2.CX P w) 1 X.a_d_law_pool X.d_d_law_pool ["script"] (spM K mg 1 m_d_law_pool) :=
  okM (k := 0) X.F_d_law_pool sc_d_law_pool rfl fun cdv A outer s H E hr tk =>
    (css_cons (cs_setLc (i := 1) (own := [("cell", 2)]) rfl sc_d_law_pool.nd rfl rfl (sw_true rfl rfl rfl (by decide +kernel)) (ci_seq (ce_v 0)) (blkOk_by (N := ["script", "cells", "cell"]) (sc := defScope s_d_law_pool) (by decide +kernel)) (fun _ _ _ _ _ => cg_name (i := 2) sc_d_law_pool.nd rfl (by first | exact Or.inl rfl | exact Or.inr rfl)) (fun _ _ _ _ _ => cts_nil) (fun _ _ _ _ _ => ce_callTy call_int1 fns_int (by rfl) X.b_int (by decide +kernel) (ca_cons (ce_v 2) (ca_nil))))
    (css_cons (cs_if (ct_cmp (opA_eq hr.units) ops_eq (ce_v 1) (ce_lst (ca_nil)) (nomark _)) (css_one (cs_set (j := 1) sc_d_law_pool.nd rfl (Or.inl rfl) (ce_lst (ca_cons (ce_int) (ca_nil))))) (css_nil))
    (css_one (cs_ret (ce_lst (ca_cons (ce_v 1) (ca_cons (ce_int) (ca_nil))))))) :
      PSs _ _ (Ts _ _ _ b_d_law_pool))
noncomputable def b_d_law_draw : MS := sSeq (sSet 2 (e2 dIxA (eV 0) (eC (.int 0))))
  (sSeq (sSet 3 (e2 dIxA (eV 0) (eC (.int 1))))
  (sSeq (sPut pAny (eV 0) (eC (.int 1)) (e2 dAdd (eV 3) (eC (.int 1))))
  (sSeq (sSet 4 (e2 dMod (eV 3) (eFn dLen (aCons (eV 2) (aNil)))))
  (sSeq (sSet 5 (e2 dIxA (eV 2) (eV 4)))
  (sSeq (sIf (tV (e2 dGe (eV 5) (eC (.int 1000000000000000000)))) (sSeq (sPut pAny (eV 2) (eV 4) (e2 dDiv (eV 5) (eV 1)))
  (sRet (e2 dMod (eFn dInt (aCons (eV 5) (aNil))) (eV 1)))) (sNil))
  (sSeq (sSet 6 (e2 dMod (eFn dInt (aCons (e2 dAdd (e2 dAdd (e2 dMul (eV 5) (eC (.int 57251))) (e2 dMul (eV 3) (eC (.int 6967)))) (eC (.int 173))) (aNil))) (eC (.int 1000039))))
  (sSeq (sSet 7 (e2 dMod (eFn dInt (aCons (e2 dAdd (e2 dAdd (e2 dMul (eV 6) (eV 6)) (e2 dMul (eV 6) (eC (.int 7243)))) (e2 dMul (eV 3) (eC (.int 19)))) (aNil))) (eC (.int 999983))))
  (sRet (e2 dMod (eV 7) (eV 1))))))))))
noncomputable def m_d_law_draw : List D → Store → R D := fnM 8 2 b_d_law_draw
theorem ok_d_law_draw (X : Fx K mg) : FnOk P w K mg base (L2.CX P w) 1 X.a_d_law_draw X.d_d_law_draw ["pool", "many"] (spM K mg 2 m_d_law_draw) :=
  okM (k := 0) X.F_d_law_draw sc_d_law_draw rfl fun cdv A outer s H E hr tk =>
    (css_cons (cs_set (j := 2) sc_d_law_draw.nd rfl (Or.inl rfl) (ce_ix (ix_any hr.units) ops_ixA (ce_v 0) (ce_int) (fun _ _ => rfl)))
    (css_cons (cs_set (j := 3) sc_d_law_draw.nd rfl (Or.inl rfl) (ce_ix (ix_any hr.units) ops_ixA (ce_v 0) (ce_int) (fun _ _ => rfl)))
    (css_cons (cs_put (ce_op op_addA ops_add (ce_v 3) (ce_int)) (ce_v 0) (ce_int) (set_any hr.units) puts_any)
    (css_cons (cs_set (j := 4) sc_d_law_draw.nd rfl (Or.inl rfl) (ce_op op_mod ops_mod (ce_v 3) (ce_callB call_len fns_len (by rfl) X.b_len (by decide +kernel) (ca_cons (ce_v 2) (ca_nil)))))
    (css_cons (cs_set (j := 5) sc_d_law_draw.nd rfl (Or.inl rfl) (ce_ix (ix_any hr.units) ops_ixA (ce_v 2) (ce_v 4) (fun _ _ => rfl)))
    (css_cons (cs_if (ct_cmp opA_ge ops_ge (ce_v 5) (ce_int) (nomark _)) (css_cons (cs_put (ce_op op_fdiv ops_div (ce_v 5) (ce_v 1)) (ce_v 2) (ce_v 4) (set_any hr.units) puts_any)
    (css_one (cs_ret (ce_op op_mod ops_mod (ce_callTy call_int1 fns_int (by rfl) X.b_int (by decide +kernel) (ca_cons (ce_v 5) (ca_nil))) (ce_v 1))))) (css_nil))
    (css_cons (cs_set (j := 6) sc_d_law_draw.nd rfl (Or.inl rfl) (ce_op op_mod ops_mod (ce_callTy call_int1 fns_int (by rfl) X.b_int (by decide +kernel) (ca_cons (ce_op op_addA ops_add (ce_op op_addA ops_add (ce_op op_mul ops_mul (ce_v 5) (ce_int)) (ce_op op_mul ops_mul (ce_v 3) (ce_int))) (ce_int)) (ca_nil))) (ce_int)))
    (css_cons (cs_set (j := 7) sc_d_law_draw.nd rfl (Or.inl rfl) (ce_op op_mod ops_mod (ce_callTy call_int1 fns_int (by rfl) X.b_int (by decide +kernel) (ca_cons (ce_op op_addA ops_add (ce_op op_addA ops_add (ce_op op_mul ops_mul (ce_v 6) (ce_v 6)) (ce_op op_mul ops_mul (ce_v 6) (ce_int))) (ce_op op_mul ops_mul (ce_v 3) (ce_int))) (ca_nil))) (ce_int)))
    (css_one (cs_ret (ce_op op_mod ops_mod (ce_v 7) (ce_v 1))))))))))) :
      PSs _ _ (Ts _ _ _ b_d_law_draw))
noncomputable def lt_d_law_order_1 : ME Bool := tV (e2 dEq (e2 dIxA (eV 1) (eV 4)) (eV 3))
noncomputable def le_d_law_order_2 : ME D := eV 4
noncomputable def le_d_law_order_3 : ME D := eFn dTuple (aCons (eLc (iSeq (eV 0)) [4] (gN 4) (lt_d_law_order_1) (le_d_law_order_2)) (aNil))
noncomputable def le_d_law_order_4 : ME D := e2 dIxA (eV 1) (eV 4)
noncomputable def b_d_law_order : MS := sSeq (sSet 2 (e1 dSortSet (eLc (iSeq (eV 0)) [4] (gN 4) (tT) (le_d_law_order_4))))
  (sRet (eFn dTuple (aCons (eLc (iSeq (eV 2)) [3] (gN 3) (tT) (le_d_law_order_3)) (aNil))))
noncomputable def m_d_law_order : List D → Store → R D := fnM 5 2 b_d_law_order
theorem ok_d_law_order (X : Fx K mg) : FnOk P w K mg base (L2.CX P w) 1 X.a_d_law_order X.d_d_law_order ["chosen", "years"] (spM K mg 2 m_d_law_order) :=
  okM (k := 0) X.F_d_law_order sc_d_law_order rfl fun cdv A outer s H E hr tk =>
    (css_cons (cs_set (j := 2) sc_d_law_order.nd rfl (Or.inl rfl) (ce_sortSet (by rfl) (by rfl) X.b_sorted (by rfl) X.b_set (ce_lc (own := [("deed", 4)]) rfl sc_d_law_order.nd (ci_seq (ce_v 0)) (blkOk_by (N := ["chosen", "years", "times", "time", "deed"]) (sc := defScope s_d_law_order) (by decide +kernel)) (fun _ _ _ _ _ => cg_name (i := 4) sc_d_law_order.nd rfl (by first | exact Or.inl rfl | exact Or.inr rfl)) (fun _ _ _ _ _ => cts_nil) (fun _ _ _ _ _ => ce_ix (ix_any hr.units) ops_ixA (ce_v 1) (ce_v 4) (fun _ _ => rfl)))))
    (css_one (cs_ret (ce_callTy call_tuple_of fns_tuple (by rfl) X.b_tuple (by decide +kernel) (ca_cons (ce_lc (own := [("time", 3)]) rfl sc_d_law_order.nd (ci_seq (ce_v 2)) (blkOk_by (N := ["chosen", "years", "times", "time", "deed"]) (sc := defScope s_d_law_order) (by decide +kernel)) (fun _ _ _ _ _ => cg_name (i := 3) sc_d_law_order.nd rfl (by first | exact Or.inl rfl | exact Or.inr rfl)) (fun _ _ _ _ _ => cts_nil) (fun _ _ _ _ _ => ce_callTy call_tuple_of fns_tuple (by rfl) X.b_tuple (by decide +kernel) (ca_cons (ce_lc (own := [("deed", 4)]) rfl sc_d_law_order.nd (ci_seq (ce_v 0)) (blkOk_in (N := ["chosen", "years", "times", "time", "deed"]) (sc := defScope s_d_law_order) (by decide +kernel)) (fun _ _ _ _ _ => cg_name (i := 4) sc_d_law_order.nd rfl (by first | exact Or.inl rfl | exact Or.inr rfl)) (fun _ _ _ _ _ => cts_one (ct_cmp (opA_eq hr.units) ops_eq (ce_ix (ix_any hr.units) ops_ixA (ce_v 1) (ce_v 4) (fun _ _ => rfl)) (ce_v 3) (nomark _))) (fun _ _ _ _ _ => ce_v 4)) (ca_nil)))) (ca_nil))))) :
      PSs _ _ (Ts _ _ _ b_d_law_order))
noncomputable def bl_d_law_records_1 : MS := sSeq (sExpr (eMt "list" dAppend (eV 1) (aCons (eTup (aCons (eC (.str "gap")) (aCons (eV 3) (aCons (eV 4) (aCons (eC (.int 0)) (aNil)))))) (aNil))))
  (sExpr (eMt "list" dAppend (eV 1) (aCons (eTup (aCons (eC (.str "gap")) (aCons (eV 4) (aCons (eV 3) (aCons (eC (.int 0)) (aNil)))))) (aNil))))
noncomputable def bl_d_law_records_2 : MS := sSeq (sSet 3 (e2 dIxA (e2 dIxA (eV 0) (eV 2)) (eC (.int 0))))
  (sSeq (sFor (iSeq (eSl dSl (e2 dIxA (eV 0) (eV 2)) (oSome (eC (.int 1))) (oNone))) (gN 4) (bl_d_law_records_1))
  (sIf (tV (e2 dLt (e2 dAdd (eV 2) (eC (.int 1))) (eFn dLen (aCons (eV 0) (aNil))))) (sExpr (eMt "list" dAppend (eV 1) (aCons (eTup (aCons (eC (.str "gap")) (aCons (eV 3) (aCons (e2 dIxA (e2 dIxA (eV 0) (e2 dAdd (eV 2) (eC (.int 1)))) (eC (.int 0))) (aCons (eC (.int 1)) (aNil)))))) (aNil)))) (sNil)))
noncomputable def b_d_law_records : MS := sSeq (sSet 1 (eLst (aNil)))
  (sSeq (sFor (iRange1 (aCons (eFn dLen (aCons (eV 0) (aNil))) (aNil))) (gN 2) (bl_d_law_records_2))
  (sRet (eFn dTuple (aCons (eV 1) (aNil)))))
noncomputable def m_d_law_records : List D → Store → R D := fnM 5 1 b_d_law_records
theorem ok_d_law_records (X : Fx K mg) : FnOk P w K mg base (L2.CX P w) 1 X.a_d_law_records X.d_d_law_records ["order"] (spM K mg 1 m_d_law_records) :=
  okM (k := 0) X.F_d_law_records sc_d_law_records rfl fun cdv A outer s H E hr tk =>
    (css_cons (cs_set (j := 1) sc_d_law_records.nd rfl (Or.inl rfl) (ce_lst (ca_nil)))
    (css_cons (cs_for (passes_of rfl) rfl (ci_range1 (by rfl) X.b_range (ca_cons (ce_callB call_len fns_len (by rfl) X.b_len (by decide +kernel) (ca_cons (ce_v 0) (ca_nil))) (ca_nil))) (cg_name (i := 2) sc_d_law_records.nd rfl (by first | exact Or.inl rfl | exact Or.inr rfl)) (css_cons (cs_set (j := 3) sc_d_law_records.nd rfl (Or.inl rfl) (ce_ix (ix_any hr.units) ops_ixA (ce_ix (ix_any hr.units) ops_ixA (ce_v 0) (ce_v 2) (fun _ _ => rfl)) (ce_int) (fun _ _ => rfl)))
    (css_cons (cs_for (passes_of rfl) rfl (ci_seq (ce_sl sl_LT sls_LT (ce_ix (ix_any hr.units) ops_ixA (ce_v 0) (ce_v 2) (fun _ _ => rfl)) (co_some (ce_int)) (co_none))) (cg_name (i := 4) sc_d_law_records.nd rfl (by first | exact Or.inl rfl | exact Or.inr rfl)) (css_cons (cs_expr (ce_bm PySem.F.plainAttrs_list PySem.F.slot_list_append PySem.F.type_list_append mt_append mts_append (ce_v 1) (ca_cons (ce_tup (ca_cons (ce_str) (ca_cons (ce_v 3) (ca_cons (ce_v 4) (ca_cons (ce_int) (ca_nil)))))) (ca_nil))))
    (css_one (cs_expr (ce_bm PySem.F.plainAttrs_list PySem.F.slot_list_append PySem.F.type_list_append mt_append mts_append (ce_v 1) (ca_cons (ce_tup (ca_cons (ce_str) (ca_cons (ce_v 4) (ca_cons (ce_v 3) (ca_cons (ce_int) (ca_nil)))))) (ca_nil)))))))
    (css_one (cs_if (ct_cmp opA_lt ops_lt (ce_op op_addA ops_add (ce_v 2) (ce_int)) (ce_callB call_len fns_len (by rfl) X.b_len (by decide +kernel) (ca_cons (ce_v 0) (ca_nil))) (nomark _)) (css_one (cs_expr (ce_bm PySem.F.plainAttrs_list PySem.F.slot_list_append PySem.F.type_list_append mt_append mts_append (ce_v 1) (ca_cons (ce_tup (ca_cons (ce_str) (ca_cons (ce_v 3) (ca_cons (ce_ix (ix_any hr.units) ops_ixA (ce_ix (ix_any hr.units) ops_ixA (ce_v 0) (ce_op op_addA ops_add (ce_v 2) (ce_int)) (fun _ _ => rfl)) (ce_int) (fun _ _ => rfl)) (ca_cons (ce_int) (ca_nil)))))) (ca_nil))))) (css_nil))))))
    (css_one (cs_ret (ce_callTy call_tuple_of fns_tuple (by rfl) X.b_tuple (by decide +kernel) (ca_cons (ce_v 1) (ca_nil)))))) :
      PSs _ _ (Ts _ _ _ b_d_law_records))
noncomputable def bl_d_law_judge_1 : MS := sIf (tV (e2 dGe (e2 dIxA (eV 3) (eV 8)) (e2 dIxA (eV 3) (e2 dAdd (eV 8) (eC (.int 1)))))) (sRet (eTup (aCons (eC (.str "bad")) (aCons (eV 7) (aNil))))) (sNil)
noncomputable def bl_d_law_judge_2 : MS := sSeq (sSet 3 (e2 dIxA (eV 1) (eV 7)))
  (sSeq (sIf (tV (e2 dEq (eFn dLen (aCons (eV 3) (aNil))) (eC (.int 0)))) (sRet (eTup (aCons (eC (.str "bad")) (aCons (eV 7) (aNil))))) (sNil))
  (sFor (iRange1 (aCons (e2 dSub (eFn dLen (aCons (eV 3) (aNil))) (eC (.int 1))) (aNil))) (gN 8) (bl_d_law_judge_1)))
noncomputable def bl_d_law_judge_3 : MS := sIf (tAnd (tTru (e1 (dIsi "str") (eV 6))) (tV (e2 dEq (eV 6) (eV 4)))) (sSet 5 (e2 dAdd (eV 5) (eC (.int 1)))) (sNil)
noncomputable def bl_d_law_judge_4 : MS := sSeq (sSet 5 (eC (.int 0)))
  (sSeq (sFor (iSeq (eV 2)) (gN 6) (bl_d_law_judge_3))
  (sIf (tV (e2 dNe (eV 5) (eC (.int 1)))) (sRet (eTup (aCons (eC (.str "bad")) (aCons (e1 dNeg (eC (.int 1))) (aNil))))) (sNil)))
noncomputable def bl_d_law_judge_5 : MS := sExpr (eMt "list" dAppend (eV 2) (aCons (eV 4) (aNil)))
noncomputable def bl_d_law_judge_6 : MS := sSeq (sIf (tNot (tTru (e1 (dIsi "tuple") (eV 3)))) (sRet (eTup (aCons (eC (.str "bad")) (aCons (e1 dNeg (eC (.int 1))) (aNil))))) (sNil))
  (sFor (iSeq (eV 3)) (gN 4) (bl_d_law_judge_5))
noncomputable def b_d_law_judge : MS := sSeq (sIf (tNot (tTru (e1 (dIsi "tuple") (eV 1)))) (sRet (eTup (aCons (eC (.str "bad")) (aCons (e1 dNeg (eC (.int 1))) (aNil))))) (sNil))
  (sSeq (sSet 2 (eLst (aNil)))
  (sSeq (sFor (iSeq (eV 1)) (gN 3) (bl_d_law_judge_6))
  (sSeq (sIf (tV (e2 dNe (eFn dLen (aCons (eV 2) (aNil))) (eFn dLen (aCons (eV 0) (aNil))))) (sRet (eTup (aCons (eC (.str "bad")) (aCons (e1 dNeg (eC (.int 1))) (aNil))))) (sNil))
  (sSeq (sFor (iSeq (eV 0)) (gN 4) (bl_d_law_judge_4))
  (sSeq (sFor (iRange1 (aCons (eFn dLen (aCons (eV 1) (aNil))) (aNil))) (gN 7) (bl_d_law_judge_2))
  (sRet (eTup (aCons (eC (.str "good")) (aCons (eFn dLen (aCons (eV 1) (aNil))) (aNil))))))))))
noncomputable def m_d_law_judge : List D → Store → R D := fnM 9 2 b_d_law_judge
theorem ok_d_law_judge (X : Fx K mg) : FnOk P w K mg base (L2.CX P w) 1 X.a_d_law_judge X.d_d_law_judge ["chosen", "thing"] (spM K mg 2 m_d_law_judge) :=
  okM (k := 0) X.F_d_law_judge sc_d_law_judge rfl fun cdv A outer s H E hr tk =>
    (css_cons (cs_if (ct_not (ct_tru (ce_isi (T := "tuple") (by rfl) X.b_isinstance (by rfl) X.b_tuple (by decide +kernel) (ce_v 1)))) (css_one (cs_ret (ce_tup (ca_cons (ce_str) (ca_cons (ce_un un_neg uns_neg (ce_int)) (ca_nil)))))) (css_nil))
    (css_cons (cs_set (j := 2) sc_d_law_judge.nd rfl (Or.inl rfl) (ce_lst (ca_nil)))
    (css_cons (cs_for (passes_of rfl) rfl (ci_seq (ce_v 1)) (cg_name (i := 3) sc_d_law_judge.nd rfl (by first | exact Or.inl rfl | exact Or.inr rfl)) (css_cons (cs_if (ct_not (ct_tru (ce_isi (T := "tuple") (by rfl) X.b_isinstance (by rfl) X.b_tuple (by decide +kernel) (ce_v 3)))) (css_one (cs_ret (ce_tup (ca_cons (ce_str) (ca_cons (ce_un un_neg uns_neg (ce_int)) (ca_nil)))))) (css_nil))
    (css_one (cs_for (passes_of rfl) rfl (ci_seq (ce_v 3)) (cg_name (i := 4) sc_d_law_judge.nd rfl (by first | exact Or.inl rfl | exact Or.inr rfl)) (css_one (cs_expr (ce_bm PySem.F.plainAttrs_list PySem.F.slot_list_append PySem.F.type_list_append mt_append mts_append (ce_v 2) (ca_cons (ce_v 4) (ca_nil)))))))))
    (css_cons (cs_if (ct_cmp (opA_ne hr.units) ops_ne (ce_callB call_len fns_len (by rfl) X.b_len (by decide +kernel) (ca_cons (ce_v 2) (ca_nil))) (ce_callB call_len fns_len (by rfl) X.b_len (by decide +kernel) (ca_cons (ce_v 0) (ca_nil))) (nomark _)) (css_one (cs_ret (ce_tup (ca_cons (ce_str) (ca_cons (ce_un un_neg uns_neg (ce_int)) (ca_nil)))))) (css_nil))
    (css_cons (cs_for (passes_of rfl) rfl (ci_seq (ce_v 0)) (cg_name (i := 4) sc_d_law_judge.nd rfl (by first | exact Or.inl rfl | exact Or.inr rfl)) (css_cons (cs_set (j := 5) sc_d_law_judge.nd rfl (Or.inl rfl) (ce_int))
    (css_cons (cs_for (passes_of rfl) rfl (ci_seq (ce_v 2)) (cg_name (i := 6) sc_d_law_judge.nd rfl (by first | exact Or.inl rfl | exact Or.inr rfl)) (css_one (cs_if (PW.pt (cw_and (ct_tru (ce_isi (T := "str") (by rfl) X.b_isinstance (by rfl) X.b_str (by decide +kernel) (ce_v 6))) (cw_and1 (ct_cmp (opA_eq hr.units) ops_eq (ce_v 6) (ce_v 4) (nomark _))))) (css_one (cs_set (j := 5) sc_d_law_judge.nd rfl (Or.inl rfl) (ce_op op_addA ops_add (ce_v 5) (ce_int)))) (css_nil))))
    (css_one (cs_if (ct_cmp (opA_ne hr.units) ops_ne (ce_v 5) (ce_int) (nomark _)) (css_one (cs_ret (ce_tup (ca_cons (ce_str) (ca_cons (ce_un un_neg uns_neg (ce_int)) (ca_nil)))))) (css_nil))))))
    (css_cons (cs_for (passes_of rfl) rfl (ci_range1 (by rfl) X.b_range (ca_cons (ce_callB call_len fns_len (by rfl) X.b_len (by decide +kernel) (ca_cons (ce_v 1) (ca_nil))) (ca_nil))) (cg_name (i := 7) sc_d_law_judge.nd rfl (by first | exact Or.inl rfl | exact Or.inr rfl)) (css_cons (cs_set (j := 3) sc_d_law_judge.nd rfl (Or.inl rfl) (ce_ix (ix_any hr.units) ops_ixA (ce_v 1) (ce_v 7) (fun _ _ => rfl)))
    (css_cons (cs_if (ct_cmp (opA_eq hr.units) ops_eq (ce_callB call_len fns_len (by rfl) X.b_len (by decide +kernel) (ca_cons (ce_v 3) (ca_nil))) (ce_int) (nomark _)) (css_one (cs_ret (ce_tup (ca_cons (ce_str) (ca_cons (ce_v 7) (ca_nil)))))) (css_nil))
    (css_one (cs_for (passes_of rfl) rfl (ci_range1 (by rfl) X.b_range (ca_cons (ce_op op_sub ops_sub (ce_callB call_len fns_len (by rfl) X.b_len (by decide +kernel) (ca_cons (ce_v 3) (ca_nil))) (ce_int)) (ca_nil))) (cg_name (i := 8) sc_d_law_judge.nd rfl (by first | exact Or.inl rfl | exact Or.inr rfl)) (css_one (cs_if (ct_cmp opA_ge ops_ge (ce_ix (ix_any hr.units) ops_ixA (ce_v 3) (ce_v 8) (fun _ _ => rfl)) (ce_ix (ix_any hr.units) ops_ixA (ce_v 3) (ce_op op_addA ops_add (ce_v 8) (ce_int)) (fun _ _ => rfl)) (nomark _)) (css_one (cs_ret (ce_tup (ca_cons (ce_str) (ca_cons (ce_v 7) (ca_nil)))))) (css_nil))))))))
    (css_one (cs_ret (ce_tup (ca_cons (ce_str) (ca_cons (ce_callB call_len fns_len (by rfl) X.b_len (by decide +kernel) (ca_cons (ce_v 1) (ca_nil))) (ca_nil))))))))))) :
      PSs _ _ (Ts _ _ _ b_d_law_judge))
noncomputable def b_d_law_put : MS := sRet (e2 dAdd (e2 dAdd (eSl dSl (eV 0) (oNone) (oSome (eV 1))) (eTup (aCons (eV 2) (aNil)))) (eSl dSl (eV 0) (oSome (e2 dAdd (eV 1) (eC (.int 1)))) (oNone)))
noncomputable def m_d_law_put : List D → Store → R D := fnM 3 3 b_d_law_put
theorem ok_d_law_put (X : Fx K mg) : FnOk P w K mg base (L2.CX P w) 1 X.a_d_law_put X.d_d_law_put ["row", "at", "thing"] (spM K mg 3 m_d_law_put) :=
  okM (k := 0) X.F_d_law_put sc_d_law_put rfl fun cdv A outer s H E hr tk =>
    (css_one (cs_ret (ce_op op_addA ops_add (ce_op op_addA ops_add (ce_sl sl_LT sls_LT (ce_v 0) (co_none) (co_some (ce_v 1))) (ce_tup (ca_cons (ce_v 2) (ca_nil)))) (ce_sl sl_LT sls_LT (ce_v 0) (co_some (ce_op op_addA ops_add (ce_v 1) (ce_int))) (co_none)))) :
      PSs _ _ (Ts _ _ _ b_d_law_put))
noncomputable def le_order_of_1 : ME D := eFn dTuple (aCons (e2 dIxA (eV 4) (eV 6)) (aNil))
noncomputable def bl_order_of_2 : MS := sSeq (sSet 6 (e2 dIxA (eV 2) (e2 dIxA (eV 3) (eV 5))))
  (sSeq (sIf (tV (e2 dNotIn (eV 6) (eV 4))) (sPut pAny (eV 4) (eV 6) (eLst (aNil))) (sNil))
  (sExpr (eMt "list" dAppend (e2 dIxA (eV 4) (eV 6)) (aCons (eV 5) (aNil)))))
noncomputable def b_order_of : MS := sSeq (sSet 3 (eCall m_deed_places (aCons (eV 0) (aNil))))
  (sSeq (sSet 4 (eDict0))
  (sSeq (sFor (iSeq (eV 1)) (gN 5) (bl_order_of_2))
  (sRet (eFn dTuple (aCons (eLc (iSeq (eFn dSortedD (aCons (eV 4) (aNil)))) [6] (gN 6) (tT) (le_order_of_1)) (aNil))))))
noncomputable def m_order_of : List D → Store → R D := fnM 7 3 b_order_of
theorem ok_order_of (X : Fx K mg) : FnOk P w K mg base (L2.CX P w) 2 X.a_order_of X.d_order_of ["book", "chosen", "dating"] (spM K mg 3 m_order_of) :=
  okM (k := 1) X.F_order_of sc_order_of rfl fun cdv A outer s H E hr tk =>
    (css_cons (cs_set (j := 3) sc_order_of.nd rfl (Or.inl rfl) (ce_call (n := 1) (ok_deed_places X) (hr.mono (by decide)) tk (by rfl) X.g_deed_places X.F_deed_places.kp (bd_deed_places X) (an_cons an_nil) (ca_cons (ce_v 0) (ca_nil))))
    (css_cons (cs_set (j := 4) sc_order_of.nd rfl (Or.inr rfl) (ce_dict0))
    (css_cons (cs_for (passes_of rfl) rfl (ci_seq (ce_v 1)) (cg_name (i := 5) sc_order_of.nd rfl (by first | exact Or.inl rfl | exact Or.inr rfl)) (css_cons (cs_set (j := 6) sc_order_of.nd rfl (Or.inl rfl) (ce_ix (ix_any hr.units) ops_ixA (ce_v 2) (ce_ix (ix_any hr.units) ops_ixA (ce_v 3) (ce_v 5) (fun _ _ => rfl)) (fun _ _ => rfl)))
    (css_cons (cs_if (ct_cmp (opA_notin (un65 hr)) ops_notin (ce_v 6) (ce_v 4) (by with_unfolding_all rfl)) (css_one (cs_put (ce_lst (ca_nil)) (ce_v 4) (ce_v 6) (set_any hr.units) puts_any)) (css_nil))
    (css_one (cs_expr (ce_bm PySem.F.plainAttrs_list PySem.F.slot_list_append PySem.F.type_list_append mt_append mts_append (ce_ix (ix_any hr.units) ops_ixA (ce_v 4) (ce_v 6) (fun _ _ => rfl)) (ca_cons (ce_v 5) (ca_nil))))))))
    (css_one (cs_ret (ce_callTy call_tuple_of fns_tuple (by rfl) X.b_tuple (by decide +kernel) (ca_cons (ce_lc (own := [("year", 6)]) rfl sc_order_of.nd (ci_seq (ce_callB (call_sortD rfl hr.units) fns_sortD (by rfl) X.b_sorted (by decide +kernel) (ca_cons (ce_v 4) (ca_nil)))) (blkOk_by (N := ["book", "chosen", "dating", "places", "levels", "deed", "year"]) (sc := defScope s_order_of) (by decide +kernel)) (fun _ _ _ _ _ => cg_name (i := 6) sc_order_of.nd rfl (by first | exact Or.inl rfl | exact Or.inr rfl)) (fun _ _ _ _ _ => cts_nil) (fun _ _ _ _ _ => ce_callTy call_tuple_of fns_tuple (by rfl) X.b_tuple (by decide +kernel) (ca_cons (ce_ix (ix_any hr.units) ops_ixA (ce_v 4) (ce_v 6) (fun _ _ => rfl)) (ca_nil)))) (ca_nil))))))) :
      PSs _ _ (Ts _ _ _ b_order_of))
noncomputable def bl_d_law_deeds_1 : MS := sSeq (sSet 9 (eCall m_d_law_draw (aCons (eV 0) (aCons (eFn dLen (aCons (eV 4) (aNil))) (aNil)))))
  (sSeq (sExpr (eMt "list" dAppend (eV 7) (aCons (e2 dIxA (eV 4) (eV 9)) (aNil))))
  (sSet 4 (e2 dAdd (eSl dSl (eV 4) (oNone) (oSome (eV 9))) (eSl dSl (eV 4) (oSome (e2 dAdd (eV 9) (eC (.int 1)))) (oNone)))))
noncomputable def bl_d_law_deeds_2 : MS := sExpr (eMt "list" dAppend (eV 4) (aCons (e2 dAdd (eV 5) (eV 6)) (aNil)))
noncomputable def bl_d_law_deeds_3 : MS := sFor (iSeq (eV 3)) (gN 6) (bl_d_law_deeds_2)
noncomputable def b_d_law_deeds : MS := sSeq (sSet 2 (eLst (aCons (eC (.str "a")) (aCons (eC (.str "b")) (aCons (eC (.str "k")) (aCons (eC (.str "pit")) (aCons (eC (.str "q")) (aCons (eC (.str "cut")) (aNil)))))))))
  (sSeq (sSet 3 (eLst (aCons (eC (.str "")) (aCons (eC (.str "0")) (aCons (eC (.str "1")) (aCons (eC (.str "7")) (aCons (eC (.str "'")) (aCons (eC (.str "0'")) (aCons (eC (.str "ab")) (aCons (eC (.str "9z")) (aNil)))))))))))
  (sSeq (sSet 4 (eLst (aNil)))
  (sSeq (sFor (iSeq (eV 2)) (gN 5) (bl_d_law_deeds_3))
  (sSeq (sSet 7 (eLst (aNil)))
  (sSeq (sFor (iRange1 (aCons (eV 1) (aNil))) (gN 8) (bl_d_law_deeds_1))
  (sRet (eFn dTuple (aCons (eFn dSortedD (aCons (eV 7) (aNil))) (aNil)))))))))
noncomputable def m_d_law_deeds : List D → Store → R D := fnM 10 2 b_d_law_deeds
theorem ok_d_law_deeds (X : Fx K mg) : FnOk P w K mg base (L2.CX P w) 2 X.a_d_law_deeds X.d_d_law_deeds ["pool", "many"] (spM K mg 2 m_d_law_deeds) :=
  okM (k := 1) X.F_d_law_deeds sc_d_law_deeds rfl fun cdv A outer s H E hr tk =>
    (css_cons (cs_set (j := 2) sc_d_law_deeds.nd rfl (Or.inl rfl) (ce_lst (ca_cons (ce_str) (ca_cons (ce_str) (ca_cons (ce_str) (ca_cons (ce_str) (ca_cons (ce_str) (ca_cons (ce_str) (ca_nil)))))))))
    (css_cons (cs_set (j := 3) sc_d_law_deeds.nd rfl (Or.inl rfl) (ce_lst (ca_cons (ce_str) (ca_cons (ce_str) (ca_cons (ce_str) (ca_cons (ce_str) (ca_cons (ce_str) (ca_cons (ce_str) (ca_cons (ce_str) (ca_cons (ce_str) (ca_nil)))))))))))
    (css_cons (cs_set (j := 4) sc_d_law_deeds.nd rfl (Or.inl rfl) (ce_lst (ca_nil)))
    (css_cons (cs_for (passes_of rfl) rfl (ci_seq (ce_v 2)) (cg_name (i := 5) sc_d_law_deeds.nd rfl (by first | exact Or.inl rfl | exact Or.inr rfl)) (css_one (cs_for (passes_of rfl) rfl (ci_seq (ce_v 3)) (cg_name (i := 6) sc_d_law_deeds.nd rfl (by first | exact Or.inl rfl | exact Or.inr rfl)) (css_one (cs_expr (ce_bm PySem.F.plainAttrs_list PySem.F.slot_list_append PySem.F.type_list_append mt_append mts_append (ce_v 4) (ca_cons (ce_op op_addA ops_add (ce_v 5) (ce_v 6)) (ca_nil))))))))
    (css_cons (cs_set (j := 7) sc_d_law_deeds.nd rfl (Or.inl rfl) (ce_lst (ca_nil)))
    (css_cons (cs_for (passes_of rfl) rfl (ci_range1 (by rfl) X.b_range (ca_cons (ce_v 1) (ca_nil))) (cg_name (i := 8) sc_d_law_deeds.nd rfl (by first | exact Or.inl rfl | exact Or.inr rfl)) (css_cons (cs_set (j := 9) sc_d_law_deeds.nd rfl (Or.inl rfl) (ce_call (n := 2) (ok_d_law_draw X) (hr.mono (by decide)) tk (by rfl) X.g_d_law_draw X.F_d_law_draw.kp (bd_d_law_draw X) (an_cons (an_cons an_nil)) (ca_cons (ce_v 0) (ca_cons (ce_callB call_len fns_len (by rfl) X.b_len (by decide +kernel) (ca_cons (ce_v 4) (ca_nil))) (ca_nil)))))
    (css_cons (cs_expr (ce_bm PySem.F.plainAttrs_list PySem.F.slot_list_append PySem.F.type_list_append mt_append mts_append (ce_v 7) (ca_cons (ce_ix (ix_any hr.units) ops_ixA (ce_v 4) (ce_v 9) (fun _ _ => rfl)) (ca_nil))))
    (css_one (cs_set (j := 4) sc_d_law_deeds.nd rfl (Or.inl rfl) (ce_op op_addA ops_add (ce_sl sl_LT sls_LT (ce_v 4) (co_none) (co_some (ce_v 9))) (ce_sl sl_LT sls_LT (ce_v 4) (co_some (ce_op op_addA ops_add (ce_v 9) (ce_int))) (co_none))))))))
    (css_one (cs_ret (ce_callTy call_tuple_of fns_tuple (by rfl) X.b_tuple (by decide +kernel) (ca_cons (ce_callB (call_sortD rfl hr.units) fns_sortD (by rfl) X.b_sorted (by decide +kernel) (ca_cons (ce_v 7) (ca_nil))) (ca_nil)))))))))) :
      PSs _ _ (Ts _ _ _ b_d_law_deeds))
noncomputable def bl_d_law_entries_1 : MS := sSeq (sSet 6 (e2 dIxA (eLst (aCons (eC (.str "ann")) (aCons (eC (.str "bob")) (aCons (eC (.str "told")) (aNil))))) (eCall m_d_law_draw (aCons (eV 0) (aCons (eC (.int 3)) (aNil))))))
  (sSeq (sSet 7 (eCall m_d_law_draw (aCons (eV 0) (aCons (eFn dLen (aCons (eV 1) (aNil))) (aNil)))))
  (sIf (tOr (tV (e2 dEq (eFn dLen (aCons (eV 1) (aNil))) (eC (.int 1)))) (tV (e2 dEq (eCall m_d_law_draw (aCons (eV 0) (aCons (eC (.int 4)) (aNil)))) (eC (.int 0))))) (sExpr (eMt "list" dAppend (eV 4) (aCons (eTup (aCons (eV 6) (aCons (eTup (aCons (eC (.str "years")) (aCons (e2 dIxA (eV 1) (eV 7)) (aCons (eTup (aCons (eTup (aCons (eV 2) (aCons (e2 dAdd (eV 2) (eCall m_d_law_draw (aCons (eV 0) (aCons (eC (.int 4)) (aNil))))) (aNil)))) (aNil))) (aNil))))) (aNil)))) (aNil)))) (sSeq (sSet 8 (e2 dMod (eFn dInt (aCons (e2 dAdd (e2 dAdd (eV 7) (eC (.int 1))) (eCall m_d_law_draw (aCons (eV 0) (aCons (e2 dSub (eFn dLen (aCons (eV 1) (aNil))) (eC (.int 1))) (aNil))))) (aNil))) (eFn dLen (aCons (eV 1) (aNil)))))
  (sSeq (sSet 9 (eTup (aCons (eTup (aCons (e2 dIxA (eV 1) (eV 8)) (aCons (e2 dSub (eCall m_d_law_draw (aCons (eV 0) (aCons (eC (.int 5)) (aNil)))) (eC (.int 2))) (aNil)))) (aCons (eTup (aCons (e2 dIxA (eV 1) (eV 8)) (aCons (e2 dSub (eCall m_d_law_draw (aCons (eV 0) (aCons (eC (.int 5)) (aNil)))) (eC (.int 2))) (aNil)))) (aNil)))))
  (sIf (tAnd (tV (e2 dLt (eV 3) (eC (.int 7)))) (tV (e2 dEq (eCall m_d_law_draw (aCons (eV 0) (aCons (eC (.int 4)) (aNil)))) (eC (.int 0))))) (sExpr (eMt "list" dAppend (eV 4) (aCons (eTup (aCons (eV 6) (aCons (eTup (aCons (e2 dIxA (eLst (aCons (eC (.str "under")) (aCons (eC (.str "over")) (aNil)))) (eCall m_d_law_draw (aCons (eV 0) (aCons (eC (.int 2)) (aNil))))) (aCons (e2 dIxA (eV 1) (eV 7)) (aCons (eC (.int 1)) (aCons (eV 9) (aNil)))))) (aNil)))) (aNil)))) (sExpr (eMt "list" dAppend (eV 4) (aCons (eTup (aCons (eV 6) (aCons (eTup (aCons (eC (.str "gap")) (aCons (e2 dIxA (eV 1) (eV 7)) (aCons (e2 dIxA (eV 1) (eV 8)) (aCons (e2 dSub (eCall m_d_law_draw (aCons (eV 0) (aCons (eC (.int 5)) (aNil)))) (eC (.int 2))) (aNil)))))) (aNil)))) (aNil)))))))))
noncomputable def b_d_law_entries : MS := sSeq (sSet 4 (eLst (aNil)))
  (sSeq (sFor (iRange1 (aCons (eV 3) (aNil))) (gN 5) (bl_d_law_entries_1))
  (sRet (eFn dTuple (aCons (eV 4) (aNil)))))
noncomputable def m_d_law_entries : List D → Store → R D := fnM 10 4 b_d_law_entries
theorem ok_d_law_entries (X : Fx K mg) : FnOk P w K mg base (L2.CX P w) 2 X.a_d_law_entries X.d_d_law_entries ["pool", "deeds", "first", "many"] (spM K mg 4 m_d_law_entries) :=
  okM (k := 1) X.F_d_law_entries sc_d_law_entries rfl fun cdv A outer s H E hr tk =>
    (css_cons (cs_set (j := 4) sc_d_law_entries.nd rfl (Or.inl rfl) (ce_lst (ca_nil)))
    (css_cons (cs_for (passes_of rfl) rfl (ci_range1 (by rfl) X.b_range (ca_cons (ce_v 3) (ca_nil))) (cg_name (i := 5) sc_d_law_entries.nd rfl (by first | exact Or.inl rfl | exact Or.inr rfl)) (css_cons (cs_set (j := 6) sc_d_law_entries.nd rfl (Or.inl rfl) (ce_ix (ix_any hr.units) ops_ixA (ce_lst (ca_cons (ce_str) (ca_cons (ce_str) (ca_cons (ce_str) (ca_nil))))) (ce_call (n := 2) (ok_d_law_draw X) (hr.mono (by decide)) tk (by rfl) X.g_d_law_draw X.F_d_law_draw.kp (bd_d_law_draw X) (an_cons (an_cons an_nil)) (ca_cons (ce_v 0) (ca_cons (ce_int) (ca_nil)))) (fun _ _ => rfl)))
    (css_cons (cs_set (j := 7) sc_d_law_entries.nd rfl (Or.inl rfl) (ce_call (n := 2) (ok_d_law_draw X) (hr.mono (by decide)) tk (by rfl) X.g_d_law_draw X.F_d_law_draw.kp (bd_d_law_draw X) (an_cons (an_cons an_nil)) (ca_cons (ce_v 0) (ca_cons (ce_callB call_len fns_len (by rfl) X.b_len (by decide +kernel) (ca_cons (ce_v 1) (ca_nil))) (ca_nil)))))
    (css_one (cs_if (PW.pt (cw_or (ct_cmp (opA_eq hr.units) ops_eq (ce_callB call_len fns_len (by rfl) X.b_len (by decide +kernel) (ca_cons (ce_v 1) (ca_nil))) (ce_int) (nomark _)) (cw_or1 (ct_cmp (opA_eq hr.units) ops_eq (ce_call (n := 2) (ok_d_law_draw X) (hr.mono (by decide)) tk (by rfl) X.g_d_law_draw X.F_d_law_draw.kp (bd_d_law_draw X) (an_cons (an_cons an_nil)) (ca_cons (ce_v 0) (ca_cons (ce_int) (ca_nil)))) (ce_int) (nomark _))))) (css_one (cs_expr (ce_bm PySem.F.plainAttrs_list PySem.F.slot_list_append PySem.F.type_list_append mt_append mts_append (ce_v 4) (ca_cons (ce_tup (ca_cons (ce_v 6) (ca_cons (ce_tup (ca_cons (ce_str) (ca_cons (ce_ix (ix_any hr.units) ops_ixA (ce_v 1) (ce_v 7) (fun _ _ => rfl)) (ca_cons (ce_tup (ca_cons (ce_tup (ca_cons (ce_v 2) (ca_cons (ce_op op_addA ops_add (ce_v 2) (ce_call (n := 2) (ok_d_law_draw X) (hr.mono (by decide)) tk (by rfl) X.g_d_law_draw X.F_d_law_draw.kp (bd_d_law_draw X) (an_cons (an_cons an_nil)) (ca_cons (ce_v 0) (ca_cons (ce_int) (ca_nil))))) (ca_nil)))) (ca_nil))) (ca_nil))))) (ca_nil)))) (ca_nil))))) (css_cons (cs_set (j := 8) sc_d_law_entries.nd rfl (Or.inl rfl) (ce_op op_mod ops_mod (ce_callTy call_int1 fns_int (by rfl) X.b_int (by decide +kernel) (ca_cons (ce_op op_addA ops_add (ce_op op_addA ops_add (ce_v 7) (ce_int)) (ce_call (n := 2) (ok_d_law_draw X) (hr.mono (by decide)) tk (by rfl) X.g_d_law_draw X.F_d_law_draw.kp (bd_d_law_draw X) (an_cons (an_cons an_nil)) (ca_cons (ce_v 0) (ca_cons (ce_op op_sub ops_sub (ce_callB call_len fns_len (by rfl) X.b_len (by decide +kernel) (ca_cons (ce_v 1) (ca_nil))) (ce_int)) (ca_nil))))) (ca_nil))) (ce_callB call_len fns_len (by rfl) X.b_len (by decide +kernel) (ca_cons (ce_v 1) (ca_nil)))))
    (css_cons (cs_set (j := 9) sc_d_law_entries.nd rfl (Or.inl rfl) (ce_tup (ca_cons (ce_tup (ca_cons (ce_ix (ix_any hr.units) ops_ixA (ce_v 1) (ce_v 8) (fun _ _ => rfl)) (ca_cons (ce_op op_sub ops_sub (ce_call (n := 2) (ok_d_law_draw X) (hr.mono (by decide)) tk (by rfl) X.g_d_law_draw X.F_d_law_draw.kp (bd_d_law_draw X) (an_cons (an_cons an_nil)) (ca_cons (ce_v 0) (ca_cons (ce_int) (ca_nil)))) (ce_int)) (ca_nil)))) (ca_cons (ce_tup (ca_cons (ce_ix (ix_any hr.units) ops_ixA (ce_v 1) (ce_v 8) (fun _ _ => rfl)) (ca_cons (ce_op op_sub ops_sub (ce_call (n := 2) (ok_d_law_draw X) (hr.mono (by decide)) tk (by rfl) X.g_d_law_draw X.F_d_law_draw.kp (bd_d_law_draw X) (an_cons (an_cons an_nil)) (ca_cons (ce_v 0) (ca_cons (ce_int) (ca_nil)))) (ce_int)) (ca_nil)))) (ca_nil)))))
    (css_one (cs_if (PW.pt (cw_and (ct_cmp opA_lt ops_lt (ce_v 3) (ce_int) (nomark _)) (cw_and1 (ct_cmp (opA_eq hr.units) ops_eq (ce_call (n := 2) (ok_d_law_draw X) (hr.mono (by decide)) tk (by rfl) X.g_d_law_draw X.F_d_law_draw.kp (bd_d_law_draw X) (an_cons (an_cons an_nil)) (ca_cons (ce_v 0) (ca_cons (ce_int) (ca_nil)))) (ce_int) (nomark _))))) (css_one (cs_expr (ce_bm PySem.F.plainAttrs_list PySem.F.slot_list_append PySem.F.type_list_append mt_append mts_append (ce_v 4) (ca_cons (ce_tup (ca_cons (ce_v 6) (ca_cons (ce_tup (ca_cons (ce_ix (ix_any hr.units) ops_ixA (ce_lst (ca_cons (ce_str) (ca_cons (ce_str) (ca_nil)))) (ce_call (n := 2) (ok_d_law_draw X) (hr.mono (by decide)) tk (by rfl) X.g_d_law_draw X.F_d_law_draw.kp (bd_d_law_draw X) (an_cons (an_cons an_nil)) (ca_cons (ce_v 0) (ca_cons (ce_int) (ca_nil)))) (fun _ _ => rfl)) (ca_cons (ce_ix (ix_any hr.units) ops_ixA (ce_v 1) (ce_v 7) (fun _ _ => rfl)) (ca_cons (ce_int) (ca_cons (ce_v 9) (ca_nil)))))) (ca_nil)))) (ca_nil))))) (css_one (cs_expr (ce_bm PySem.F.plainAttrs_list PySem.F.slot_list_append PySem.F.type_list_append mt_append mts_append (ce_v 4) (ca_cons (ce_tup (ca_cons (ce_v 6) (ca_cons (ce_tup (ca_cons (ce_str) (ca_cons (ce_ix (ix_any hr.units) ops_ixA (ce_v 1) (ce_v 7) (fun _ _ => rfl)) (ca_cons (ce_ix (ix_any hr.units) ops_ixA (ce_v 1) (ce_v 8) (fun _ _ => rfl)) (ca_cons (ce_op op_sub ops_sub (ce_call (n := 2) (ok_d_law_draw X) (hr.mono (by decide)) tk (by rfl) X.g_d_law_draw X.F_d_law_draw.kp (bd_d_law_draw X) (an_cons (an_cons an_nil)) (ca_cons (ce_v 0) (ca_cons (ce_int) (ca_nil)))) (ce_int)) (ca_nil)))))) (ca_nil)))) (ca_nil))))))))))))))
    (css_one (cs_ret (ce_callTy call_tuple_of fns_tuple (by rfl) X.b_tuple (by decide +kernel) (ca_cons (ce_v 4) (ca_nil)))))) :
      PSs _ _ (Ts _ _ _ b_d_law_entries))
noncomputable def b_d_law_bent : MS := sSeq (sSet 3 (eCall m_d_law_draw (aCons (eV 0) (aCons (eC (.int 12)) (aNil)))))
  (sSeq (sSet 4 (eLst (aCons (eC .non) (aCons (eC (.int 7)) (aCons (eC (.bl true)) (aCons (eC (.str "x")) (aCons (eLst (aCons (eC (.str "a")) (aNil))) (aCons (eTup (aNil)) (aCons (eTup (aCons (eTup (aCons (eC (.str "zz")) (aNil))) (aNil))) (aCons (eTup (aCons (eTup (aNil)) (aNil))) (aCons (eTup (aCons (eTup (aNil)) (aCons (eTup (aNil)) (aNil)))) (aCons (eTup (aCons (eC (.int 1)) (aNil))) (aCons (eTup (aCons (eC (.str "a")) (aNil))) (aCons (eTup (aCons (eC (.str "")) (aNil))) (aNil)))))))))))))))
  (sSeq (sIf (tOr (tV (e2 dLt (eV 3) (eC (.int 2)))) (tV (e2 dEq (eV 2) (eTup (aNil))))) (sRet (e2 dIxA (eV 4) (eCall m_d_law_draw (aCons (eV 0) (aCons (eFn dLen (aCons (eV 4) (aNil))) (aNil)))))) (sNil))
  (sSeq (sSet 5 (eCall m_d_law_draw (aCons (eV 0) (aCons (eFn dLen (aCons (eV 2) (aNil))) (aNil)))))
  (sSeq (sSet 6 (e2 dIxA (eV 2) (eV 5)))
  (sSeq (sSet 7 (eCall m_d_law_draw (aCons (eV 0) (aCons (eFn dLen (aCons (eV 6) (aNil))) (aNil)))))
  (sSeq (sIf (tV (e2 dEq (eV 3) (eC (.int 2)))) (sRet (eFn dListA (aCons (eV 2) (aNil)))) (sNil))
  (sSeq (sIf (tV (e2 dEq (eV 3) (eC (.int 3)))) (sRet (eCall m_d_law_put (aCons (eV 2) (aCons (eV 5) (aCons (eFn dListA (aCons (eV 6) (aNil))) (aNil)))))) (sNil))
  (sSeq (sIf (tV (e2 dEq (eV 3) (eC (.int 4)))) (sRet (eCall m_d_law_put (aCons (eV 2) (aCons (eV 5) (aCons (e2 dAdd (eSl dSl (eV 6) (oNone) (oSome (eV 7))) (eSl dSl (eV 6) (oSome (e2 dAdd (eV 7) (eC (.int 1)))) (oNone))) (aNil)))))) (sNil))
  (sSeq (sIf (tV (e2 dEq (eV 3) (eC (.int 5)))) (sSeq (sSet 8 (e2 dIxA (eLst (aCons (e2 dIxA (eV 6) (eV 7)) (aCons (eC (.str "zz")) (aCons (e2 dIxA (eV 1) (eC (.int 0))) (aCons (eC (.int 1)) (aCons (eC .non) (aNil))))))) (eCall m_d_law_draw (aCons (eV 0) (aCons (eC (.int 5)) (aNil))))))
  (sRet (eCall m_d_law_put (aCons (eV 2) (aCons (eCall m_d_law_draw (aCons (eV 0) (aCons (eFn dLen (aCons (eV 2) (aNil))) (aNil)))) (aCons (e2 dAdd (e2 dIxA (eV 2) (eC (.int 0))) (eTup (aCons (eV 8) (aNil)))) (aNil))))))) (sNil))
  (sSeq (sIf (tV (e2 dEq (eV 3) (eC (.int 6)))) (sSeq (sSet 8 (e2 dIxA (eLst (aCons (eC (.int 1)) (aCons (eC (.bl true)) (aCons (eC .non) (aCons (eC (.str "zz")) (aCons (eTup (aCons (e2 dIxA (eV 6) (eV 7)) (aNil))) (aCons (e2 dAdd (e2 dIxA (eV 6) (eV 7)) (eC (.str "9"))) (aCons (eLst (aCons (e2 dIxA (eV 6) (eV 7)) (aNil))) (aNil))))))))) (eCall m_d_law_draw (aCons (eV 0) (aCons (eC (.int 7)) (aNil))))))
  (sRet (eCall m_d_law_put (aCons (eV 2) (aCons (eV 5) (aCons (eCall m_d_law_put (aCons (eV 6) (aCons (eV 7) (aCons (eV 8) (aNil))))) (aNil))))))) (sNil))
  (sSeq (sIf (tV (e2 dEq (eV 3) (eC (.int 7)))) (sSeq (sSet 9 (eCall m_d_law_draw (aCons (eV 0) (aCons (eFn dLen (aCons (eV 6) (aNil))) (aNil)))))
  (sRet (eCall m_d_law_put (aCons (eV 2) (aCons (eV 5) (aCons (eCall m_d_law_put (aCons (eCall m_d_law_put (aCons (eV 6) (aCons (eV 7) (aCons (e2 dIxA (eV 6) (eV 9)) (aNil))))) (aCons (eV 9) (aCons (e2 dIxA (eV 6) (eV 7)) (aNil))))) (aNil))))))) (sNil))
  (sSeq (sIf (tV (e2 dEq (eV 3) (eC (.int 8)))) (sSeq (sSet 5 (eCall m_d_law_draw (aCons (eV 0) (aCons (e2 dAdd (eFn dLen (aCons (eV 2) (aNil))) (eC (.int 1))) (aNil)))))
  (sRet (e2 dAdd (e2 dAdd (eSl dSl (eV 2) (oNone) (oSome (eV 5))) (eTup (aCons (eTup (aNil)) (aNil)))) (eSl dSl (eV 2) (oSome (eV 5)) (oNone))))) (sNil))
  (sSeq (sIf (tV (e2 dEq (eV 3) (eC (.int 9)))) (sRet (e2 dAdd (eV 2) (eTup (aCons (eTup (aNil)) (aNil))))) (sNil))
  (sSeq (sIf (tV (e2 dEq (eV 3) (eC (.int 10)))) (sRet (e2 dAdd (eCall m_d_law_put (aCons (eV 2) (aCons (eV 5) (aCons (e1 dRev (eV 6)) (aNil))))) (eTup (aCons (eTup (aNil)) (aNil))))) (sNil))
  (sRet (e2 dIxA (eTup (aCons (eTup (aCons (eV 2) (aNil))) (aCons (e2 dIxA (eV 2) (eC (.int 0))) (aCons (eM1 dJoin (eC (.str "")) (eV 6)) (aCons (e2 dAdd (eV 2) (eV 2)) (aNil)))))) (eCall m_d_law_draw (aCons (eV 0) (aCons (eC (.int 4)) (aNil))))))))))))))))))))
noncomputable def m_d_law_bent : List D → Store → R D := fnM 10 3 b_d_law_bent
theorem ok_d_law_bent (X : Fx K mg) : FnOk P w K mg base (L2.CX P w) 2 X.a_d_law_bent X.d_d_law_bent ["pool", "chosen", "order"] (spM K mg 3 m_d_law_bent) :=
  okM (k := 1) X.F_d_law_bent sc_d_law_bent rfl fun cdv A outer s H E hr tk =>
    (css_cons (cs_set (j := 3) sc_d_law_bent.nd rfl (Or.inl rfl) (ce_call (n := 2) (ok_d_law_draw X) (hr.mono (by decide)) tk (by rfl) X.g_d_law_draw X.F_d_law_draw.kp (bd_d_law_draw X) (an_cons (an_cons an_nil)) (ca_cons (ce_v 0) (ca_cons (ce_int) (ca_nil)))))
    (css_cons (cs_set (j := 4) sc_d_law_bent.nd rfl (Or.inl rfl) (ce_lst (ca_cons (ce_non) (ca_cons (ce_int) (ca_cons (ce_bl) (ca_cons (ce_str) (ca_cons (ce_lst (ca_cons (ce_str) (ca_nil))) (ca_cons (ce_tup (ca_nil)) (ca_cons (ce_tup (ca_cons (ce_tup (ca_cons (ce_str) (ca_nil))) (ca_nil))) (ca_cons (ce_tup (ca_cons (ce_tup (ca_nil)) (ca_nil))) (ca_cons (ce_tup (ca_cons (ce_tup (ca_nil)) (ca_cons (ce_tup (ca_nil)) (ca_nil)))) (ca_cons (ce_tup (ca_cons (ce_int) (ca_nil))) (ca_cons (ce_tup (ca_cons (ce_str) (ca_nil))) (ca_cons (ce_tup (ca_cons (ce_str) (ca_nil))) (ca_nil)))))))))))))))
    (css_cons (cs_if (PW.pt (cw_or (ct_cmp opA_lt ops_lt (ce_v 3) (ce_int) (nomark _)) (cw_or1 (ct_cmp (opA_eq hr.units) ops_eq (ce_v 2) (ce_tup (ca_nil)) (nomark _))))) (css_one (cs_ret (ce_ix (ix_any hr.units) ops_ixA (ce_v 4) (ce_call (n := 2) (ok_d_law_draw X) (hr.mono (by decide)) tk (by rfl) X.g_d_law_draw X.F_d_law_draw.kp (bd_d_law_draw X) (an_cons (an_cons an_nil)) (ca_cons (ce_v 0) (ca_cons (ce_callB call_len fns_len (by rfl) X.b_len (by decide +kernel) (ca_cons (ce_v 4) (ca_nil))) (ca_nil)))) (fun _ _ => rfl)))) (css_nil))
    (css_cons (cs_set (j := 5) sc_d_law_bent.nd rfl (Or.inl rfl) (ce_call (n := 2) (ok_d_law_draw X) (hr.mono (by decide)) tk (by rfl) X.g_d_law_draw X.F_d_law_draw.kp (bd_d_law_draw X) (an_cons (an_cons an_nil)) (ca_cons (ce_v 0) (ca_cons (ce_callB call_len fns_len (by rfl) X.b_len (by decide +kernel) (ca_cons (ce_v 2) (ca_nil))) (ca_nil)))))
    (css_cons (cs_set (j := 6) sc_d_law_bent.nd rfl (Or.inl rfl) (ce_ix (ix_any hr.units) ops_ixA (ce_v 2) (ce_v 5) (fun _ _ => rfl)))
    (css_cons (cs_set (j := 7) sc_d_law_bent.nd rfl (Or.inl rfl) (ce_call (n := 2) (ok_d_law_draw X) (hr.mono (by decide)) tk (by rfl) X.g_d_law_draw X.F_d_law_draw.kp (bd_d_law_draw X) (an_cons (an_cons an_nil)) (ca_cons (ce_v 0) (ca_cons (ce_callB call_len fns_len (by rfl) X.b_len (by decide +kernel) (ca_cons (ce_v 6) (ca_nil))) (ca_nil)))))
    (css_cons (cs_if (ct_cmp (opA_eq hr.units) ops_eq (ce_v 3) (ce_int) (nomark _)) (css_one (cs_ret (ce_callTy (call_listA rfl) fns_listA (by rfl) X.b_list (by decide +kernel) (ca_cons (ce_v 2) (ca_nil))))) (css_nil))
    (css_cons (cs_if (ct_cmp (opA_eq hr.units) ops_eq (ce_v 3) (ce_int) (nomark _)) (css_one (cs_ret (ce_call (n := 3) (ok_d_law_put X) (hr.mono (by decide)) tk (by rfl) X.g_d_law_put X.F_d_law_put.kp (bd_d_law_put X) (an_cons (an_cons (an_cons an_nil))) (ca_cons (ce_v 2) (ca_cons (ce_v 5) (ca_cons (ce_callTy (call_listA rfl) fns_listA (by rfl) X.b_list (by decide +kernel) (ca_cons (ce_v 6) (ca_nil))) (ca_nil))))))) (css_nil))
    (css_cons (cs_if (ct_cmp (opA_eq hr.units) ops_eq (ce_v 3) (ce_int) (nomark _)) (css_one (cs_ret (ce_call (n := 3) (ok_d_law_put X) (hr.mono (by decide)) tk (by rfl) X.g_d_law_put X.F_d_law_put.kp (bd_d_law_put X) (an_cons (an_cons (an_cons an_nil))) (ca_cons (ce_v 2) (ca_cons (ce_v 5) (ca_cons (ce_op op_addA ops_add (ce_sl sl_LT sls_LT (ce_v 6) (co_none) (co_some (ce_v 7))) (ce_sl sl_LT sls_LT (ce_v 6) (co_some (ce_op op_addA ops_add (ce_v 7) (ce_int))) (co_none))) (ca_nil))))))) (css_nil))
    (css_cons (cs_if (ct_cmp (opA_eq hr.units) ops_eq (ce_v 3) (ce_int) (nomark _)) (css_cons (cs_set (j := 8) sc_d_law_bent.nd rfl (Or.inl rfl) (ce_ix (ix_any hr.units) ops_ixA (ce_lst (ca_cons (ce_ix (ix_any hr.units) ops_ixA (ce_v 6) (ce_v 7) (fun _ _ => rfl)) (ca_cons (ce_str) (ca_cons (ce_ix (ix_any hr.units) ops_ixA (ce_v 1) (ce_int) (fun _ _ => rfl)) (ca_cons (ce_int) (ca_cons (ce_non) (ca_nil))))))) (ce_call (n := 2) (ok_d_law_draw X) (hr.mono (by decide)) tk (by rfl) X.g_d_law_draw X.F_d_law_draw.kp (bd_d_law_draw X) (an_cons (an_cons an_nil)) (ca_cons (ce_v 0) (ca_cons (ce_int) (ca_nil)))) (fun _ _ => rfl)))
    (css_one (cs_ret (ce_call (n := 3) (ok_d_law_put X) (hr.mono (by decide)) tk (by rfl) X.g_d_law_put X.F_d_law_put.kp (bd_d_law_put X) (an_cons (an_cons (an_cons an_nil))) (ca_cons (ce_v 2) (ca_cons (ce_call (n := 2) (ok_d_law_draw X) (hr.mono (by decide)) tk (by rfl) X.g_d_law_draw X.F_d_law_draw.kp (bd_d_law_draw X) (an_cons (an_cons an_nil)) (ca_cons (ce_v 0) (ca_cons (ce_callB call_len fns_len (by rfl) X.b_len (by decide +kernel) (ca_cons (ce_v 2) (ca_nil))) (ca_nil)))) (ca_cons (ce_op op_addA ops_add (ce_ix (ix_any hr.units) ops_ixA (ce_v 2) (ce_int) (fun _ _ => rfl)) (ce_tup (ca_cons (ce_v 8) (ca_nil)))) (ca_nil)))))))) (css_nil))
    (css_cons (cs_if (ct_cmp (opA_eq hr.units) ops_eq (ce_v 3) (ce_int) (nomark _)) (css_cons (cs_set (j := 8) sc_d_law_bent.nd rfl (Or.inl rfl) (ce_ix (ix_any hr.units) ops_ixA (ce_lst (ca_cons (ce_int) (ca_cons (ce_bl) (ca_cons (ce_non) (ca_cons (ce_str) (ca_cons (ce_tup (ca_cons (ce_ix (ix_any hr.units) ops_ixA (ce_v 6) (ce_v 7) (fun _ _ => rfl)) (ca_nil))) (ca_cons (ce_op op_addA ops_add (ce_ix (ix_any hr.units) ops_ixA (ce_v 6) (ce_v 7) (fun _ _ => rfl)) (ce_str)) (ca_cons (ce_lst (ca_cons (ce_ix (ix_any hr.units) ops_ixA (ce_v 6) (ce_v 7) (fun _ _ => rfl)) (ca_nil))) (ca_nil))))))))) (ce_call (n := 2) (ok_d_law_draw X) (hr.mono (by decide)) tk (by rfl) X.g_d_law_draw X.F_d_law_draw.kp (bd_d_law_draw X) (an_cons (an_cons an_nil)) (ca_cons (ce_v 0) (ca_cons (ce_int) (ca_nil)))) (fun _ _ => rfl)))
    (css_one (cs_ret (ce_call (n := 3) (ok_d_law_put X) (hr.mono (by decide)) tk (by rfl) X.g_d_law_put X.F_d_law_put.kp (bd_d_law_put X) (an_cons (an_cons (an_cons an_nil))) (ca_cons (ce_v 2) (ca_cons (ce_v 5) (ca_cons (ce_call (n := 3) (ok_d_law_put X) (hr.mono (by decide)) tk (by rfl) X.g_d_law_put X.F_d_law_put.kp (bd_d_law_put X) (an_cons (an_cons (an_cons an_nil))) (ca_cons (ce_v 6) (ca_cons (ce_v 7) (ca_cons (ce_v 8) (ca_nil))))) (ca_nil)))))))) (css_nil))
    (css_cons (cs_if (ct_cmp (opA_eq hr.units) ops_eq (ce_v 3) (ce_int) (nomark _)) (css_cons (cs_set (j := 9) sc_d_law_bent.nd rfl (Or.inl rfl) (ce_call (n := 2) (ok_d_law_draw X) (hr.mono (by decide)) tk (by rfl) X.g_d_law_draw X.F_d_law_draw.kp (bd_d_law_draw X) (an_cons (an_cons an_nil)) (ca_cons (ce_v 0) (ca_cons (ce_callB call_len fns_len (by rfl) X.b_len (by decide +kernel) (ca_cons (ce_v 6) (ca_nil))) (ca_nil)))))
    (css_one (cs_ret (ce_call (n := 3) (ok_d_law_put X) (hr.mono (by decide)) tk (by rfl) X.g_d_law_put X.F_d_law_put.kp (bd_d_law_put X) (an_cons (an_cons (an_cons an_nil))) (ca_cons (ce_v 2) (ca_cons (ce_v 5) (ca_cons (ce_call (n := 3) (ok_d_law_put X) (hr.mono (by decide)) tk (by rfl) X.g_d_law_put X.F_d_law_put.kp (bd_d_law_put X) (an_cons (an_cons (an_cons an_nil))) (ca_cons (ce_call (n := 3) (ok_d_law_put X) (hr.mono (by decide)) tk (by rfl) X.g_d_law_put X.F_d_law_put.kp (bd_d_law_put X) (an_cons (an_cons (an_cons an_nil))) (ca_cons (ce_v 6) (ca_cons (ce_v 7) (ca_cons (ce_ix (ix_any hr.units) ops_ixA (ce_v 6) (ce_v 9) (fun _ _ => rfl)) (ca_nil))))) (ca_cons (ce_v 9) (ca_cons (ce_ix (ix_any hr.units) ops_ixA (ce_v 6) (ce_v 7) (fun _ _ => rfl)) (ca_nil))))) (ca_nil)))))))) (css_nil))
    (css_cons (cs_if (ct_cmp (opA_eq hr.units) ops_eq (ce_v 3) (ce_int) (nomark _)) (css_cons (cs_set (j := 5) sc_d_law_bent.nd rfl (Or.inl rfl) (ce_call (n := 2) (ok_d_law_draw X) (hr.mono (by decide)) tk (by rfl) X.g_d_law_draw X.F_d_law_draw.kp (bd_d_law_draw X) (an_cons (an_cons an_nil)) (ca_cons (ce_v 0) (ca_cons (ce_op op_addA ops_add (ce_callB call_len fns_len (by rfl) X.b_len (by decide +kernel) (ca_cons (ce_v 2) (ca_nil))) (ce_int)) (ca_nil)))))
    (css_one (cs_ret (ce_op op_addA ops_add (ce_op op_addA ops_add (ce_sl sl_LT sls_LT (ce_v 2) (co_none) (co_some (ce_v 5))) (ce_tup (ca_cons (ce_tup (ca_nil)) (ca_nil)))) (ce_sl sl_LT sls_LT (ce_v 2) (co_some (ce_v 5)) (co_none)))))) (css_nil))
    (css_cons (cs_if (ct_cmp (opA_eq hr.units) ops_eq (ce_v 3) (ce_int) (nomark _)) (css_one (cs_ret (ce_op op_addA ops_add (ce_v 2) (ce_tup (ca_cons (ce_tup (ca_nil)) (ca_nil)))))) (css_nil))
    (css_cons (cs_if (ct_cmp (opA_eq hr.units) ops_eq (ce_v 3) (ce_int) (nomark _)) (css_one (cs_ret (ce_op op_addA ops_add (ce_call (n := 3) (ok_d_law_put X) (hr.mono (by decide)) tk (by rfl) X.g_d_law_put X.F_d_law_put.kp (bd_d_law_put X) (an_cons (an_cons (an_cons an_nil))) (ca_cons (ce_v 2) (ca_cons (ce_v 5) (ca_cons (ce_back (ce_v 6)) (ca_nil))))) (ce_tup (ca_cons (ce_tup (ca_nil)) (ca_nil)))))) (css_nil))
    (css_one (cs_ret (ce_ix (ix_any hr.units) ops_ixA (ce_tup (ca_cons (ce_tup (ca_cons (ce_v 2) (ca_nil))) (ca_cons (ce_ix (ix_any hr.units) ops_ixA (ce_v 2) (ce_int) (fun _ _ => rfl)) (ca_cons (ce_m1 PySem.F.slot_str_join PySem.F.type_str_join mt_join mts_join (ce_str) (ce_v 6)) (ca_cons (ce_op op_addA ops_add (ce_v 2) (ce_v 2)) (ca_nil)))))) (ce_call (n := 2) (ok_d_law_draw X) (hr.mono (by decide)) tk (by rfl) X.g_d_law_draw X.F_d_law_draw.kp (bd_d_law_draw X) (an_cons (an_cons an_nil)) (ca_cons (ce_v 0) (ca_cons (ce_int) (ca_nil)))) (fun _ _ => rfl)))))))))))))))))) :
      PSs _ _ (Ts _ _ _ b_d_law_bent))
noncomputable def bl_d_law_arranged_1 : MS := sPut pAny (eV 3) (eV 4) (eCall m_d_law_draw (aCons (eV 0) (aCons (eV 2) (aNil))))
noncomputable def b_d_law_arranged : MS := sSeq (sSet 2 (e2 dAdd (eC (.int 1)) (eCall m_d_law_draw (aCons (eV 0) (aCons (e2 dAdd (eFn dLen (aCons (eV 1) (aNil))) (eC (.int 1))) (aNil))))))
  (sSeq (sSet 3 (eDict0))
  (sSeq (sFor (iSeq (eV 1)) (gN 4) (bl_d_law_arranged_1))
  (sRet (eCall m_d_law_order (aCons (eV 1) (aCons (eV 3) (aNil)))))))
noncomputable def m_d_law_arranged : List D → Store → R D := fnM 5 2 b_d_law_arranged
theorem ok_d_law_arranged (X : Fx K mg) : FnOk P w K mg base (L2.CX P w) 2 X.a_d_law_arranged X.d_d_law_arranged ["pool", "chosen"] (spM K mg 2 m_d_law_arranged) :=
  okM (k := 1) X.F_d_law_arranged sc_d_law_arranged rfl fun cdv A outer s H E hr tk =>
    (css_cons (cs_set (j := 2) sc_d_law_arranged.nd rfl (Or.inl rfl) (ce_op op_addA ops_add (ce_int) (ce_call (n := 2) (ok_d_law_draw X) (hr.mono (by decide)) tk (by rfl) X.g_d_law_draw X.F_d_law_draw.kp (bd_d_law_draw X) (an_cons (an_cons an_nil)) (ca_cons (ce_v 0) (ca_cons (ce_op op_addA ops_add (ce_callB call_len fns_len (by rfl) X.b_len (by decide +kernel) (ca_cons (ce_v 1) (ca_nil))) (ce_int)) (ca_nil))))))
    (css_cons (cs_set (j := 3) sc_d_law_arranged.nd rfl (Or.inl rfl) (ce_dict0))
    (css_cons (cs_for (passes_of rfl) rfl (ci_seq (ce_v 1)) (cg_name (i := 4) sc_d_law_arranged.nd rfl (by first | exact Or.inl rfl | exact Or.inr rfl)) (css_one (cs_put (ce_call (n := 2) (ok_d_law_draw X) (hr.mono (by decide)) tk (by rfl) X.g_d_law_draw X.F_d_law_draw.kp (bd_d_law_draw X) (an_cons (an_cons an_nil)) (ca_cons (ce_v 0) (ca_cons (ce_v 2) (ca_nil)))) (ce_v 3) (ce_v 4) (set_any hr.units) puts_any)))
    (css_one (cs_ret (ce_call (n := 2) (ok_d_law_order X) (hr.mono (by decide)) tk (by rfl) X.g_d_law_order X.F_d_law_order.kp (bd_d_law_order X) (an_cons (an_cons an_nil)) (ca_cons (ce_v 1) (ca_cons (ce_v 3) (ca_nil)))))))) :
      PSs _ _ (Ts _ _ _ b_d_law_arranged))
noncomputable def bl_check_order_1 : MS := sIf (tOr (tV (e2 dEq (eFn dLen (aCons (eV 3) (aNil))) (eC (.int 0)))) (tV (e2 dNe (eFn dListA (aCons (eV 3) (aNil))) (eFn dSortedD (aCons (eV 3) (aNil)))))) (sRaise "BadOrder" ["at"] (aCons (eV 5) (aNil))) (sNil)
noncomputable def bl_check_order_2 : MS := sSeq (sIf (tNot (tTru (e1 (dIsi "str") (eV 4)))) (sRaise "BadOrder" ["at"] (aCons (e1 dNeg (eC (.int 1))) (aNil))) (sNil))
  (sExpr (eMt "list" dAppend (eV 2) (aCons (eV 4) (aNil))))
noncomputable def bl_check_order_3 : MS := sSeq (sIf (tNot (tTru (e1 (dIsi "tuple") (eV 3)))) (sRaise "BadOrder" ["at"] (aCons (e1 dNeg (eC (.int 1))) (aNil))) (sNil))
  (sFor (iSeq (eV 3)) (gN 4) (bl_check_order_2))
noncomputable def b_check_order : MS := sSeq (sIf (tNot (tTru (e1 (dIsi "tuple") (eV 1)))) (sRaise "BadOrder" ["at"] (aCons (e1 dNeg (eC (.int 1))) (aNil))) (sNil))
  (sSeq (sSet 2 (eLst (aNil)))
  (sSeq (sFor (iSeq (eV 1)) (gN 3) (bl_check_order_3))
  (sSeq (sIf (tV (e2 dNe (eFn dSortedD (aCons (eV 2) (aNil))) (eFn dSortedD (aCons (eV 0) (aNil))))) (sRaise "BadOrder" ["at"] (aCons (e1 dNeg (eC (.int 1))) (aNil))) (sNil))
  (sSeq (sFor (iEnm (aCons (eV 1) (aNil))) (gT 2 (gsC (gN 5) (gsC (gN 3) (gsN)))) (bl_check_order_1))
  (sRet (eFn dLen (aCons (eV 1) (aNil))))))))
noncomputable def m_check_order : List D → Store → R D := fnM 6 2 b_check_order
theorem ok_check_order (X : Fx K mg) : FnOk P w K mg base (L2.CX P w) 3 X.a_check_order X.d_check_order ["chosen", "thing"] (spM K mg 2 m_check_order) :=
  okM (k := 2) X.F_check_order sc_check_order rfl fun cdv A outer s H E hr tk =>
    (css_cons (cs_if (ct_not (ct_tru (ce_isi (T := "tuple") (by rfl) X.b_isinstance (by rfl) X.b_tuple (by decide +kernel) (ce_v 1)))) (css_one (cs_raise1 rfl tk X.gc_BadOrder X.T_BadOrder X.iC_BadOrder X.tI_BadOrder (oi_BadOrder X) (hr.mono (by decide)) (bi_BadOrder X) (by rfl) (ca_cons (ce_un un_neg uns_neg (ce_int)) (ca_nil)))) (css_nil))
    (css_cons (cs_set (j := 2) sc_check_order.nd rfl (Or.inl rfl) (ce_lst (ca_nil)))
    (css_cons (cs_for (passes_of rfl) rfl (ci_seq (ce_v 1)) (cg_name (i := 3) sc_check_order.nd rfl (by first | exact Or.inl rfl | exact Or.inr rfl)) (css_cons (cs_if (ct_not (ct_tru (ce_isi (T := "tuple") (by rfl) X.b_isinstance (by rfl) X.b_tuple (by decide +kernel) (ce_v 3)))) (css_one (cs_raise1 rfl tk X.gc_BadOrder X.T_BadOrder X.iC_BadOrder X.tI_BadOrder (oi_BadOrder X) (hr.mono (by decide)) (bi_BadOrder X) (by rfl) (ca_cons (ce_un un_neg uns_neg (ce_int)) (ca_nil)))) (css_nil))
    (css_one (cs_for (passes_of rfl) rfl (ci_seq (ce_v 3)) (cg_name (i := 4) sc_check_order.nd rfl (by first | exact Or.inl rfl | exact Or.inr rfl)) (css_cons (cs_if (ct_not (ct_tru (ce_isi (T := "str") (by rfl) X.b_isinstance (by rfl) X.b_str (by decide +kernel) (ce_v 4)))) (css_one (cs_raise1 rfl tk X.gc_BadOrder X.T_BadOrder X.iC_BadOrder X.tI_BadOrder (oi_BadOrder X) (hr.mono (by decide)) (bi_BadOrder X) (by rfl) (ca_cons (ce_un un_neg uns_neg (ce_int)) (ca_nil)))) (css_nil))
    (css_one (cs_expr (ce_bm PySem.F.plainAttrs_list PySem.F.slot_list_append PySem.F.type_list_append mt_append mts_append (ce_v 2) (ca_cons (ce_v 4) (ca_nil))))))))))
    (css_cons (cs_if (ct_cmp (opA_ne hr.units) ops_ne (ce_callB (call_sortD rfl hr.units) fns_sortD (by rfl) X.b_sorted (by decide +kernel) (ca_cons (ce_v 2) (ca_nil))) (ce_callB (call_sortD rfl hr.units) fns_sortD (by rfl) X.b_sorted (by decide +kernel) (ca_cons (ce_v 0) (ca_nil))) (nomark _)) (css_one (cs_raise1 rfl tk X.gc_BadOrder X.T_BadOrder X.iC_BadOrder X.tI_BadOrder (oi_BadOrder X) (hr.mono (by decide)) (bi_BadOrder X) (by rfl) (ca_cons (ce_un un_neg uns_neg (ce_int)) (ca_nil)))) (css_nil))
    (css_cons (cs_for (passes_of rfl) rfl (ci_enum (by rfl) X.b_enumerate (ca_cons (ce_v 1) (ca_nil))) (cg_tup (n := 2) rfl (cgs_cons (us := [5, 3]) (cg_name (i := 5) sc_check_order.nd rfl (by first | exact Or.inl rfl | exact Or.inr rfl)) (cgs_cons (us := [3]) (cg_name (i := 3) sc_check_order.nd rfl (by first | exact Or.inl rfl | exact Or.inr rfl)) (cgs_nil (vs := []))))) (css_one (cs_if (PW.pt (cw_or (ct_cmp (opA_eq hr.units) ops_eq (ce_callB call_len fns_len (by rfl) X.b_len (by decide +kernel) (ca_cons (ce_v 3) (ca_nil))) (ce_int) (nomark _)) (cw_or1 (ct_cmp (opA_ne hr.units) ops_ne (ce_callTy (call_listA rfl) fns_listA (by rfl) X.b_list (by decide +kernel) (ca_cons (ce_v 3) (ca_nil))) (ce_callB (call_sortD rfl hr.units) fns_sortD (by rfl) X.b_sorted (by decide +kernel) (ca_cons (ce_v 3) (ca_nil))) (nomark _))))) (css_one (cs_raise1 rfl tk X.gc_BadOrder X.T_BadOrder X.iC_BadOrder X.tI_BadOrder (oi_BadOrder X) (hr.mono (by decide)) (bi_BadOrder X) (by rfl) (ca_cons (ce_v 5) (ca_nil)))) (css_nil))))
    (css_one (cs_ret (ce_callB call_len fns_len (by rfl) X.b_len (by decide +kernel) (ca_cons (ce_v 1) (ca_nil))))))))) :
      PSs _ _ (Ts _ _ _ b_check_order))
noncomputable def b_d_law_ask : MS := sTryAs 2 ["BadOrder"] (sRet (eTup (aCons (eC (.str "good")) (aCons (eCall m_check_order (aCons (eV 0) (aCons (eV 1) (aNil)))) (aNil))))) (fun g => sRet (eTup (aCons (eC (.str "bad")) (aCons (eFld g 2 "at") (aNil)))))
noncomputable def m_d_law_ask : List D → Store → R D := fnM 3 2 b_d_law_ask
theorem ok_d_law_ask (X : Fx K mg) : FnOk P w K mg base (L2.CX P w) 4 X.a_d_law_ask X.d_d_law_ask ["chosen", "thing"] (spM K mg 2 m_d_law_ask) :=
  okM (k := 3) X.F_d_law_ask sc_d_law_ask rfl fun cdv A outer s H E hr tk =>
    (css_one (cs_tryAs (i := 2) (cs := ["BadOrder"]) rfl rfl sc_d_law_ask.nd rfl rfl ⟨by rfl, by decide, .inl X.gc_BadOrder⟩ tk (hcs1 X.gc_BadOrder X.te_BadOrder) (fun W pn xe tk => css_one (cs_ret (ce_tup (ca_cons (ce_str) (ca_cons (ce_call (n := 2) (ok_check_order X) (hr.mono (by decide)) tk (by rfl) X.g_check_order X.F_check_order.kp (bd_check_order X) (an_cons (an_cons an_nil)) (ca_cons (ce_v 0) (ca_cons (ce_v 1) (ca_nil)))) (ca_nil)))))) (fun a oe cls d pn g k hz hf h1 h2 h3 h4 => css_one (cs_ret (ce_tup (ca_cons (ce_str) (ca_cons (ce_fld (hxf1 X.gc_BadOrder X.xf_BadOrder X.no_BadOrder_at h3 h4) hz hf h1 h2 (pv 2)) (ca_nil))))))) :
      PSs _ _ (Ts _ _ _ b_d_law_ask))
noncomputable def bl_d_law_same_1 (rec : List D → Store → R D) : MS := sIf (tNot (tTru (eCall rec (aCons (e2 dIxA (eV 0) (eV 2)) (aCons (e2 dIxA (eV 1) (eV 2)) (aNil)))))) (sRet (eC (.bl false))) (sNil)
noncomputable def b_d_law_same (rec : List D → Store → R D) : MS := sSeq (sIf (tTru (e1 (dIsi "tuple") (eV 1))) (sSeq (sIf (tOr (tNot (tTru (e1 (dIsi "tuple") (eV 0)))) (tV (e2 dNe (eFn dLen (aCons (eV 0) (aNil))) (eFn dLen (aCons (eV 1) (aNil)))))) (sRet (eC (.bl false))) (sNil))
  (sSeq (sFor (iRange1 (aCons (eFn dLen (aCons (eV 1) (aNil))) (aNil))) (gN 2) ((bl_d_law_same_1 rec)))
  (sRet (eC (.bl true))))) (sNil))
  (sSeq (sIf (tTru (e1 (dIsi "str") (eV 1))) (sRet (eAnd (e1 (dIsi "str") (eV 0)) (e2 dEq (eV 0) (eV 1)))) (sNil))
  (sRet (eAnd (e1 (dIsi "int") (eV 0)) (eAnd (eNot (e1 (dIsi "bool") (eV 0))) (e2 dEq (eV 0) (eV 1))))))
noncomputable def mr_d_law_same : Nat → List D → Store → R D
  | 0 => fun _ _ => .no
  | n + 1 => fnM 3 2 (b_d_law_same (mr_d_law_same n))
noncomputable def m_d_law_same : List D → Store → R D := mr_d_law_same 5
theorem okr_d_law_same (X : Fx K mg) : ∀ n, FnOk P w K mg base (L2.CX P w) (0 + n) X.a_d_law_same X.d_d_law_same ["told", "due"] (spM K mg 2 (mr_d_law_same n))
  | 0 => okNo
  | n + 1 => have IH := okr_d_law_same X n
    okM (k := 0 + n) X.F_d_law_same sc_d_law_same rfl fun cdv A outer s H E hr tk =>
    (css_cons (cs_if (ct_tru (ce_isi (T := "tuple") (by rfl) X.b_isinstance (by rfl) X.b_tuple (by decide +kernel) (ce_v 1))) (css_cons (cs_if (PW.pt (cw_or (ct_not (ct_tru (ce_isi (T := "tuple") (by rfl) X.b_isinstance (by rfl) X.b_tuple (by decide +kernel) (ce_v 0)))) (cw_or1 (ct_cmp (opA_ne hr.units) ops_ne (ce_callB call_len fns_len (by rfl) X.b_len (by decide +kernel) (ca_cons (ce_v 0) (ca_nil))) (ce_callB call_len fns_len (by rfl) X.b_len (by decide +kernel) (ca_cons (ce_v 1) (ca_nil))) (nomark _))))) (css_one (cs_ret (ce_bl))) (css_nil))
    (css_cons (cs_for (passes_of rfl) rfl (ci_range1 (by rfl) X.b_range (ca_cons (ce_callB call_len fns_len (by rfl) X.b_len (by decide +kernel) (ca_cons (ce_v 1) (ca_nil))) (ca_nil))) (cg_name (i := 2) sc_d_law_same.nd rfl (by first | exact Or.inl rfl | exact Or.inr rfl)) (css_one (cs_if (ct_not (ct_tru (ce_call (n := 2) IH (hr.mono (by omega)) tk (by rfl) X.g_d_law_same X.F_d_law_same.kp (bd_d_law_same X) (an_cons (an_cons an_nil)) (ca_cons (ce_ix (ix_any hr.units) ops_ixA (ce_v 0) (ce_v 2) (fun _ _ => rfl)) (ca_cons (ce_ix (ix_any hr.units) ops_ixA (ce_v 1) (ce_v 2) (fun _ _ => rfl)) (ca_nil)))))) (css_one (cs_ret (ce_bl))) (css_nil))))
    (css_one (cs_ret (ce_bl))))) (css_nil))
    (css_cons (cs_if (ct_tru (ce_isi (T := "str") (by rfl) X.b_isinstance (by rfl) X.b_str (by decide +kernel) (ce_v 1))) (css_one (cs_ret (ce_and (ce_isi (T := "str") (by rfl) X.b_isinstance (by rfl) X.b_str (by decide +kernel) (ce_v 0)) (ce_one (ce_cmp (opA_eq hr.units) ops_eq (ce_v 0) (ce_v 1) (nomark _)))))) (css_nil))
    (css_one (cs_ret (ce_and (ce_isi (T := "int") (by rfl) X.b_isinstance (by rfl) X.b_int (by decide +kernel) (ce_v 0)) (ce_and (ce_not (ce_isi (T := "bool") (by rfl) X.b_isinstance (by rfl) X.b_bool (by decide +kernel) (ce_v 0))) (ce_one (ce_cmp (opA_eq hr.units) ops_eq (ce_v 0) (ce_v 1) (nomark _)))))))) :
      PSs _ _ (Ts _ _ _ (b_d_law_same (mr_d_law_same n))))
theorem ok_d_law_same (X : Fx K mg) : FnOk P w K mg base (L2.CX P w) 5 X.a_d_law_same X.d_d_law_same ["told", "due"] (spM K mg 2 m_d_law_same) := okr_d_law_same X 5
noncomputable def bl_d_law_asked_1 : MS := sSeq (sSet 6 (eCall m_d_law_bent (aCons (eV 0) (aCons (eV 1) (aCons (eV 2) (aNil))))))
  (sSeq (sSet 3 (eCall m_d_law_judge (aCons (eV 1) (aCons (eV 6) (aNil)))))
  (sSeq (sIf (tV (e2 dEq (e2 dIxA (eV 3) (eC (.int 0))) (eC (.str "bad")))) (sSet 4 (e2 dAdd (eV 4) (eC (.int 1)))) (sNil))
  (sIf (tNot (tTru (eCall m_d_law_same (aCons (eCall m_d_law_ask (aCons (eV 1) (aCons (eV 6) (aNil)))) (aCons (eV 3) (aNil)))))) (sRet (eC (.bl false))) (sNil))))
noncomputable def b_d_law_asked : MS := sSeq (sSet 3 (eCall m_d_law_judge (aCons (eV 1) (aCons (eV 2) (aNil)))))
  (sSeq (sIf (tOr (tV (e2 dNe (e2 dIxA (eV 3) (eC (.int 0))) (eC (.str "good")))) (tNot (tTru (eCall m_d_law_same (aCons (eCall m_d_law_ask (aCons (eV 1) (aCons (eV 2) (aNil)))) (aCons (eV 3) (aNil))))))) (sRet (eC (.bl false))) (sNil))
  (sSeq (sIf (tNot (tTru (eCall m_d_law_same (aCons (eCall m_order_records (aCons (eV 2) (aNil))) (aCons (eCall m_d_law_records (aCons (eV 2) (aNil))) (aNil)))))) (sRet (eC (.bl false))) (sNil))
  (sSeq (sSet 4 (eC (.int 0)))
  (sSeq (sFor (iRange1 (aCons (eC (.int 5)) (aNil))) (gN 5) (bl_d_law_asked_1))
  (sSeq (sIf (tV (e2 dEq (eV 4) (eC (.int 0)))) (sRet (eCall m_d_law_same (aCons (eCall m_d_law_ask (aCons (eV 1) (aCons (e2 dAdd (eV 2) (eTup (aCons (eTup (aNil)) (aNil)))) (aNil)))) (aCons (eTup (aCons (eC (.str "bad")) (aCons (eFn dLen (aCons (eV 2) (aNil))) (aNil)))) (aNil))))) (sNil))
  (sRet (eC (.bl true))))))))
noncomputable def m_d_law_asked : List D → Store → R D := fnM 7 3 b_d_law_asked
theorem ok_d_law_asked (X : Fx K mg) : FnOk P w K mg base (L2.CX P w) 6 X.a_d_law_asked X.d_d_law_asked ["pool", "chosen", "order"] (spM K mg 3 m_d_law_asked) :=
  okM (k := 5) X.F_d_law_asked sc_d_law_asked rfl fun cdv A outer s H E hr tk =>
    (css_cons (cs_set (j := 3) sc_d_law_asked.nd rfl (Or.inl rfl) (ce_call (n := 2) (ok_d_law_judge X) (hr.mono (by decide)) tk (by rfl) X.g_d_law_judge X.F_d_law_judge.kp (bd_d_law_judge X) (an_cons (an_cons an_nil)) (ca_cons (ce_v 1) (ca_cons (ce_v 2) (ca_nil)))))
    (css_cons (cs_if (PW.pt (cw_or (ct_cmp (opA_ne hr.units) ops_ne (ce_ix (ix_any hr.units) ops_ixA (ce_v 3) (ce_int) (fun _ _ => rfl)) (ce_str) (nomark _)) (cw_or1 (ct_not (ct_tru (ce_call (n := 2) (ok_d_law_same X) (hr.mono (by decide)) tk (by rfl) X.g_d_law_same X.F_d_law_same.kp (bd_d_law_same X) (an_cons (an_cons an_nil)) (ca_cons (ce_call (n := 2) (ok_d_law_ask X) (hr.mono (by decide)) tk (by rfl) X.g_d_law_ask X.F_d_law_ask.kp (bd_d_law_ask X) (an_cons (an_cons an_nil)) (ca_cons (ce_v 1) (ca_cons (ce_v 2) (ca_nil)))) (ca_cons (ce_v 3) (ca_nil))))))))) (css_one (cs_ret (ce_bl))) (css_nil))
    (css_cons (cs_if (ct_not (ct_tru (ce_call (n := 2) (ok_d_law_same X) (hr.mono (by decide)) tk (by rfl) X.g_d_law_same X.F_d_law_same.kp (bd_d_law_same X) (an_cons (an_cons an_nil)) (ca_cons (ce_call (n := 1) (ok_order_records X) (hr.mono (by decide)) tk (by rfl) X.g_order_records X.F_order_records.kp (bd_order_records X) (an_cons an_nil) (ca_cons (ce_v 2) (ca_nil))) (ca_cons (ce_call (n := 1) (ok_d_law_records X) (hr.mono (by decide)) tk (by rfl) X.g_d_law_records X.F_d_law_records.kp (bd_d_law_records X) (an_cons an_nil) (ca_cons (ce_v 2) (ca_nil))) (ca_nil)))))) (css_one (cs_ret (ce_bl))) (css_nil))
    (css_cons (cs_set (j := 4) sc_d_law_asked.nd rfl (Or.inl rfl) (ce_int))
    (css_cons (cs_for (passes_of rfl) rfl (ci_range1 (by rfl) X.b_range (ca_cons (ce_int) (ca_nil))) (cg_name (i := 5) sc_d_law_asked.nd rfl (by first | exact Or.inl rfl | exact Or.inr rfl)) (css_cons (cs_set (j := 6) sc_d_law_asked.nd rfl (Or.inl rfl) (ce_call (n := 3) (ok_d_law_bent X) (hr.mono (by decide)) tk (by rfl) X.g_d_law_bent X.F_d_law_bent.kp (bd_d_law_bent X) (an_cons (an_cons (an_cons an_nil))) (ca_cons (ce_v 0) (ca_cons (ce_v 1) (ca_cons (ce_v 2) (ca_nil))))))
    (css_cons (cs_set (j := 3) sc_d_law_asked.nd rfl (Or.inl rfl) (ce_call (n := 2) (ok_d_law_judge X) (hr.mono (by decide)) tk (by rfl) X.g_d_law_judge X.F_d_law_judge.kp (bd_d_law_judge X) (an_cons (an_cons an_nil)) (ca_cons (ce_v 1) (ca_cons (ce_v 6) (ca_nil)))))
    (css_cons (cs_if (ct_cmp (opA_eq hr.units) ops_eq (ce_ix (ix_any hr.units) ops_ixA (ce_v 3) (ce_int) (fun _ _ => rfl)) (ce_str) (nomark _)) (css_one (cs_set (j := 4) sc_d_law_asked.nd rfl (Or.inl rfl) (ce_op op_addA ops_add (ce_v 4) (ce_int)))) (css_nil))
    (css_one (cs_if (ct_not (ct_tru (ce_call (n := 2) (ok_d_law_same X) (hr.mono (by decide)) tk (by rfl) X.g_d_law_same X.F_d_law_same.kp (bd_d_law_same X) (an_cons (an_cons an_nil)) (ca_cons (ce_call (n := 2) (ok_d_law_ask X) (hr.mono (by decide)) tk (by rfl) X.g_d_law_ask X.F_d_law_ask.kp (bd_d_law_ask X) (an_cons (an_cons an_nil)) (ca_cons (ce_v 1) (ca_cons (ce_v 6) (ca_nil)))) (ca_cons (ce_v 3) (ca_nil)))))) (css_one (cs_ret (ce_bl))) (css_nil)))))))
    (css_cons (cs_if (ct_cmp (opA_eq hr.units) ops_eq (ce_v 4) (ce_int) (nomark _)) (css_one (cs_ret (ce_call (n := 2) (ok_d_law_same X) (hr.mono (by decide)) tk (by rfl) X.g_d_law_same X.F_d_law_same.kp (bd_d_law_same X) (an_cons (an_cons an_nil)) (ca_cons (ce_call (n := 2) (ok_d_law_ask X) (hr.mono (by decide)) tk (by rfl) X.g_d_law_ask X.F_d_law_ask.kp (bd_d_law_ask X) (an_cons (an_cons an_nil)) (ca_cons (ce_v 1) (ca_cons (ce_op op_addA ops_add (ce_v 2) (ce_tup (ca_cons (ce_tup (ca_nil)) (ca_nil)))) (ca_nil)))) (ca_cons (ce_tup (ca_cons (ce_str) (ca_cons (ce_callB call_len fns_len (by rfl) X.b_len (by decide +kernel) (ca_cons (ce_v 2) (ca_nil))) (ca_nil)))) (ca_nil)))))) (css_nil))
    (css_one (cs_ret (ce_bl)))))))) :
      PSs _ _ (Ts _ _ _ b_d_law_asked))
noncomputable def lt_law_1 : ME Bool := tV (e2 dGt (eCall m_d_law_draw (aCons (eV 1) (aCons (eV 11) (aNil)))) (eC (.int 0)))
noncomputable def le_law_2 : ME D := eV 14
noncomputable def bl_law_3 : MS := sPut pAny (eV 9) (e2 dIxA (eV 4) (eV 10)) (e2 dIxA (eV 8) (eV 10))
noncomputable def le_law_4 : ME D := e2 dSub (e2 dAdd (eV 5) (eC (.int 9))) (eCall m_d_law_draw (aCons (eV 1) (aCons (eV 7) (aNil))))
noncomputable def b_law : MS := sSeq (sSet 1 (eCall m_d_law_pool (aCons (eV 0) (aNil))))
  (sSeq (sSet 2 (eCall m_d_law_draw (aCons (eV 1) (aCons (eC (.int 7)) (aNil)))))
  (sSeq (sSet 3 (eC (.int 0)))
  (sSeq (sIf (tV (e2 dEq (eCall m_d_law_draw (aCons (eV 1) (aCons (eC (.int 7)) (aNil)))) (eC (.int 3)))) (sSeq (sSet 2 (e2 dAdd (eC (.int 14)) (eCall m_d_law_draw (aCons (eV 1) (aCons (eC (.int 27)) (aNil))))))
  (sSet 3 (eC (.int 120)))) (sNil))
  (sSeq (sSet 4 (eCall m_d_law_deeds (aCons (eV 1) (aCons (eV 2) (aNil)))))
  (sSeq (sSet 5 (e2 dIxA (eLst (aCons (eC (.int 0)) (aCons (e1 dNeg (eC (.int 4))) (aCons (eC (.int 1200)) (aCons (e1 dNeg (eC (.int 9999))) (aNil)))))) (eCall m_d_law_draw (aCons (eV 1) (aCons (eC (.int 4)) (aNil))))))
  (sSeq (sIf (tAnd (tV (e2 dGt (eV 2) (eC (.int 0)))) (tV (e2 dEq (eV 3) (eC (.int 0))))) (sSet 3 (eCall m_d_law_draw (aCons (eV 1) (aCons (eC (.int 6)) (aNil))))) (sNil))
  (sSeq (sSet 6 (eTup (aCons (eV 5) (aCons (e2 dAdd (eV 5) (eC (.int 9))) (aCons (eV 4) (aCons (eCall m_d_law_entries (aCons (eV 1) (aCons (eV 4) (aCons (eV 5) (aCons (eV 3) (aNil)))))) (aNil)))))))
  (sSeq (sSet 7 (e2 dAdd (eC (.int 1)) (eCall m_d_law_draw (aCons (eV 1) (aCons (eC (.int 10)) (aNil))))))
  (sSeq (sSet 8 (eFn dTuple (aCons (eLc (iSeq (eV 4)) [14] (gN 14) (tT) (le_law_4)) (aNil))))
  (sSeq (sSet 9 (eDict0))
  (sSeq (sFor (iRange1 (aCons (eV 2) (aNil))) (gN 10) (bl_law_3))
  (sSeq (sSet 11 (e2 dAdd (eC (.int 2)) (eCall m_d_law_draw (aCons (eV 1) (aCons (eC (.int 3)) (aNil))))))
  (sSeq (sIf (tV (e2 dGt (eV 2) (eC (.int 6)))) (sSet 11 (eC (.int 4))) (sNil))
  (sSeq (sSet 12 (eFn dTuple (aCons (eLc (iSeq (eV 4)) [14] (gN 14) (lt_law_1) (le_law_2)) (aNil))))
  (sSeq (sSet 13 (eCall m_d_law_order (aCons (eV 12) (aCons (eV 9) (aNil)))))
  (sSeq (sIf (tNot (tTru (eCall m_d_law_same (aCons (eCall m_order_of (aCons (eV 6) (aCons (eV 12) (aCons (eV 8) (aNil))))) (aCons (eV 13) (aNil)))))) (sRet (eC (.bl false))) (sNil))
  (sSeq (sIf (tNot (tTru (eCall m_d_law_asked (aCons (eV 1) (aCons (eV 12) (aCons (eV 13) (aNil))))))) (sRet (eC (.bl false))) (sNil))
  (sRet (eCall m_d_law_asked (aCons (eV 1) (aCons (eV 12) (aCons (eCall m_d_law_arranged (aCons (eV 1) (aCons (eV 12) (aNil)))) (aNil)))))))))))))))))))))))
noncomputable def m_law : List D → Store → R D := fnM 15 1 b_law
theorem ok_law (X : Fx K mg) : FnOk P w K mg base (L2.CX P w) 7 X.a_law X.d_law ["script"] (spM K mg 1 m_law) :=
  okM (k := 6) X.F_law sc_law rfl fun cdv A outer s H E hr tk =>
    (css_cons (cs_set (j := 1) sc_law.nd rfl (Or.inr rfl) (ce_call (n := 1) (ok_d_law_pool X) (hr.mono (by decide)) tk (by rfl) X.g_d_law_pool X.F_d_law_pool.kp (bd_d_law_pool X) (an_cons an_nil) (ca_cons (ce_v 0) (ca_nil))))
    (css_cons (cs_set (j := 2) sc_law.nd rfl (Or.inl rfl) (ce_call (n := 2) (ok_d_law_draw X) (hr.mono (by decide)) tk (by rfl) X.g_d_law_draw X.F_d_law_draw.kp (bd_d_law_draw X) (an_cons (an_cons an_nil)) (ca_cons (ce_v 1) (ca_cons (ce_int) (ca_nil)))))
    (css_cons (cs_set (j := 3) sc_law.nd rfl (Or.inl rfl) (ce_int))
    (css_cons (cs_if (ct_cmp (opA_eq hr.units) ops_eq (ce_call (n := 2) (ok_d_law_draw X) (hr.mono (by decide)) tk (by rfl) X.g_d_law_draw X.F_d_law_draw.kp (bd_d_law_draw X) (an_cons (an_cons an_nil)) (ca_cons (ce_v 1) (ca_cons (ce_int) (ca_nil)))) (ce_int) (nomark _)) (css_cons (cs_set (j := 2) sc_law.nd rfl (Or.inl rfl) (ce_op op_addA ops_add (ce_int) (ce_call (n := 2) (ok_d_law_draw X) (hr.mono (by decide)) tk (by rfl) X.g_d_law_draw X.F_d_law_draw.kp (bd_d_law_draw X) (an_cons (an_cons an_nil)) (ca_cons (ce_v 1) (ca_cons (ce_int) (ca_nil))))))
    (css_one (cs_set (j := 3) sc_law.nd rfl (Or.inl rfl) (ce_int)))) (css_nil))
    (css_cons (cs_set (j := 4) sc_law.nd rfl (Or.inl rfl) (ce_call (n := 2) (ok_d_law_deeds X) (hr.mono (by decide)) tk (by rfl) X.g_d_law_deeds X.F_d_law_deeds.kp (bd_d_law_deeds X) (an_cons (an_cons an_nil)) (ca_cons (ce_v 1) (ca_cons (ce_v 2) (ca_nil)))))
    (css_cons (cs_set (j := 5) sc_law.nd rfl (Or.inr rfl) (ce_ix (ix_any hr.units) ops_ixA (ce_lst (ca_cons (ce_int) (ca_cons (ce_un un_neg uns_neg (ce_int)) (ca_cons (ce_int) (ca_cons (ce_un un_neg uns_neg (ce_int)) (ca_nil)))))) (ce_call (n := 2) (ok_d_law_draw X) (hr.mono (by decide)) tk (by rfl) X.g_d_law_draw X.F_d_law_draw.kp (bd_d_law_draw X) (an_cons (an_cons an_nil)) (ca_cons (ce_v 1) (ca_cons (ce_int) (ca_nil)))) (fun _ _ => rfl)))
    (css_cons (cs_if (PW.pt (cw_and (ct_cmp opA_gt ops_gt (ce_v 2) (ce_int) (nomark _)) (cw_and1 (ct_cmp (opA_eq hr.units) ops_eq (ce_v 3) (ce_int) (nomark _))))) (css_one (cs_set (j := 3) sc_law.nd rfl (Or.inl rfl) (ce_call (n := 2) (ok_d_law_draw X) (hr.mono (by decide)) tk (by rfl) X.g_d_law_draw X.F_d_law_draw.kp (bd_d_law_draw X) (an_cons (an_cons an_nil)) (ca_cons (ce_v 1) (ca_cons (ce_int) (ca_nil)))))) (css_nil))
    (css_cons (cs_set (j := 6) sc_law.nd rfl (Or.inl rfl) (ce_tup (ca_cons (ce_v 5) (ca_cons (ce_op op_addA ops_add (ce_v 5) (ce_int)) (ca_cons (ce_v 4) (ca_cons (ce_call (n := 4) (ok_d_law_entries X) (hr.mono (by decide)) tk (by rfl) X.g_d_law_entries X.F_d_law_entries.kp (bd_d_law_entries X) (an_cons (an_cons (an_cons (an_cons an_nil)))) (ca_cons (ce_v 1) (ca_cons (ce_v 4) (ca_cons (ce_v 5) (ca_cons (ce_v 3) (ca_nil)))))) (ca_nil)))))))
    (css_cons (cs_set (j := 7) sc_law.nd rfl (Or.inr rfl) (ce_op op_addA ops_add (ce_int) (ce_call (n := 2) (ok_d_law_draw X) (hr.mono (by decide)) tk (by rfl) X.g_d_law_draw X.F_d_law_draw.kp (bd_d_law_draw X) (an_cons (an_cons an_nil)) (ca_cons (ce_v 1) (ca_cons (ce_int) (ca_nil))))))
    (css_cons (cs_set (j := 8) sc_law.nd rfl (Or.inl rfl) (ce_callTy call_tuple_of fns_tuple (by rfl) X.b_tuple (by decide +kernel) (ca_cons (ce_lc (own := [("deed", 14)]) rfl sc_law.nd (ci_seq (ce_v 4)) (blkOk_by (N := ["script", "pool", "many", "entries", "deeds", "first", "book", "spread", "dating", "years", "place", "share", "chosen", "order", "deed"]) (sc := defScope s_law) (by decide +kernel)) (fun _ _ _ _ _ => cg_name (i := 14) sc_law.nd rfl (by first | exact Or.inl rfl | exact Or.inr rfl)) (fun _ _ _ _ _ => cts_nil) (fun _ _ _ _ _ => ce_op op_sub ops_sub (ce_op op_addA ops_add (ce_v 5) (ce_int)) (ce_call (n := 2) (ok_d_law_draw X) (hr.mono (by decide)) takes0 (by rfl) X.g_d_law_draw X.F_d_law_draw.kp (bd_d_law_draw X) (an_cons (an_cons an_nil)) (ca_cons (ce_v 1) (ca_cons (ce_v 7) (ca_nil)))))) (ca_nil))))
    (css_cons (cs_set (j := 9) sc_law.nd rfl (Or.inl rfl) (ce_dict0))
    (css_cons (cs_for (passes_of rfl) rfl (ci_range1 (by rfl) X.b_range (ca_cons (ce_v 2) (ca_nil))) (cg_name (i := 10) sc_law.nd rfl (by first | exact Or.inl rfl | exact Or.inr rfl)) (css_one (cs_put (ce_ix (ix_any hr.units) ops_ixA (ce_v 8) (ce_v 10) (fun _ _ => rfl)) (ce_v 9) (ce_ix (ix_any hr.units) ops_ixA (ce_v 4) (ce_v 10) (fun _ _ => rfl)) (set_any hr.units) puts_any)))
    (css_cons (cs_set (j := 11) sc_law.nd rfl (Or.inr rfl) (ce_op op_addA ops_add (ce_int) (ce_call (n := 2) (ok_d_law_draw X) (hr.mono (by decide)) tk (by rfl) X.g_d_law_draw X.F_d_law_draw.kp (bd_d_law_draw X) (an_cons (an_cons an_nil)) (ca_cons (ce_v 1) (ca_cons (ce_int) (ca_nil))))))
    (css_cons (cs_if (ct_cmp opA_gt ops_gt (ce_v 2) (ce_int) (nomark _)) (css_one (cs_set (j := 11) sc_law.nd rfl (Or.inr rfl) (ce_int))) (css_nil))
    (css_cons (cs_set (j := 12) sc_law.nd rfl (Or.inl rfl) (ce_callTy call_tuple_of fns_tuple (by rfl) X.b_tuple (by decide +kernel) (ca_cons (ce_lc (own := [("deed", 14)]) rfl sc_law.nd (ci_seq (ce_v 4)) (blkOk_by (N := ["script", "pool", "many", "entries", "deeds", "first", "book", "spread", "dating", "years", "place", "share", "chosen", "order", "deed"]) (sc := defScope s_law) (by decide +kernel)) (fun _ _ _ _ _ => cg_name (i := 14) sc_law.nd rfl (by first | exact Or.inl rfl | exact Or.inr rfl)) (fun _ _ _ _ _ => cts_one (ct_cmp opA_gt ops_gt (ce_call (n := 2) (ok_d_law_draw X) (hr.mono (by decide)) takes0 (by rfl) X.g_d_law_draw X.F_d_law_draw.kp (bd_d_law_draw X) (an_cons (an_cons an_nil)) (ca_cons (ce_v 1) (ca_cons (ce_v 11) (ca_nil)))) (ce_int) (nomark _))) (fun _ _ _ _ _ => ce_v 14)) (ca_nil))))
    (css_cons (cs_set (j := 13) sc_law.nd rfl (Or.inl rfl) (ce_call (n := 2) (ok_d_law_order X) (hr.mono (by decide)) tk (by rfl) X.g_d_law_order X.F_d_law_order.kp (bd_d_law_order X) (an_cons (an_cons an_nil)) (ca_cons (ce_v 12) (ca_cons (ce_v 9) (ca_nil)))))
    (css_cons (cs_if (ct_not (ct_tru (ce_call (n := 2) (ok_d_law_same X) (hr.mono (by decide)) tk (by rfl) X.g_d_law_same X.F_d_law_same.kp (bd_d_law_same X) (an_cons (an_cons an_nil)) (ca_cons (ce_call (n := 3) (ok_order_of X) (hr.mono (by decide)) tk (by rfl) X.g_order_of X.F_order_of.kp (bd_order_of X) (an_cons (an_cons (an_cons an_nil))) (ca_cons (ce_v 6) (ca_cons (ce_v 12) (ca_cons (ce_v 8) (ca_nil))))) (ca_cons (ce_v 13) (ca_nil)))))) (css_one (cs_ret (ce_bl))) (css_nil))
    (css_cons (cs_if (ct_not (ct_tru (ce_call (n := 3) (ok_d_law_asked X) (hr.mono (by decide)) tk (by rfl) X.g_d_law_asked X.F_d_law_asked.kp (bd_d_law_asked X) (an_cons (an_cons (an_cons an_nil))) (ca_cons (ce_v 1) (ca_cons (ce_v 12) (ca_cons (ce_v 13) (ca_nil))))))) (css_one (cs_ret (ce_bl))) (css_nil))
    (css_one (cs_ret (ce_call (n := 3) (ok_d_law_asked X) (hr.mono (by decide)) tk (by rfl) X.g_d_law_asked X.F_d_law_asked.kp (bd_d_law_asked X) (an_cons (an_cons (an_cons an_nil))) (ca_cons (ce_v 1) (ca_cons (ce_v 12) (ca_cons (ce_call (n := 2) (ok_d_law_arranged X) (hr.mono (by decide)) tk (by rfl) X.g_d_law_arranged X.F_d_law_arranged.kp (bd_d_law_arranged X) (an_cons (an_cons an_nil)) (ca_cons (ce_v 1) (ca_cons (ce_v 12) (ca_nil)))) (ca_nil)))))))))))))))))))))))) :
      PSs _ _ (Ts _ _ _ b_law))
end Law
namespace Law
open PySem Mi
/-- the pool at p, its cells at c -/
def Pool (c p : Nat) (s : Store) : Prop := ∃ (cs : List Int) (t : Nat), s[p]? = some (.lst [.loc c, .int t]) ∧ s[c]? = some (.lst (cs.map D.int)) ∧ 0 < cs.length ∧ cs.length ≤ 100 ∧ c ≠ p
def Kp2 (c p : Nat) (s s' : Store) : Prop := s.length ≤ s'.length ∧ ∀ l, l < s.length → l ≠ p → l ≠ c → s'[l]? = s[l]?
theorem Kp2.refl (c p : Nat) (s : Store) : Kp2 c p s s := ⟨Nat.le_refl _, fun _ _ _ _ => rfl⟩
theorem Kp2.trans {c p : Nat} {s s1 s2 : Store} (a : Kp2 c p s s1) (b : Kp2 c p s1 s2) : Kp2 c p s s2 :=
  ⟨Nat.le_trans a.1 b.1, fun l h n m => (b.2 l (Nat.lt_of_lt_of_le h a.1) n m).trans (a.2 l h n m)⟩
theorem Kp2.app (c p : Nat) (s r : Store) : Kp2 c p s (s ++ r) := ⟨by simp, fun l h _ _ => List.getElem?_append_left h⟩
theorem Kp2.get {c p : Nat} {s s' : Store} (a : Kp2 c p s s') {l : Nat} {x : Cell} (h : s[l]? = some x) (n : l ≠ p) (m : l ≠ c) : s'[l]? = some x := by
  rw [a.2 l (lt_of_get h) n m]
  exact h
theorem Pool.app {c p : Nat} {s : Store} (h : Pool c p s) (r : Store) : Pool c p (s ++ r) := by
  obtain ⟨cs, t, h1, h2, q⟩ := h
  exact ⟨cs, t, by rw [List.getElem?_append_left (lt_of_get h1)]; exact h1, by rw [List.getElem?_append_left (lt_of_get h2)]; exact h2, q⟩
theorem Pool.set {c p l : Nat} {s : Store} (h : Pool c p s) (n : l ≠ p) (m : l ≠ c) (x : Cell) : Pool c p (s.set l x) := by
  obtain ⟨cs, t, h1, h2, q⟩ := h
  exact ⟨cs, t, by rw [List.getElem?_set_ne n]; exact h1, by rw [List.getElem?_set_ne m]; exact h2, q⟩
theorem Pool.lt {c p : Nat} {s : Store} (h : Pool c p s) : p < s.length ∧ c < s.length := let ⟨_, _, h1, h2, _⟩ := h; ⟨lt_of_get h1, lt_of_get h2⟩
theorem pys_int : ∀ ns : List Int, pys0 (ns.map D.int) = some (ns.map PyData.int)
  | [] => rfl
  | x :: r => by
    show (py0 (.int x)).bind (fun a => (pys0 (r.map D.int)).map fun q => a :: q) = _
    rw [pys_int r]
    rfl
theorem lay_int : ∀ ns : List Int, PyData.canLayAll0 (ns.map PyData.int) = true ∧ PyData.depthAll (ns.map PyData.int) ≤ 10
  | [] => ⟨by simp [PyData.canLayAll0], by simp [PyData.depthAll]⟩
  | x :: r => by
    obtain ⟨a, b⟩ := lay_int r
    constructor
    · simp [PyData.canLayAll0, PyData.canLay0]
      simpa using a
    · simp only [List.map_cons, PyData.depthAll, PyData.depth] at b ⊢
      omega
theorem eq_nil {s : Store} {l k : Nat} {ns : List Int} (h : s[l]? = some (.lst (ns.map D.int))) (h2 : s[k]? = some (.lst [])) : dEq (.loc l) (.loc k) s = some (.bl ns.isEmpty, s) := by
  obtain ⟨a, b⟩ := lay_int ns
  have h1 : py1 s (.loc l) = some (.list (ns.map PyData.int)) := by simp [py1, h, pys_int]
  have h3 : py1 s (.loc k) = some (.list []) := by simp [py1, h2, pys0]
  have h4 : SeqAt.shaped (.list (ns.map PyData.int)) = true := by
    simp [SeqAt.shaped, PyData.canLay0, PyData.depth, a]
    omega
  have h5 : SeqAt.shaped (.list []) = true := by simp [SeqAt.shaped, PyData.canLay0, PyData.canLayAll0, PyData.depth, PyData.depthAll]
  have h6 : PyData.eqv (.list (ns.map PyData.int)) (.list []) = ns.isEmpty := by
    cases ns <;> simp [PyData.eqv, PyData.eqvAll]
  have h7 : dScal (.loc l) (.loc k) = none := rfl
  simp [dEq, dEqB, h7, h1, h3, h4, h5, h6]
theorem pool_spec (ns : List Int) (hn : ns.length ≤ 63) : ∃ c p s, m_d_law_pool [.fl (ns.map D.int)] [] = .ok (.loc p) s ∧ Pool c p s := by
  have e := lcL_map (gd := always) (g := gN 2) (t := tT) (e := le_d_law_pool_1) (env := [some (.fl (ns.map D.int)), none, none]) (s := []) trivial D.int D.int ns (fun x _ => by simp [le_d_law_pool_1]) (by omega)
  have w := eq_nil (s := [.lst (ns.map D.int), .lst []]) (l := 0) (k := 1) (ns := ns) rfl rfl
  cases ns with
  | nil =>
    simp at e w
    simp [m_d_law_pool, b_d_law_pool, e, w]
    exact ⟨2, _, _, ⟨rfl, rfl⟩, [24], 0, rfl, rfl, by simp, by simp, by omega⟩
  | cons n r =>
    simp at e w hn
    simp [m_d_law_pool, b_d_law_pool, e, w]
    exact ⟨0, _, _, ⟨rfl, rfl⟩, n :: r, 0, rfl, rfl, by simp, by simp; omega, by omega⟩
theorem draw_spec {c p : Nat} {s : Store} (h : Pool c p s) {many : Int} (h0 : 0 < many) (h1 : many < 1073741824) :
    ∃ k s', m_d_law_draw [.loc p, .int many] s = .ok (.int k) s' ∧ 0 ≤ k ∧ k < many ∧ Pool c p s' ∧ Kp2 c p s s' := by
  obtain ⟨cs, t, hp, hc, hn, hz, ne⟩ := h
  have w0 : dIxA (.loc p) (.int 0) s = some (.loc c, s) := by rw [dIxA_loc hp]; simp
  have w1 : dIxA (.loc p) (.int 1) s = some (.int t, s) := by rw [dIxA_loc hp]; simp
  obtain ⟨s1, hs1⟩ : ∃ s1, s1 = s.set p (.lst [.loc c, .int ((t : Int) + 1)]) := ⟨_, rfl⟩
  have w2 : pAny (.loc p) (.int 1) (.int ((t : Int) + 1)) s = some s1 := by
    rw [pAny_loc hp, hs1]
    exact pList_loc hp 1 (by simp) _
  have hc1 : s1[c]? = some (.lst (cs.map D.int)) := by rw [hs1, List.getElem?_set_ne (Ne.symm ne)]; exact hc
  have hp1 : s1[p]? = some (.lst [.loc c, .int ((t + 1 : Nat) : Int)]) := by rw [hs1]; exact get_set hp
  have w3 := dLen_loc hc1
  rw [List.length_map] at w3
  have k1 : Kp2 c p s s1 := by rw [hs1]; exact ⟨by simp, fun l _ n _ => List.getElem?_set_ne (Ne.symm n)⟩
  have hi : t % cs.length < cs.length := Nat.mod_lt _ hn
  have w4 : dIxA (.loc c) (.int ((t : Int) % (cs.length : Int))) s1 = some (.int (cs[t % cs.length]'hi), s1) := by
    rw [dIxA_loc hc1, show ((t : Int) % (cs.length : Int)) = ((t % cs.length : Nat) : Int) from rfl, L2.atI_nat (v := D.int (cs[t % cs.length]'hi)) (by simp [hi])]
    rfl
  generalize (cs[t % cs.length]'hi) = cell at w4
  have hn' : (0 : Int) < (cs.length : Int) := by omega
  have wm := fun s => dMod_int (t : Int) (cs.length : Int) s hn'
  by_cases hb : (1000000000000000000 : Int) ≤ cell
  · obtain ⟨s2, hs2⟩ : ∃ s2, s2 = s1.set c (.lst ((cs.map D.int).set (t % cs.length) (.int (cell / many)))) := ⟨_, rfl⟩
    have w5 : pAny (.loc c) (.int ((t : Int) % (cs.length : Int))) (.int (cell / many)) s1 = some s2 := by
      rw [pAny_loc hc1, hs2]
      exact pList_loc hc1 (t % cs.length) (by simpa using hi) _
    refine ⟨cell % many, s2, ?_, Int.emod_nonneg _ (by omega), Int.emod_lt_of_pos _ h0, ⟨cs.set (t % cs.length) (cell / many), t + 1, ?_, ?_, by simpa using hn, by simpa using hz, ne⟩, k1.trans ?_⟩
    · simp [m_d_law_draw, b_d_law_draw, w0, w1, w2, w3, wm, w4, w5, hb, h0, h1]
    · rw [hs2, List.getElem?_set_ne ne]; exact hp1
    · rw [hs2, get_set hc1, List.map_set]
    · rw [hs2]; exact ⟨by simp, fun l _ _ n => List.getElem?_set_ne (Ne.symm n)⟩
  · obtain ⟨one, ho⟩ : ∃ one, one = (cell * 57251 + (t : Int) * 6967 + 173) % 1000039 := ⟨_, rfl⟩
    have o0 : 0 ≤ one := by rw [ho]; exact Int.emod_nonneg _ (by omega)
    have o1 : one < 1000039 := by rw [ho]; exact Int.emod_lt_of_pos _ (by omega)
    have hm := fun s => dMul_r one one s ⟨by omega, by omega⟩
    rw [ho] at hm
    refine ⟨_, s1, ?_, Int.emod_nonneg ((one * one + one * 7243 + (t : Int) * 19) % 999983) (by omega), Int.emod_lt_of_pos _ h0, ⟨cs, t + 1, hp1, hc1, hn, hz, ne⟩, k1⟩
    simp [m_d_law_draw, b_d_law_draw, w0, w1, w2, w3, wm, w4, hb, h0, hm, ho]
/-- the pool's two cells -/
def IsPl (c : Nat) : Cell → Prop := fun x => ∃ t : Nat, x = .lst [.loc c, .int t]
def IsCs : Cell → Prop := fun x => ∃ cs : List Int, x = .lst (cs.map D.int) ∧ 0 < cs.length ∧ cs.length ≤ 100
theorem has_uniq {s : Store} {Z : Hs} {l : Nat} {P Q : Cell → Prop} (H : Has s Z) (h : (l, P) ∈ Z) (h2 : (l, Q) ∈ Z) : P = Q := by
  obtain ⟨i, hi, e1⟩ := List.getElem_of_mem h
  obtain ⟨j, hj, e2⟩ := List.getElem_of_mem h2
  have nd := List.pairwise_iff_getElem.mp H.1
  have a1 : (Z.map (·.1))[i]'(by simpa using hi) = l := by simp [e1]
  have a2 : (Z.map (·.1))[j]'(by simpa using hj) = l := by simp [e2]
  rcases Nat.lt_trichotomy i j with w | w | w
  · exact absurd (a1.trans a2.symm) (nd i j (by simpa using hi) (by simpa using hj) w)
  · subst w
    rw [e1] at e2
    exact (Prod.mk.inj e2).2
  · exact absurd (a2.trans a1.symm) (nd j i (by simpa using hj) (by simpa using hi) w)
section
variable {s : Store} {c p : Nat} {Z : Hs} {K : D → Store → Prop} {E : Ex → Store → Prop}
theorem draw_w (H : Has s Z) (hp : (p, IsPl c) ∈ Z) (hc : (c, IsCs) ∈ Z) {many : Int} (h0 : 0 < many) (h1 : many < 1073741824) (k : ∀ (j : Int) (s' : Store), 0 ≤ j → j < many → Has s' Z → K (.int j) s') : WR (m_d_law_draw [.loc p, .int many] s) K E := by
  obtain ⟨x, ex, t, rfl⟩ := H.get hp
  obtain ⟨y, ey, cs, rfl, c0, c1⟩ := H.get hc
  have ne : c ≠ p := fun e => by
    subst e
    rw [ex] at ey
    cases cs with
    | nil => simp at c0
    | cons z r => simp at ey
  obtain ⟨j, s', e, j0, j1, ⟨cs', t', h1', h2', q0, q1, _⟩, kp⟩ := draw_spec ⟨cs, t, ex, ey, c0, c1, ne⟩ h0 h1
  refine wr_eq e (k j s' j0 j1 ⟨H.1, fun z hz => ?_⟩)
  obtain ⟨l, P⟩ := z
  by_cases a : l = p
  · subst a
    rw [has_uniq H hz hp]
    exact ⟨_, h1', t', rfl⟩
  · by_cases b : l = c
    · subst b
      rw [has_uniq H hz hc]
      exact ⟨_, h2', cs', rfl, q0, q1⟩
    · obtain ⟨x, e1, e2⟩ := H.2 _ hz
      exact ⟨x, by rw [kp.2 l (lt_of_get e1) a b]; exact e1, e2⟩
end
theorem pool_w {ns : List Int} (hn : ns.length ≤ 63) : ∃ c p s, m_d_law_pool [.fl (ns.map D.int)] [] = .ok (.loc p) s ∧ Has s [(p, IsPl c), (c, IsCs)] := by
  obtain ⟨c, p, s, e, cs, t, h1, h2, c0, c1, ne⟩ := pool_spec ns hn
  refine ⟨c, p, s, e, by simp [Ne.symm ne], fun x hx => ?_⟩
  simp only [List.mem_cons, List.mem_nil_iff, or_false] at hx
  rcases hx with rfl | rfl
  · exact ⟨_, h1, t, rfl⟩
  · exact ⟨_, h2, cs, rfl, c0, c1⟩
end Law
namespace Law
open PySem Mi
local macro_rules | `(tactic| ac_rfl) => `(tactic| repeat (first | exact List.mem_cons_self | assumption | apply List.mem_cons_of_mem | apply List.mem_append_right))
local macro_rules | `(tactic| eq_refl) => `(tactic| first
  | ((with_reducible refine wr_go ?_); first
    | ((with_reducible refine w_Vg ?_); first
      | with_reducible refine w_V0 ?_
      | with_reducible refine w_V1 ?_
      | with_reducible refine w_V2 ?_
      | with_reducible refine w_V3 ?_
      | with_reducible refine w_V4 ?_
      | with_reducible refine w_V5 ?_
      | with_reducible refine w_V6 ?_
      | with_reducible refine w_V7 ?_
      | with_reducible refine w_V8 ?_
      | with_reducible refine w_V9 ?_
      | with_reducible refine w_V10 ?_
      | with_reducible refine w_V11 ?_
      | with_reducible refine w_V12 ?_
      | with_reducible refine w_V13 ?_
      | with_reducible refine w_V14 ?_
      | with_reducible refine w_V15 ?_
      | with_reducible refine w_V16 ?_
      | with_reducible refine w_V17 ?_
      | with_reducible refine w_V18 ?_
      | with_reducible refine w_V19 ?_
      | with_reducible refine w_V20 ?_
      | with_reducible refine w_V21 ?_
      | with_reducible refine w_V22 ?_
      | with_reducible refine w_V23 ?_
      | with_reducible refine w_V24 ?_
      | with_reducible refine w_V25 ?_
      | with_reducible refine w_V26 ?_
      | with_reducible refine w_V27 ?_
      | with_reducible refine w_V28 ?_
      | with_reducible refine w_V29 ?_
      | with_reducible refine w_V30 ?_
      | with_reducible refine w_V31 ?_
      | refine w_V (by exact rfl) ?_)
    | with_reducible refine w_C ?_
    | with_reducible refine w_cons ?_
    | with_reducible refine w_nil ?_
    | with_reducible refine w_e2 ?_
    | with_reducible refine w_call ?_
    | with_reducible refine w_tV ?_
    | with_reducible refine w_tup ?_
    | with_reducible refine w_e1 ?_
    | with_reducible refine w_fn ?_
    | with_reducible refine w_tru ?_
    | with_reducible refine w_and ?_
    | with_reducible refine w_or ?_
    | with_reducible refine w_not ?_
    | with_reducible refine w_lst ?_
    | with_reducible refine w_mt ?_
    | with_reducible refine w_mt0 ?_
    | with_reducible refine w_rng ?_
    | with_reducible refine w_rng2 ?_
    | with_reducible refine w_iSeq ?_
    | with_reducible refine w_eif ?_
    | with_reducible refine w_eAnd ?_
    | with_reducible refine w_eOr ?_
    | with_reducible refine w_eNot ?_
    | with_reducible refine w_chain ?_
    | with_reducible refine w_oN ?_
    | with_reducible refine w_oS ?_
    | with_reducible refine w_sl ?_
    | with_reducible refine w_lc ?_
    | with_reducible refine w_enm ?_
    | with_reducible refine w_dc ?_
    | ((with_reducible apply w_dict0); (focus assumption); intro l s hl H)
    | with_reducible refine w_tT ?_
    | ((with_reducible refine w_fnM ?_); simp only [List.map_cons, List.map_nil, List.cons_append, List.nil_append, List.replicate_succ, List.replicate_zero, Nat.reduceSub]))
  | ((with_reducible refine wo_go ?_); first
    | with_reducible refine o_max ?_
    | with_reducible refine o_min ?_
    | with_reducible refine o_lenT ?_
    | ((with_reducible apply o_lenL); (focus assumption); (focus (repeat (first | exact List.mem_cons_self | apply List.mem_cons_of_mem))))
    | ((with_reducible apply o_tupL); (focus assumption); (focus (repeat (first | exact List.mem_cons_self | apply List.mem_cons_of_mem))))
    | ((with_reducible apply o_sumL); (focus assumption); (focus (repeat (first | exact List.mem_cons_self | apply List.mem_cons_of_mem))))
    | ((with_reducible apply o_mul); (focus omega))
    | ((with_reducible apply o_div); (focus omega))
    | ((with_reducible apply o_mod); (focus omega))
    | ((with_reducible apply o_pow); (focus (first | omega | decide)))
    | ((with_reducible apply o_ixT); (focus (first | exact atI_zero _ _ | exact atI_one _ _ _ | exact atI_two _ _ _ _ | exact atI_three _ _ _ _ _)))
    | ((with_reducible apply o_ixL); (focus assumption); (focus (repeat (first | exact List.mem_cons_self | apply List.mem_cons_of_mem))); (focus (first | exact atI_zero _ _ | exact atI_one _ _ _ | exact atI_two _ _ _ _ | exact atI_three _ _ _ _ _)))
    | with_reducible refine o_slT ?_
    | with_reducible refine o_slA ?_
    | with_reducible refine o_iT1 ?_
    | with_reducible refine o_iT2 ?_
    | with_reducible refine o_iT3 ?_
    | with_reducible refine o_iS1 ?_
    | with_reducible refine o_iS2 ?_
    | with_reducible refine o_iS3 ?_
    | with_reducible refine o_iI1 ?_
    | with_reducible refine o_iI2 ?_
    | with_reducible refine o_iI3 ?_
    | with_reducible refine o_iB1 ?_
    | ((with_reducible apply o_ixA); (focus (first | exact atI_zero _ _ | exact atI_one _ _ _ | exact atI_two _ _ _ _ | exact atI_three _ _ _ _ _)))
    | ((with_reducible apply o_ixAL); (focus assumption); (focus (repeat (first | exact List.mem_cons_self | apply List.mem_cons_of_mem))); (focus (first | exact atI_zero _ _ | exact atI_one _ _ _ | exact atI_two _ _ _ _ | exact atI_three _ _ _ _ _)))
    | ((with_reducible apply o_listAT); (focus assumption); intro l s hl H)
    | ((with_reducible apply o_listT); (focus assumption); intro l s hl H)
    | refine wo_some ?_)
  | ((with_reducible refine wi_go ?_); first
    | with_reducible refine wi_n ?_
    | with_reducible refine wi_t ?_
    | with_reducible refine wi_f ?_
    | ((with_reducible apply wi_yes); (focus omega))
    | ((with_reducible apply wi_no); (focus omega)))
  | ((with_reducible refine bd_go ?_); first
    | ((with_reducible refine bd_nx ?_); try simp only [List.set_cons_succ, List.set_cons_zero])
    | with_reducible refine bd_rt ?_
    | with_reducible refine bd_ct ?_
    | with_reducible refine bd_bk ?_
    | with_reducible refine bd_ex ?_)
  | with_reducible refine w_seq ?_
  | with_reducible refine w_set ?_
  | with_reducible refine wb ?_
  | ((with_reducible apply tupk); (focus exact Nat.le_of_ble_eq_true rfl))
  | with_reducible refine w_sNil ?_
  | with_reducible refine w_ret ?_
  | with_reducible refine w_expr ?_
  | with_reducible refine tru_b ?_
  | with_reducible refine tru_n ?_
  | with_reducible refine tru_i ?_
  | with_reducible refine tru_t ?_
  | ((with_reducible apply tru_l); (focus assumption); (focus (repeat (first | exact List.mem_cons_self | apply List.mem_cons_of_mem))))
  | with_reducible refine is_tup ?_
  | with_reducible refine enmk ?_
  | with_reducible refine is_str ?_
  | ((with_reducible apply is_lstH); (focus assumption); (focus (repeat (first | exact List.mem_cons_self | apply List.mem_cons_of_mem))))
  | ((with_reducible apply mt_lst); (focus assumption); (focus (repeat (first | exact List.mem_cons_self | apply List.mem_cons_of_mem))))
  | with_reducible refine w_for ?_
  | with_reducible refine mt_str ?_
  | with_reducible refine oi ?_
  | with_reducible refine w_asg ?_
  | with_reducible refine w_asgL ?_
  | with_reducible refine w_put ?_
  | ((with_reducible refine w_augg ?_); refine w_aug (by exact rfl) ?_)
  | with_reducible refine w_raise ?_
  | with_reducible refine w_retN ?_
  | with_reducible refine w_brk ?_
  | with_reducible refine w_cnt ?_
  | with_reducible refine tn_nx ?_
  | with_reducible refine nx_nx ?_
  | with_reducible refine tn_ct ?_
  | with_reducible refine tn_bk ?_
  | with_reducible refine tn_rt ?_
  | with_reducible refine tn_ex ?_
  | with_reducible refine fin_rt ?_
  | with_reducible refine fin_nx ?_
  | with_reducible refine fin_ex ?_
  | ((with_reducible apply newl); (focus assumption); (focus exact Nat.le_of_ble_eq_true rfl); intro l s hl H))
local macro_rules | `(tactic| subst_eqs) => `(tactic| repeat eq_refl)
/-! ### things -/
inductive Wd (X : Hs) : D → Prop where
  | non : Wd X .non
  | bl (b : Bool) : Wd X (.bl b)
  | int (i : Int) : Wd X (.int i)
  | str {z : Str} (h : Tk z) : Wd X (.str z)
  | loc {l : Nat} {P : Cell → Prop} (h : (l, P) ∈ X) (k : ∀ c, P c → IsL c) : Wd X (.loc l)
  | tup {xs : List D} (h : ∀ x ∈ xs, Wd X x) : Wd X (.tup xs)
theorem Wd.mono {X Y : Hs} {d : D} (h : Wd X d) (k : ∀ y ∈ X, y ∈ Y) : Wd Y d := by
  induction h with
  | non => exact .non
  | bl b => exact .bl b
  | int i => exact .int i
  | str z => exact .str z
  | loc h q => exact .loc (k _ h) q
  | tup h ih => exact .tup ih
/-- its size -/
def Sml (d : D) : Prop := ∀ L, d = .tup L → L.length ≤ 200 ∧ ∀ x ∈ L, ∀ xs, x = .tup xs → xs.length ≤ 200
def isT : D → Bool
  | .tup _ => true
  | _ => false
def isS : D → Bool
  | .str _ => true
  | _ => false
section
variable {s : Store} {Z : Hs} {K : D → Store → Prop} {E : Ex → Store → Prop} {d : D}
theorem o_isT (H : Has s Z) (w : Wd Z d) (k : K (.bl (isT d)) s) : WO (dIsi "tuple" d s) K := wo_eq (by
  cases w with
  | loc h q =>
    obtain ⟨c, e, hc⟩ := H.get h
    obtain ⟨xs, rfl⟩ := q c hc
    simp [dIsi, tyN, e, isT]
  | _ => rfl) k
theorem o_isS (H : Has s Z) (w : Wd Z d) (k : K (.bl (isS d)) s) : WO (dIsi "str" d s) K := wo_eq (by
  cases w with
  | loc h q =>
    obtain ⟨c, e, hc⟩ := H.get h
    obtain ⟨xs, rfl⟩ := q c hc
    simp [dIsi, tyN, e, isS]
  | _ => rfl) k
end
/-! ### what a thing tells -/
def strsZ : List D → Option (List Str)
  | [] => some []
  | .str z :: r => (strsZ r).map (z :: ·)
  | _ :: _ => none
def rowOf : D → Option (List Str)
  | .tup xs => strsZ xs
  | _ => none
def rowsZ : List D → Option (List (List Str))
  | [] => some []
  | d :: L => (rowOf d).bind fun r => (rowsZ L).map (r :: ·)
theorem strsZ_eq : ∀ {xs : List D} {r : List Str}, strsZ xs = some r → xs = r.map D.str
  | [], _, e => by cases e; rfl
  | .str z :: xs, _, e => by
    unfold strsZ at e
    cases q : strsZ xs with
    | none => rw [q] at e; cases e
    | some r => rw [q] at e; cases e; rw [strsZ_eq q]; rfl
  | .non :: _, _, e => by cases e
  | .bl _ :: _, _, e => by cases e
  | .int _ :: _, _, e => by cases e
  | .tup _ :: _, _, e => by cases e
  | .loc _ :: _, _, e => by cases e
  | .fl _ :: _, _, e => by cases e
  | .exv _ _ _ _ :: _, _, e => by cases e
theorem strsZ_map : ∀ r : List Str, strsZ (r.map D.str) = some r
  | [] => rfl
  | z :: r => by show (strsZ (r.map D.str)).map (z :: ·) = _; rw [strsZ_map r]; rfl
theorem rowsZ_eq : ∀ {L : List D} {R : List (List Str)}, rowsZ L = some R → L = R.map rowD
  | [], _, e => by cases e; rfl
  | d :: L, _, e => by
    unfold rowsZ at e
    cases q : rowOf d with
    | none => rw [q] at e; cases e
    | some r =>
      rw [q, Option.bind_some] at e
      cases q2 : rowsZ L with
      | none => rw [q2] at e; cases e
      | some R =>
        rw [q2] at e
        cases e
        rw [List.map_cons, ← rowsZ_eq q2]
        congr 1
        cases d <;> first | (cases q; done) | exact congrArg D.tup (strsZ_eq q)
theorem rowsZ_map : ∀ R : List (List Str), rowsZ (R.map rowD) = some R
  | [] => rfl
  | r :: R => by
    show (rowOf (rowD r)).bind (fun q => (rowsZ (R.map rowD)).map (q :: ·)) = _
    rw [rowsZ_map R, show rowOf (rowD r) = some r from strsZ_map r]
    rfl
/-- a row that is as it must be -/
def Good (r : List Str) : Prop := r ≠ [] ∧ r.Pairwise fun x y => cp x < cp y
open Classical in
noncomputable def fb : Nat → List (List Str) → Option Int
  | _, [] => none
  | i, r :: R => if Good r then fb (i + 1) R else some (i : Int)
open Classical in
noncomputable def jud (ch : List Str) : D → Option Int
  | .tup L => match rowsZ L with
    | none => some (-1)
    | some R => if R.flatten.Perm ch then fb 0 R else some (-1)
  | _ => some (-1)
def lenD : D → Int
  | .tup L => L.length
  | _ => 0
theorem fb_all : ∀ {R : List (List Str)} {i : Nat}, (∀ r ∈ R, Good r) → fb i R = none
  | [], _, _ => rfl
  | r :: R, i, h => by rw [fb, if_pos (h r (by simp)), fb_all fun r hr => h r (by simp [hr])]
theorem fb_at : ∀ {R : List (List Str)} {i n : Nat} (hn : n < R.length), (∀ j (h : j < n), Good (R[j]'(by omega))) → ¬ Good R[n] → fb i R = some ((i + n : Nat) : Int)
  | r :: R, i, 0, hn, h, b => by
    have b : ¬ Good r := b
    rw [fb, if_neg b]; rfl
  | r :: R, i, n + 1, hn, h, b => by
    have g : Good r := h 0 (by omega)
    rw [fb, if_pos g, fb_at (R := R) (i := i + 1) (n := n) (by simpa using hn) (fun j hj => h (j + 1) (by omega)) b]
    congr 2
    omega
theorem jud_no {ch : List Str} {L : List D} (h : ∀ R : List (List Str), L ≠ R.map rowD) : jud ch (.tup L) = some (-1) := by
  cases q : rowsZ L with
  | none => simp only [jud, q]
  | some R => exact absurd (rowsZ_eq q) (h R)
theorem jud_rows (ch : List Str) (R : List (List Str)) [Decidable (R.flatten.Perm ch)] : jud ch (.tup (R.map rowD)) = if R.flatten.Perm ch then fb 0 R else some (-1) := by
  simp only [jud, rowsZ_map]
  congr
/-! ### check_order -/
section
variable {s : Store} {Z : Hs} {K : D → Store → Prop} {E : Ex → Store → Prop} {d : D} {A : List Str} {l : Nat}
theorem o_srtL (H : Has s Z) (hm : (l, Ls (A.map D.str)) ∈ Z) (k : ∀ l s', s.length ≤ l → Has s' ((l, Ls ((srtZ A).map D.str)) :: Z) → K (.loc l) s') : WO (dSortedD [.loc l] s) K := by
  obtain ⟨h1, h2⟩ := srtZ_ok A
  refine wo_eq (d := .loc s.length) (s := s ++ [.lst ((srtZ A).map D.str)]) ?_ (k _ _ (Nat.le_refl _) (H.new _))
  have e := H.lst hm
  simp [dSortedD, dicOf, e, dSorted, seqOf, lstOf, h1, h2]
theorem o_srtT (H : Has s Z) (k : ∀ l s', s.length ≤ l → Has s' ((l, Ls ((srtZ A).map D.str)) :: Z) → K (.loc l) s') : WO (dSortedD [.tup (A.map D.str)] s) K := by
  obtain ⟨h1, h2⟩ := srtZ_ok A
  refine wo_eq (d := .loc s.length) (s := s ++ [.lst ((srtZ A).map D.str)]) ?_ (k _ _ (Nat.le_refl _) (H.new _))
  simp [dSortedD, dicOf, dSorted, seqOf, h1, h2]
theorem take_app {xs : List D} {i : Nat} {x : D} (h : xs[i]? = some x) : xs.take (i + 1) = xs.take i ++ [x] := by rw [List.take_succ, h]; rfl
theorem map_split {α : Type} {f : α → D} {L : List D} {R : List α} {i : Nat} {x : D} (e : L.take i = R.map f) (hx : L[i]? = some x) (hn : ∀ a, x ≠ f a) : ∀ R' : List α, L ≠ R'.map f := fun R' e' => by
  rw [e', List.getElem?_map] at hx
  cases q : R'[i]? with
  | none => rw [q] at hx; cases hx
  | some a => rw [q] at hx; exact hn a (Option.some.inj hx).symm
theorem check_w {ch : List Str} (H : Has s Z) (w : Wd Z d) (sm : Sml d) (hT : ∀ z ∈ ch, Tk z) (nd : ch.Nodup) (k : ∀ s', Has s' Z → jud ch d = none → K (.int (lenD d)) s') (ke : ∀ i s', Has s' Z → jud ch d = some i → E ⟨"BadOrder", [("at", .int i)]⟩ s') : WR (m_check_order [rowD ch, d] s) K E := by
  unfold m_check_order b_check_order
  subst_eqs
  refine w_if ?_
  subst_eqs
  refine o_isT H w ?_
  subst_eqs
  by_cases it : isT d = true
  · rw [it]
    subst_eqs
    obtain ⟨L, rfl⟩ : ∃ L, d = .tup L := by cases d <;> first | (cases it; done) | exact ⟨_, rfl⟩
    clear it
    have wL : ∀ x ∈ L, Wd Z x := by cases w with | tup h => exact h
    obtain ⟨sl, sx⟩ := sm L rfl
    rename_i l s hl H
    subst_eqs
    refine w_forA (fun i env s => ∃ (R : List (List Str)) (o3 o4 o5 : Option D), L.take i = R.map rowD ∧ R.flatten.length ≤ 200 * i ∧ env = [some (rowD ch), some (.tup L), some (.loc l), o3, o4, o5] ∧ Has s ((l, Ls (R.flatten.map D.str)) :: Z)) ⟨[], _, _, _, rfl, by simp, rfl, H⟩ (fun _ _ _ _ => trivial) ?_ ?_
    · rintro i x env s hx ⟨R, o3, o4, o5, e, rl, rfl, H⟩
      have hi : i < L.length := (List.getElem?_eq_some_iff.mp hx).1
      have xm : x ∈ L := List.mem_of_getElem? hx
      rw [turn_gN]
      simp only [List.set_cons_succ, List.set_cons_zero]
      unfold bl_check_order_3
      subst_eqs
      refine w_if ?_
      subst_eqs
      refine o_isT H ((wL x xm).mono fun y hy => List.mem_cons_of_mem _ hy) ?_
      subst_eqs
      by_cases it : isT x = true
      · rw [it]
        subst_eqs
        obtain ⟨xs, rfl⟩ : ∃ L, x = .tup L := by cases x <;> first | (cases it; done) | exact ⟨_, rfl⟩
        clear it
        have wx : ∀ x ∈ xs, Wd Z x := by cases wL _ xm with | tup h => exact h
        have xl := sx _ xm xs rfl
        subst_eqs
        refine w_forA (fun j env s => ∃ (r : List Str) (o4 o5 : Option D), xs.take j = r.map D.str ∧ r.length ≤ j ∧ env = [some (rowD ch), some (.tup L), some (.loc l), some (.tup xs), o4, o5] ∧ Has s ((l, Ls ((R.flatten ++ r).map D.str)) :: Z)) ⟨[], _, _, rfl, by simp, rfl, by simpa using H⟩ (fun _ _ _ _ => trivial) ?_ ?_
        · rintro j y env s hy ⟨r, o4, o5, e2, rl2, rfl, H⟩
          have hj : j < xs.length := (List.getElem?_eq_some_iff.mp hy).1
          have ym : y ∈ xs := List.mem_of_getElem? hy
          rw [turn_gN]
          simp only [List.set_cons_succ, List.set_cons_zero]
          unfold bl_check_order_2
          subst_eqs
          refine w_if ?_
          subst_eqs
          refine o_isS H ((wx y ym).mono fun y hy => List.mem_cons_of_mem _ hy) ?_
          subst_eqs
          by_cases is : isS y = true
          · rw [is]
            subst_eqs
            obtain ⟨z, rfl⟩ : ∃ z, y = .str z := by cases y <;> first | (cases is; done) | exact ⟨_, rfl⟩
            refine o_app H 0 rfl (by rw [List.length_map, List.length_append]; omega) fun s H => ?_
            subst_eqs
            refine ⟨r ++ [z], _, _, by rw [take_app hy, e2]; simp, by simp; omega, rfl, ?_⟩
            simpa using H
          · rw [show isS y = false by simpa using is]
            subst_eqs
            refine ⟨rfl, ?_⟩
            subst_eqs
            refine ke (-1) s H.drop (jud_no (map_split e hx fun r' er => ?_))
            have e3 : xs = r'.map D.str := by injection er
            rw [e3, List.getElem?_map] at hy
            cases q : r'[j]? with
            | none => rw [q] at hy; cases hy
            | some z => rw [q] at hy; cases hy; exact is rfl
        · rintro env s ⟨r, o4, o5, e2, rl2, rfl, H⟩
          rw [List.take_length] at e2
          change xs = r.map D.str at e2
          change r.length ≤ xs.length at rl2
          subst_eqs
          refine ⟨R ++ [r], _, _, _, by rw [take_app hx, e, e2]; simp, by rw [List.flatten_append, List.length_append]; simp only [List.flatten_cons, List.flatten_nil, List.append_nil]; omega, rfl, ?_⟩
          simpa using H
      · rw [show isT x = false by simpa using it]
        subst_eqs
        refine ⟨rfl, ?_⟩
        subst_eqs
        refine ke (-1) s H.drop (jud_no (map_split e hx fun r' er => ?_))
        rw [er] at it
        exact it rfl
    · rintro env s ⟨R, o3, o4, o5, e, rl, rfl, H⟩
      rw [List.take_length] at e
      change L = R.map rowD at e
      subst e
      have tR : ∀ z ∈ R.flatten, Tk z := fun z hz => by
        obtain ⟨r, hr, hz⟩ := List.mem_flatten.mp hz
        have := wL (rowD r) (List.mem_map.mpr ⟨r, hr, rfl⟩)
        cases this with
        | tup h =>
          have := h (.str z) (List.mem_map.mpr ⟨z, hz, rfl⟩)
          cases this with
          | str h => exact h
      subst_eqs
      refine w_if ?_
      subst_eqs
      refine o_srtL H (by ac_rfl) fun l1 s _ H => ?_
      subst_eqs
      refine o_srtT H fun l2 s _ H => ?_
      subst_eqs
      refine wo_eq (ne_strs (H.lst (by ac_rfl)) (H.lst (by ac_rfl)) (fun z hz => tR z ((srtZ_perm _).mem_iff.mp hz)) fun z hz => hT z ((srtZ_perm _).mem_iff.mp hz)) ?_
      subst_eqs
      refine wi_d (fun c => ?_) (fun c => ?_)
      · rw [srtZ_eq] at c
        have nf : R.flatten.Nodup := c.nodup_iff.mpr nd
        subst_eqs
        refine w_forA (fun i env s => ∃ (o3 o4 o5 : Option D) (Y : Hs), (∀ j (h : j < i) (h2 : j < R.length), Good R[j]) ∧ env = [some (rowD ch), some (.tup (R.map rowD)), some (.loc l), o3, o4, o5] ∧ Has s (Y ++ Z)) ⟨_, _, _, [_, _, _], by intro j h; omega, rfl, H⟩ (fun _ _ _ _ => trivial) ?_ ?_
        · rintro i x env s hx ⟨o3, o4, o5, Y, g, rfl, H⟩
          obtain ⟨r0, hr0, rfl⟩ := enm_get hx
          obtain ⟨r, hr, rfl⟩ := map_get hr0
          obtain ⟨hi, er⟩ := List.getElem?_eq_some_iff.mp hr
          have ndr : r.Nodup := (List.pairwise_flatten.mp nf).1 r (List.mem_of_getElem? hr)
          simp only [turn_gT, gsC, gsN, gN, List.length_cons, List.length_nil, if_pos, Option.bind_some, List.set_cons_succ, List.set_cons_zero]
          unfold bl_check_order_1
          refine w_if ?_
          subst_eqs
          refine wi_d (fun c0 => ?_) (fun c0 => ?_)
          · subst_eqs
            refine ⟨rfl, ?_⟩
            subst_eqs
            have re : r = [] := by simpa using c0
            refine ke i s (H.weak (List.sublist_append_right _ _)) ?_
            rw [jud_rows, if_pos c, fb_at (n := i) hi (fun j hj => g j hj (by omega)) (by rw [er]; exact fun q => q.1 re)]
            simp
          · subst_eqs
            rename_i l3 s hl3 H
            refine o_srtT H fun l4 s _ H => ?_
            subst_eqs
            have hrT : ∀ z ∈ r, Tk z := fun z hz => tR z (List.mem_flatten.mpr ⟨r, List.mem_of_getElem? hr, hz⟩)
            refine wo_eq (ne_strs (A := r) (H.lst (by ac_rfl)) (H.lst (by ac_rfl)) hrT fun z hz => hrT z ((srtZ_perm _).mem_iff.mp hz)) ?_
            subst_eqs
            refine wi_d (fun c1 => ?_) (fun c1 => ?_)
            · rw [srtZ_fix ndr] at c1
              subst_eqs
              refine ⟨_, _, _, _ :: _ :: Y, fun j h h2 => ?_, rfl, H⟩
              rcases Nat.lt_or_ge j i with q | q
              · exact g j q h2
              · obtain rfl : j = i := by omega
                rw [er]
                exact ⟨fun q => c0 (by rw [q]; rfl), c1⟩
            · rw [srtZ_fix ndr] at c1
              subst_eqs
              refine ⟨rfl, ?_⟩
              subst_eqs
              refine ke i s (H.weak (List.sublist_append_right (_ :: _ :: Y) _)) ?_
              rw [jud_rows, if_pos c, fb_at (n := i) hi (fun j hj => g j hj (by omega)) (by rw [er]; exact fun q => c1 q.2)]
              simp
        · rintro env s ⟨o3, o4, o5, Y, g, rfl, H⟩
          rw [enm_len, List.length_map] at g
          subst_eqs
          refine k s (H.weak (List.sublist_append_right _ _)) ?_
          rw [jud_rows, if_pos c]
          refine fb_all fun r hr => ?_
          obtain ⟨j, hj, e⟩ := List.getElem_of_mem hr
          exact e ▸ g j hj hj
      · rw [srtZ_eq] at c
        subst_eqs
        refine ⟨rfl, ?_⟩
        subst_eqs
        refine ke (-1) s (H.weak (List.sublist_append_right [_, _, _] _)) ?_
        rw [jud_rows, if_neg c]
  · rw [show isT d = false by simpa using it]
    subst_eqs
    refine ⟨rfl, ?_⟩
    subst_eqs
    refine ke (-1) s H ?_
    cases d <;> first | rfl | exact absurd rfl it
end
end Law
namespace Law
open PySem Mi
local macro_rules | `(tactic| ac_rfl) => `(tactic| repeat (first | exact List.mem_cons_self | assumption | apply List.mem_cons_of_mem | apply List.mem_append_right))
local macro_rules | `(tactic| eq_refl) => `(tactic| first
  | ((with_reducible refine wr_go ?_); first
    | ((with_reducible refine w_Vg ?_); first
      | with_reducible refine w_V0 ?_
      | with_reducible refine w_V1 ?_
      | with_reducible refine w_V2 ?_
      | with_reducible refine w_V3 ?_
      | with_reducible refine w_V4 ?_
      | with_reducible refine w_V5 ?_
      | with_reducible refine w_V6 ?_
      | with_reducible refine w_V7 ?_
      | with_reducible refine w_V8 ?_
      | with_reducible refine w_V9 ?_
      | with_reducible refine w_V10 ?_
      | with_reducible refine w_V11 ?_
      | with_reducible refine w_V12 ?_
      | with_reducible refine w_V13 ?_
      | with_reducible refine w_V14 ?_
      | with_reducible refine w_V15 ?_
      | with_reducible refine w_V16 ?_
      | with_reducible refine w_V17 ?_
      | with_reducible refine w_V18 ?_
      | with_reducible refine w_V19 ?_
      | with_reducible refine w_V20 ?_
      | with_reducible refine w_V21 ?_
      | with_reducible refine w_V22 ?_
      | with_reducible refine w_V23 ?_
      | with_reducible refine w_V24 ?_
      | with_reducible refine w_V25 ?_
      | with_reducible refine w_V26 ?_
      | with_reducible refine w_V27 ?_
      | with_reducible refine w_V28 ?_
      | with_reducible refine w_V29 ?_
      | with_reducible refine w_V30 ?_
      | with_reducible refine w_V31 ?_
      | refine w_V (by exact rfl) ?_)
    | with_reducible refine w_C ?_
    | with_reducible refine w_cons ?_
    | with_reducible refine w_nil ?_
    | with_reducible refine w_e2 ?_
    | with_reducible refine w_call ?_
    | with_reducible refine w_tV ?_
    | with_reducible refine w_tup ?_
    | with_reducible refine w_e1 ?_
    | with_reducible refine w_fn ?_
    | with_reducible refine w_tru ?_
    | with_reducible refine w_and ?_
    | with_reducible refine w_or ?_
    | with_reducible refine w_not ?_
    | with_reducible refine w_lst ?_
    | with_reducible refine w_mt ?_
    | with_reducible refine w_mt0 ?_
    | with_reducible refine w_rng ?_
    | with_reducible refine w_rng2 ?_
    | with_reducible refine w_iSeq ?_
    | with_reducible refine w_eif ?_
    | with_reducible refine w_eAnd ?_
    | with_reducible refine w_eOr ?_
    | with_reducible refine w_eNot ?_
    | with_reducible refine w_chain ?_
    | with_reducible refine w_oN ?_
    | with_reducible refine w_oS ?_
    | with_reducible refine w_sl ?_
    | with_reducible refine w_lc ?_
    | with_reducible refine w_enm ?_
    | with_reducible refine w_dc ?_
    | ((with_reducible apply w_dict0); (focus assumption); intro l s hl H)
    | with_reducible refine w_tT ?_
    | ((with_reducible refine w_fnM ?_); simp only [List.map_cons, List.map_nil, List.cons_append, List.nil_append, List.replicate_succ, List.replicate_zero, Nat.reduceSub]))
  | ((with_reducible refine wo_go ?_); first
    | with_reducible refine o_max ?_
    | with_reducible refine o_min ?_
    | with_reducible refine o_lenT ?_
    | ((with_reducible apply o_lenL); (focus assumption); (focus (repeat (first | exact List.mem_cons_self | apply List.mem_cons_of_mem))))
    | ((with_reducible apply o_tupL); (focus assumption); (focus (repeat (first | exact List.mem_cons_self | apply List.mem_cons_of_mem))))
    | ((with_reducible apply o_sumL); (focus assumption); (focus (repeat (first | exact List.mem_cons_self | apply List.mem_cons_of_mem))))
    | ((with_reducible apply o_mul); (focus omega))
    | ((with_reducible apply o_div); (focus omega))
    | ((with_reducible apply o_mod); (focus omega))
    | ((with_reducible apply o_pow); (focus (first | omega | decide)))
    | ((with_reducible apply o_ixT); (focus (first | exact atI_zero _ _ | exact atI_one _ _ _ | exact atI_two _ _ _ _ | exact atI_three _ _ _ _ _)))
    | ((with_reducible apply o_ixL); (focus assumption); (focus (repeat (first | exact List.mem_cons_self | apply List.mem_cons_of_mem))); (focus (first | exact atI_zero _ _ | exact atI_one _ _ _ | exact atI_two _ _ _ _ | exact atI_three _ _ _ _ _)))
    | with_reducible refine o_slT ?_
    | with_reducible refine o_slA ?_
    | with_reducible refine o_iT1 ?_
    | with_reducible refine o_iT2 ?_
    | with_reducible refine o_iT3 ?_
    | with_reducible refine o_iS1 ?_
    | with_reducible refine o_iS2 ?_
    | with_reducible refine o_iS3 ?_
    | with_reducible refine o_iI1 ?_
    | with_reducible refine o_iI2 ?_
    | with_reducible refine o_iI3 ?_
    | with_reducible refine o_iB1 ?_
    | ((with_reducible apply o_ixA); (focus (first | exact atI_zero _ _ | exact atI_one _ _ _ | exact atI_two _ _ _ _ | exact atI_three _ _ _ _ _)))
    | ((with_reducible apply o_ixAL); (focus assumption); (focus (repeat (first | exact List.mem_cons_self | apply List.mem_cons_of_mem))); (focus (first | exact atI_zero _ _ | exact atI_one _ _ _ | exact atI_two _ _ _ _ | exact atI_three _ _ _ _ _)))
    | ((with_reducible apply o_listAT); (focus assumption); intro l s hl H)
    | ((with_reducible apply o_listT); (focus assumption); intro l s hl H)
    | refine wo_some ?_)
  | ((with_reducible refine wi_go ?_); first
    | with_reducible refine wi_n ?_
    | with_reducible refine wi_t ?_
    | with_reducible refine wi_f ?_
    | ((with_reducible apply wi_yes); (focus omega))
    | ((with_reducible apply wi_no); (focus omega)))
  | ((with_reducible refine bd_go ?_); first
    | ((with_reducible refine bd_nx ?_); try simp only [List.set_cons_succ, List.set_cons_zero])
    | with_reducible refine bd_rt ?_
    | with_reducible refine bd_ct ?_
    | with_reducible refine bd_bk ?_
    | with_reducible refine bd_ex ?_)
  | with_reducible refine w_seq ?_
  | with_reducible refine w_set ?_
  | with_reducible refine wb ?_
  | ((with_reducible apply tupk); (focus exact Nat.le_of_ble_eq_true rfl))
  | with_reducible refine w_sNil ?_
  | with_reducible refine w_ret ?_
  | with_reducible refine w_expr ?_
  | with_reducible refine tru_b ?_
  | with_reducible refine tru_n ?_
  | with_reducible refine tru_i ?_
  | with_reducible refine tru_t ?_
  | ((with_reducible apply tru_l); (focus assumption); (focus (repeat (first | exact List.mem_cons_self | apply List.mem_cons_of_mem))))
  | with_reducible refine is_tup ?_
  | with_reducible refine enmk ?_
  | with_reducible refine is_str ?_
  | ((with_reducible apply is_lstH); (focus assumption); (focus (repeat (first | exact List.mem_cons_self | apply List.mem_cons_of_mem))))
  | ((with_reducible apply mt_lst); (focus assumption); (focus (repeat (first | exact List.mem_cons_self | apply List.mem_cons_of_mem))))
  | with_reducible refine w_for ?_
  | with_reducible refine mt_str ?_
  | with_reducible refine oi ?_
  | with_reducible refine w_asg ?_
  | with_reducible refine w_asgL ?_
  | with_reducible refine w_put ?_
  | ((with_reducible refine w_augg ?_); refine w_aug (by exact rfl) ?_)
  | with_reducible refine w_raise ?_
  | with_reducible refine w_retN ?_
  | with_reducible refine w_brk ?_
  | with_reducible refine w_cnt ?_
  | with_reducible refine tn_nx ?_
  | with_reducible refine nx_nx ?_
  | with_reducible refine tn_ct ?_
  | with_reducible refine tn_bk ?_
  | with_reducible refine tn_rt ?_
  | with_reducible refine tn_ex ?_
  | with_reducible refine fin_rt ?_
  | with_reducible refine fin_nx ?_
  | with_reducible refine fin_ex ?_
  | ((with_reducible apply newl); (focus assumption); (focus exact Nat.le_of_ble_eq_true rfl); intro l s hl H))
local macro_rules | `(tactic| subst_eqs) => `(tactic| repeat eq_refl)
/-! ### _law_judge -/
theorem takeA {α : Type} {xs : List α} {i : Nat} {x : α} (h : xs[i]? = some x) : xs.take (i + 1) = xs.take i ++ [x] := by rw [List.take_succ, h]; rfl
theorem map_strs {A : List Str} {xs : List D} (h : (A.map D.str) = xs) : ∀ x ∈ xs, ∃ z, x = .str z := fun x hx => by
  rw [← h] at hx
  obtain ⟨z, _, rfl⟩ := List.mem_map.mp hx
  exact ⟨z, rfl⟩
def eqS (w : Str) : D → Bool
  | .str z => decide (z = w)
  | _ => false
theorem cnt_perm : ∀ {ch : List Str} {F : List D}, ch.Nodup → F.length = ch.length → (∀ w ∈ ch, F.countP (eqS w) = 1) → F.Perm (ch.map D.str)
  | [], F, _, hl, _ => by
    have : F = [] := List.length_eq_zero_iff.mp (by simpa using hl)
    rw [this]; exact .nil
  | w :: r, F, nd, hl, h => by
    have h1 := h w (by simp)
    have : 0 < F.countP (eqS w) := by omega
    obtain ⟨x, hx, ex⟩ := List.countP_pos_iff.mp this
    have ew : x = .str w := by
      cases x <;> first | (cases ex; done) | exact congrArg D.str (of_decide_eq_true ex)
    subst ew
    obtain ⟨A, B, rfl⟩ := List.append_of_mem hx
    obtain ⟨n1, n2⟩ := List.nodup_cons.mp nd
    have ih := cnt_perm (ch := r) (F := A ++ B) n2 (by simp at hl ⊢; omega) fun v hv => by
      have q := h v (by simp [hv])
      have ne : eqS v (.str w) = false := decide_eq_false fun e => n1 (e ▸ hv)
      rw [List.countP_append, List.countP_cons, ne] at q
      rw [List.countP_append]
      simpa using q
    rw [List.map_cons]
    exact List.perm_middle.trans (ih.cons _)
theorem strs_of : ∀ {xs : List D}, (∀ x ∈ xs, ∃ z, x = .str z) → ∃ r : List Str, xs = r.map D.str
  | [], _ => ⟨[], rfl⟩
  | x :: xs, h => by
    obtain ⟨z, rfl⟩ := h x (by simp)
    obtain ⟨r, e⟩ := strs_of (xs := xs) fun y hy => h y (by simp [hy])
    exact ⟨z :: r, by rw [e]; rfl⟩
theorem rows_of : ∀ {Xs : List (List D)}, (∀ x ∈ Xs.flatten, ∃ z, x = .str z) → ∃ R : List (List Str), Xs = R.map fun r => r.map D.str
  | [], _ => ⟨[], rfl⟩
  | xs :: Xs, h => by
    obtain ⟨r, e⟩ := strs_of (xs := xs) fun x hx => h x (by simp [hx])
    obtain ⟨R, e2⟩ := rows_of (Xs := Xs) fun x hx => h x (by rw [List.flatten_cons]; exact List.mem_append_right _ hx)
    exact ⟨r :: R, by rw [e, e2]; rfl⟩
theorem perm_str {A B : List Str} (h : (A.map D.str).Perm (B.map D.str)) : A.Perm B := by
  have q := h.filterMap fun d => match d with | .str z => some z | _ => none
  rw [List.filterMap_map, List.filterMap_map] at q
  have e : ∀ L : List Str, L.filterMap ((fun d : D => match d with | .str z => some z | _ => none) ∘ D.str) = L := fun L => by
    show L.filterMap (fun z => some z) = L
    simp
  rw [e, e] at q
  exact q
theorem lt_tr {a b c : Str} (h : cp a < cp b) (h2 : cp b < cp c) : cp a < cp c := List.lt_trans h h2
theorem adj_pw : ∀ {r : List Str}, (∀ j (h : j + 1 < r.length), cp r[j] < cp r[j + 1]) → r.Pairwise fun x y => cp x < cp y
  | [], _ => .nil
  | [x], _ => by simp
  | x :: y :: r, h => by
    have ih := adj_pw (r := y :: r) fun j hj => h (j + 1) (by simp at hj ⊢; omega)
    have h0 : cp x < cp y := h 0 (by simp)
    refine List.pairwise_cons.mpr ⟨fun z hz => ?_, ih⟩
    rcases List.mem_cons.mp hz with rfl | hz
    · exact h0
    · exact lt_tr h0 ((List.pairwise_cons.mp ih).1 z hz)
noncomputable def resD (ch : List Str) (d : D) : D := match jud ch d with
  | none => .tup [.str "good", .int (lenD d)]
  | some i => .tup [.str "bad", .int i]
theorem res_bad {ch : List Str} {d : D} {i : Int} (h : jud ch d = some i) : resD ch d = .tup [.str "bad", .int i] := by unfold resD; rw [h]
theorem res_good {ch : List Str} {d : D} (h : jud ch d = none) : resD ch d = .tup [.str "good", .int (lenD d)] := by unfold resD; rw [h]
section
variable {s : Store} {Z : Hs} {K : D → Store → Prop} {E : Ex → Store → Prop} {d : D} {A : List Str} {l : Nat}
theorem judge_w {ch : List Str} (H : Has s Z) (w : Wd Z d) (sm : Sml d) (nd : ch.Nodup) (k : ∀ s', Has s' Z → K (resD ch d) s') : WR (m_d_law_judge [rowD ch, d] s) K E := by
  unfold m_d_law_judge b_d_law_judge
  subst_eqs
  refine w_if ?_
  subst_eqs
  refine o_isT H w ?_
  subst_eqs
  by_cases it : isT d = true
  · rw [it]
    subst_eqs
    obtain ⟨L, rfl⟩ : ∃ L, d = .tup L := by cases d <;> first | (cases it; done) | exact ⟨_, rfl⟩
    clear it
    have wL : ∀ x ∈ L, Wd Z x := by cases w with | tup h => exact h
    obtain ⟨sl, sx⟩ := sm L rfl
    rename_i l s hl H
    subst_eqs
    refine w_forA (fun i env s => ∃ (Xs : List (List D)) (o3 o4 : Option D), L.take i = Xs.map D.tup ∧ Xs.flatten.length ≤ 200 * i ∧ env = [some (rowD ch), some (.tup L), some (.loc l), o3, o4, none, none, none, none] ∧ Has s ((l, Ls Xs.flatten) :: Z)) ⟨[], _, _, rfl, by simp, rfl, H⟩ (fun _ _ _ _ => trivial) ?_ ?_
    · rintro i x env s hx ⟨Xs, o3, o4, e, rl, rfl, H⟩
      have hi : i < L.length := (List.getElem?_eq_some_iff.mp hx).1
      have xm : x ∈ L := List.mem_of_getElem? hx
      rw [turn_gN]
      simp only [List.set_cons_succ, List.set_cons_zero]
      unfold bl_d_law_judge_6
      subst_eqs
      refine w_if ?_
      subst_eqs
      refine o_isT H ((wL x xm).mono fun y hy => List.mem_cons_of_mem _ hy) ?_
      subst_eqs
      by_cases it : isT x = true
      · rw [it]
        subst_eqs
        obtain ⟨xs, rfl⟩ : ∃ L, x = .tup L := by cases x <;> first | (cases it; done) | exact ⟨_, rfl⟩
        clear it
        have xl := sx _ xm xs rfl
        subst_eqs
        refine w_forA (fun j env s => ∃ (o4 : Option D), env = [some (rowD ch), some (.tup L), some (.loc l), some (.tup xs), o4, none, none, none, none] ∧ Has s ((l, Ls (Xs.flatten ++ xs.take j)) :: Z)) ⟨_, rfl, by simpa using H⟩ (fun _ _ _ _ => trivial) ?_ ?_
        · rintro j y env s hy ⟨o4, rfl, H⟩
          have hj : j < xs.length := (List.getElem?_eq_some_iff.mp hy).1
          rw [turn_gN]
          simp only [List.set_cons_succ, List.set_cons_zero]
          unfold bl_d_law_judge_5
          subst_eqs
          refine o_app H 0 rfl (by rw [List.length_append, List.length_take]; omega) fun s H => ?_
          subst_eqs
          refine ⟨_, rfl, ?_⟩
          rw [take_app hy, ← List.append_assoc]
          exact H
        · rintro env s ⟨o4, rfl, H⟩
          rw [List.take_length] at H
          change Has s ((l, Ls (Xs.flatten ++ xs)) :: Z) at H
          subst_eqs
          refine ⟨Xs ++ [xs], _, _, by rw [take_app hx, e]; simp, by rw [List.flatten_append, List.length_append]; simp only [List.flatten_cons, List.flatten_nil, List.append_nil]; omega, rfl, ?_⟩
          simpa using H
      · rw [show isT x = false by simpa using it]
        subst_eqs
        rw [show D.tup [.str "bad", .int (-1)] = resD ch (.tup L) from (res_bad (jud_no (fun R eR => by
          rw [eR] at hx
          obtain ⟨r, _, rfl⟩ := map_get hx
          exact it rfl))).symm]
        exact k s H.drop
    · rintro env s ⟨Xs, o3, o4, e, rl, rfl, H⟩
      rw [List.take_length] at e
      change L = Xs.map D.tup at e
      subst e
      have wX : ∀ x ∈ Xs.flatten, Wd ((l, Ls Xs.flatten) :: Z) x := fun x hx => by
        obtain ⟨r, hr, hz⟩ := List.mem_flatten.mp hx
        have := wL (.tup r) (List.mem_map.mpr ⟨r, hr, rfl⟩)
        cases this with
        | tup h => exact (h x hz).mono fun y hy => List.mem_cons_of_mem _ hy
      have rowsE : ∀ R : List (List Str), Xs.map D.tup = R.map rowD → Xs.flatten = R.flatten.map D.str := fun R eR => by
        have : Xs = R.map fun r => r.map D.str := by
          have := congrArg (List.map fun d : D => match d with | .tup x => x | _ => []) eR
          rw [List.map_map, List.map_map] at this
          rw [← show List.map ((fun d : D => match d with | .tup x => x | _ => []) ∘ D.tup) Xs = Xs from List.map_id' Xs, this]
          rfl
        rw [this, List.map_flatten]
      have no1 : ¬ (Xs.flatten.Perm (ch.map D.str)) → resD ch (.tup (Xs.map D.tup)) = .tup [.str "bad", .int (-1)] := fun h => res_bad (by
        cases q : rowsZ (Xs.map D.tup) with
        | none => simp only [jud, q]
        | some R =>
          have eR := rowsZ_eq q
          have : ¬ R.flatten.Perm ch := fun p => h (by rw [rowsE R eR]; exact p.map _)
          simp only [jud, q, if_neg this])
      subst_eqs
      refine w_if ?_
      subst_eqs
      refine wi_d (fun c => ?_) (fun c => ?_)
      · have fl : Xs.flatten.length = ch.length := by rw [List.length_map] at c; omega
        subst_eqs
        refine w_forA (fun i env s => ∃ (o3 o4 o5 o6 : Option D), (∀ w ∈ ch.take i, Xs.flatten.countP (eqS w) = 1) ∧ env = [some (rowD ch), some (.tup (Xs.map D.tup)), some (.loc l), o3, o4, o5, o6, none, none] ∧ Has s ((l, Ls Xs.flatten) :: Z)) ⟨_, _, _, _, by simp, rfl, H⟩ (fun _ _ _ _ => trivial) ?_ ?_
        · rintro i x env s hx ⟨o3, o4, o5, o6, g, rfl, H⟩
          obtain ⟨w, hw, rfl⟩ := map_get hx
          have hi : i < ch.length := (List.getElem?_eq_some_iff.mp hw).1
          rw [turn_gN]
          simp only [List.set_cons_succ, List.set_cons_zero]
          unfold bl_d_law_judge_4
          subst_eqs
          refine w_forA (fun j env s => ∃ (o6 : Option D), env = [some (rowD ch), some (.tup (Xs.map D.tup)), some (.loc l), o3, some (.str w), some (.int ((Xs.flatten.take j).countP (eqS w) : Nat)), o6, none, none] ∧ Has s ((l, Ls Xs.flatten) :: Z)) ⟨_, rfl, H⟩ (fun _ _ _ ⟨_, _, H⟩ => H.lst (by ac_rfl)) ?_ ?_
          · rintro j y env s hy ⟨o6, rfl, H⟩
            have ym := List.mem_of_getElem? hy
            rw [turn_gN]
            simp only [List.set_cons_succ, List.set_cons_zero]
            unfold bl_d_law_judge_3
            refine w_if ?_
            subst_eqs
            refine o_isS H (wX y ym) ?_
            subst_eqs
            by_cases is : isS y = true
            · rw [is]
              subst_eqs
              obtain ⟨z, rfl⟩ : ∃ z, y = .str z := by cases y <;> first | (cases is; done) | exact ⟨_, rfl⟩
              subst_eqs
              refine wi_d (fun c => ?_) (fun c => ?_)
              · subst_eqs
                refine ⟨some (.str z), ?_, H⟩
                rw [take_app hy, List.countP_append]
                simp [eqS, c]
              · subst_eqs
                refine ⟨some (.str z), ?_, H⟩
                rw [take_app hy, List.countP_append]
                simp [eqS, c]
            · rw [show isS y = false by simpa using is]
              subst_eqs
              refine ⟨some y, ?_, H⟩
              rw [take_app hy, List.countP_append]
              have : eqS w y = false := by cases y <;> first | rfl | exact absurd rfl is
              simp [this]
          · rintro env s ⟨o6, rfl, H⟩
            rw [List.take_length]
            change Has s ((l, Ls Xs.flatten) :: Z) at H
            subst_eqs
            refine w_if ?_
            subst_eqs
            refine wi_d (fun c => ?_) (fun c => ?_)
            · subst_eqs
              refine ⟨_, _, _, _, fun v hv => ?_, rfl, H⟩
              rw [takeA hw] at hv
              rcases List.mem_append.mp hv with hv | hv
              · exact g v hv
              · rw [List.mem_singleton.mp hv]
                change ((Xs.flatten.countP (eqS w) : Nat) : Int) = 1 at c
                omega
            · refine w_ret ?_
              subst_eqs
              rw [← no1 fun p => c (by
                have := p.countP_eq (eqS w)
                show ((Xs.flatten.countP (eqS w) : Nat) : Int) = 1
                rw [this, List.countP_map]
                have e2 : (eqS w ∘ D.str) = fun z => z == w := by funext z; by_cases q : z = w <;> simp [eqS, q]
                rw [e2]
                have : ch.count w = 1 := nd.count.trans (if_pos (List.mem_of_getElem? hw))
                unfold List.count at this
                rw [this]
                rfl)]
              exact k s H.drop
        · rintro env s ⟨o3, o4, o5, o6, g, rfl, H⟩
          rw [List.length_map, List.take_length] at g
          have pm := cnt_perm nd fl g
          obtain ⟨R, rfl⟩ := rows_of fun x hx => by
            obtain ⟨z, _, rfl⟩ := List.mem_map.mp (pm.mem_iff.mp hx)
            exact ⟨z, rfl⟩
          have pc : R.flatten.Perm ch := perm_str (by rw [List.map_flatten]; exact pm)
          have eT : (R.map fun r => r.map D.str).map D.tup = R.map rowD := by rw [List.map_map]; rfl
          have k' : ∀ s', Has s' Z → K (resD ch (.tup (R.map rowD))) s' := by rw [← eT]; exact k
          have sx' : ∀ x ∈ R.map rowD, ∀ xs, x = D.tup xs → xs.length ≤ 200 := by rw [← eT]; exact sx
          rw [eT]
          rw [eT] at sl
          generalize (R.map fun r => r.map D.str).flatten = F at H
          have badAt : ∀ i (hi : i < R.length), (∀ j (h : j < i), Good (R[j]'(by omega))) → ¬ Good R[i] → resD ch (.tup (R.map rowD)) = .tup [.str "bad", .int (i : Nat)] := fun i hi g b => res_bad (by
            rw [jud_rows, if_pos pc, fb_at (n := i) hi g b]
            simp)
          subst_eqs
          refine rg (n := R.length) (by simp) (by simp at sl; omega) ?_
          refine w_forN (fun i env s => ∃ (o3 o7 o8 : Option D), (∀ j (h : j < i) (h2 : j < R.length), Good R[j]) ∧ env = [some (rowD ch), some (.tup (R.map rowD)), some (.loc l), o3, o4, o5, o6, o7, o8] ∧ Has s ((l, Ls F) :: Z)) ⟨_, _, _, by intro j h; omega, rfl, H⟩ ?_ ?_
          · rintro i env s hi ⟨o3, o7, o8, g, rfl, H⟩
            simp only [List.set_cons_succ, List.set_cons_zero]
            unfold bl_d_law_judge_2
            subst_eqs
            refine o_ixATm (by omega) (by simp; omega) fun x _ hx => ?_
            rw [Int.toNat_natCast] at hx
            obtain ⟨r, hr, rfl⟩ := map_get hx
            obtain ⟨_, er⟩ := List.getElem?_eq_some_iff.mp hr
            have rl : r.length ≤ 200 := by
              have := sx' (rowD r) (List.mem_map.mpr ⟨r, List.mem_of_getElem? hr, rfl⟩) _ rfl
              simpa using this
            subst_eqs
            refine w_if ?_
            subst_eqs
            refine wi_d (fun c0 => ?_) (fun c0 => ?_)
            · refine w_ret ?_
              subst_eqs
              have re : r = [] := by simpa using c0
              rw [← badAt i hi (fun j h => g j h (by omega)) (by rw [er]; exact fun q => q.1 re)]
              exact k' s H.drop
            · have c0' : r ≠ [] := fun e => c0 (by rw [e]; rfl)
              have r0 : 0 < r.length := List.length_pos_iff.mpr c0'
              subst_eqs
              refine rg (n := r.length - 1) (by simp; omega) (by omega) ?_
              refine w_forN (fun m env s => ∃ (o8 : Option D), (∀ j (h : j < m) (h2 : j + 1 < r.length), cp r[j] < cp r[j + 1]) ∧ env = [some (rowD ch), some (.tup (R.map rowD)), some (.loc l), some (rowD r), o4, o5, o6, some (.int (i : Nat)), o8] ∧ Has s ((l, Ls F) :: Z)) ⟨_, by intro j h; omega, rfl, H⟩ ?_ ?_
              · rintro m env s hm ⟨o8, gm, rfl, H⟩
                simp only [List.set_cons_succ, List.set_cons_zero]
                unfold bl_d_law_judge_1
                refine w_if ?_
                subst_eqs
                refine o_ixATm (by omega) (by simp; omega) fun x _ hx => ?_
                rw [Int.toNat_natCast] at hx
                obtain ⟨a, ha, rfl⟩ := map_get hx
                obtain ⟨_, ea⟩ := List.getElem?_eq_some_iff.mp ha
                subst_eqs
                refine o_ixATm (by omega) (by simp; omega) fun x _ hx => ?_
                rw [show ((m : Int) + 1).toNat = m + 1 by omega] at hx
                obtain ⟨b, hb, rfl⟩ := map_get hx
                obtain ⟨_, eb⟩ := List.getElem?_eq_some_iff.mp hb
                subst_eqs
                refine wi_d (fun c => ?_) (fun c => ?_)
                · subst_eqs
                  refine ⟨_, fun j h h2 => ?_, rfl, H⟩
                  rcases Nat.lt_or_ge j m with q | q
                  · exact gm j q h2
                  · obtain rfl : j = m := by omega
                    rw [ea, eb]
                    exact c
                · refine w_ret ?_
                  subst_eqs
                  rw [← badAt i hi (fun j h => g j h (by omega)) (by
                    rw [er]
                    intro q
                    have := List.pairwise_iff_getElem.mp q.2 m (m + 1) (by omega) (by omega) (by omega)
                    rw [ea, eb] at this
                    exact c this)]
                  exact k' s H.drop
              · rintro env s ⟨o8, gm, rfl, H⟩
                subst_eqs
                refine ⟨_, _, _, fun j h h2 => ?_, rfl, H⟩
                rcases Nat.lt_or_ge j i with q | q
                · exact g j q h2
                · obtain rfl : j = i := by omega
                  rw [er]
                  exact ⟨c0', adj_pw fun j hj => gm j (by omega) hj⟩
          · rintro env s ⟨o3, o7, o8, g, rfl, H⟩
            subst_eqs
            have e : resD ch (.tup (R.map rowD)) = .tup [.str "good", .int ((R.map rowD).length : Nat)] := res_good (by
              rw [jud_rows, if_pos pc]
              refine fb_all fun r hr => ?_
              obtain ⟨j, hj, e⟩ := List.getElem_of_mem hr
              exact e ▸ g j hj hj)
            rw [← e]
            exact k' s H.drop
      · subst_eqs
        rw [← no1 fun p => c (by have := p.length_eq; simp at this ⊢; omega)]
        exact k s H.drop
  · rw [show isT d = false by simpa using it]
    subst_eqs
    rw [show D.tup [.str "bad", .int (-1)] = resD ch d from (res_bad (by cases d <;> first | rfl | exact absurd rfl it)).symm]
    exact k s H
end
end Law
namespace Law
open PySem Mi
local macro_rules | `(tactic| ac_rfl) => `(tactic| repeat (first | exact List.mem_cons_self | assumption | apply List.mem_cons_of_mem | apply List.mem_append_right))
local macro_rules | `(tactic| eq_refl) => `(tactic| first
  | ((with_reducible refine wr_go ?_); first
    | ((with_reducible refine w_Vg ?_); first
      | with_reducible refine w_V0 ?_
      | with_reducible refine w_V1 ?_
      | with_reducible refine w_V2 ?_
      | with_reducible refine w_V3 ?_
      | with_reducible refine w_V4 ?_
      | with_reducible refine w_V5 ?_
      | with_reducible refine w_V6 ?_
      | with_reducible refine w_V7 ?_
      | with_reducible refine w_V8 ?_
      | with_reducible refine w_V9 ?_
      | with_reducible refine w_V10 ?_
      | with_reducible refine w_V11 ?_
      | with_reducible refine w_V12 ?_
      | with_reducible refine w_V13 ?_
      | with_reducible refine w_V14 ?_
      | with_reducible refine w_V15 ?_
      | with_reducible refine w_V16 ?_
      | with_reducible refine w_V17 ?_
      | with_reducible refine w_V18 ?_
      | with_reducible refine w_V19 ?_
      | with_reducible refine w_V20 ?_
      | with_reducible refine w_V21 ?_
      | with_reducible refine w_V22 ?_
      | with_reducible refine w_V23 ?_
      | with_reducible refine w_V24 ?_
      | with_reducible refine w_V25 ?_
      | with_reducible refine w_V26 ?_
      | with_reducible refine w_V27 ?_
      | with_reducible refine w_V28 ?_
      | with_reducible refine w_V29 ?_
      | with_reducible refine w_V30 ?_
      | with_reducible refine w_V31 ?_
      | refine w_V (by exact rfl) ?_)
    | with_reducible refine w_C ?_
    | with_reducible refine w_cons ?_
    | with_reducible refine w_nil ?_
    | with_reducible refine w_e2 ?_
    | with_reducible refine w_call ?_
    | with_reducible refine w_tV ?_
    | with_reducible refine w_tup ?_
    | with_reducible refine w_e1 ?_
    | with_reducible refine w_fn ?_
    | with_reducible refine w_tru ?_
    | with_reducible refine w_and ?_
    | with_reducible refine w_or ?_
    | with_reducible refine w_not ?_
    | with_reducible refine w_lst ?_
    | with_reducible refine w_mt ?_
    | with_reducible refine w_mt0 ?_
    | with_reducible refine w_rng ?_
    | with_reducible refine w_rng2 ?_
    | with_reducible refine w_iSeq ?_
    | with_reducible refine w_eif ?_
    | with_reducible refine w_eAnd ?_
    | with_reducible refine w_eOr ?_
    | with_reducible refine w_eNot ?_
    | with_reducible refine w_chain ?_
    | with_reducible refine w_oN ?_
    | with_reducible refine w_oS ?_
    | with_reducible refine w_sl ?_
    | with_reducible refine w_lc ?_
    | with_reducible refine w_enm ?_
    | with_reducible refine w_dc ?_
    | ((with_reducible apply w_dict0); (focus assumption); intro l s hl H)
    | with_reducible refine w_tT ?_
    | ((with_reducible refine w_fnM ?_); simp only [List.map_cons, List.map_nil, List.cons_append, List.nil_append, List.replicate_succ, List.replicate_zero, Nat.reduceSub]))
  | ((with_reducible refine wo_go ?_); first
    | with_reducible refine o_max ?_
    | with_reducible refine o_min ?_
    | with_reducible refine o_lenT ?_
    | ((with_reducible apply o_lenL); (focus assumption); (focus (repeat (first | exact List.mem_cons_self | apply List.mem_cons_of_mem))))
    | ((with_reducible apply o_tupL); (focus assumption); (focus (repeat (first | exact List.mem_cons_self | apply List.mem_cons_of_mem))))
    | ((with_reducible apply o_sumL); (focus assumption); (focus (repeat (first | exact List.mem_cons_self | apply List.mem_cons_of_mem))))
    | ((with_reducible apply o_mul); (focus omega))
    | ((with_reducible apply o_div); (focus omega))
    | ((with_reducible apply o_mod); (focus omega))
    | ((with_reducible apply o_pow); (focus (first | omega | decide)))
    | ((with_reducible apply o_ixT); (focus (first | exact atI_zero _ _ | exact atI_one _ _ _ | exact atI_two _ _ _ _ | exact atI_three _ _ _ _ _)))
    | ((with_reducible apply o_ixL); (focus assumption); (focus (repeat (first | exact List.mem_cons_self | apply List.mem_cons_of_mem))); (focus (first | exact atI_zero _ _ | exact atI_one _ _ _ | exact atI_two _ _ _ _ | exact atI_three _ _ _ _ _)))
    | with_reducible refine o_slT ?_
    | with_reducible refine o_slA ?_
    | with_reducible refine o_iT1 ?_
    | with_reducible refine o_iT2 ?_
    | with_reducible refine o_iT3 ?_
    | with_reducible refine o_iS1 ?_
    | with_reducible refine o_iS2 ?_
    | with_reducible refine o_iS3 ?_
    | with_reducible refine o_iI1 ?_
    | with_reducible refine o_iI2 ?_
    | with_reducible refine o_iI3 ?_
    | with_reducible refine o_iB1 ?_
    | ((with_reducible apply o_ixA); (focus (first | exact atI_zero _ _ | exact atI_one _ _ _ | exact atI_two _ _ _ _ | exact atI_three _ _ _ _ _)))
    | ((with_reducible apply o_ixAL); (focus assumption); (focus (repeat (first | exact List.mem_cons_self | apply List.mem_cons_of_mem))); (focus (first | exact atI_zero _ _ | exact atI_one _ _ _ | exact atI_two _ _ _ _ | exact atI_three _ _ _ _ _)))
    | ((with_reducible apply o_listAT); (focus assumption); intro l s hl H)
    | ((with_reducible apply o_listT); (focus assumption); intro l s hl H)
    | refine wo_some ?_)
  | ((with_reducible refine wi_go ?_); first
    | with_reducible refine wi_n ?_
    | with_reducible refine wi_t ?_
    | with_reducible refine wi_f ?_
    | ((with_reducible apply wi_yes); (focus omega))
    | ((with_reducible apply wi_no); (focus omega)))
  | ((with_reducible refine bd_go ?_); first
    | ((with_reducible refine bd_nx ?_); try simp only [List.set_cons_succ, List.set_cons_zero])
    | with_reducible refine bd_rt ?_
    | with_reducible refine bd_ct ?_
    | with_reducible refine bd_bk ?_
    | with_reducible refine bd_ex ?_)
  | with_reducible refine w_seq ?_
  | with_reducible refine w_set ?_
  | with_reducible refine wb ?_
  | ((with_reducible apply tupk); (focus exact Nat.le_of_ble_eq_true rfl))
  | with_reducible refine w_sNil ?_
  | with_reducible refine w_ret ?_
  | with_reducible refine w_expr ?_
  | with_reducible refine tru_b ?_
  | with_reducible refine tru_n ?_
  | with_reducible refine tru_i ?_
  | with_reducible refine tru_t ?_
  | ((with_reducible apply tru_l); (focus assumption); (focus (repeat (first | exact List.mem_cons_self | apply List.mem_cons_of_mem))))
  | with_reducible refine is_tup ?_
  | with_reducible refine enmk ?_
  | with_reducible refine is_str ?_
  | ((with_reducible apply is_lstH); (focus assumption); (focus (repeat (first | exact List.mem_cons_self | apply List.mem_cons_of_mem))))
  | ((with_reducible apply mt_lst); (focus assumption); (focus (repeat (first | exact List.mem_cons_self | apply List.mem_cons_of_mem))))
  | with_reducible refine w_for ?_
  | with_reducible refine mt_str ?_
  | with_reducible refine oi ?_
  | with_reducible refine w_asg ?_
  | with_reducible refine w_asgL ?_
  | with_reducible refine w_put ?_
  | ((with_reducible refine w_augg ?_); refine w_aug (by exact rfl) ?_)
  | with_reducible refine w_raise ?_
  | with_reducible refine w_retN ?_
  | with_reducible refine w_brk ?_
  | with_reducible refine w_cnt ?_
  | with_reducible refine tn_nx ?_
  | with_reducible refine nx_nx ?_
  | with_reducible refine tn_ct ?_
  | with_reducible refine tn_bk ?_
  | with_reducible refine tn_rt ?_
  | with_reducible refine tn_ex ?_
  | with_reducible refine fin_rt ?_
  | with_reducible refine fin_nx ?_
  | with_reducible refine fin_ex ?_
  | ((with_reducible apply newl); (focus assumption); (focus exact Nat.le_of_ble_eq_true rfl); intro l s hl H))
local macro_rules | `(tactic| subst_eqs) => `(tactic| repeat eq_refl)
/-! ### _law_ask -/
section
variable {s : Store} {Z : Hs} {K : D → Store → Prop} {E : Ex → Store → Prop} {d : D} {A : List Str} {l : Nat}
theorem ask_w {ch : List Str} (H : Has s Z) (w : Wd Z d) (sm : Sml d) (hT : ∀ z ∈ ch, Tk z) (nd : ch.Nodup) (k : ∀ s', Has s' Z → K (resD ch d) s') : WR (m_d_law_ask [rowD ch, d] s) K E := by
  have q : WR (m_check_order [rowD ch, d] s) (fun x s' => x = .int (lenD d) ∧ jud ch d = none ∧ Has s' Z) (fun e s' => ∃ i, e = ⟨"BadOrder", [("at", .int i)]⟩ ∧ jud ch d = some i ∧ Has s' Z) := check_w H w sm hT nd (fun s' H j => ⟨rfl, j, H⟩) (fun i s' H j => ⟨i, rfl, j, H⟩)
  unfold m_d_law_ask b_d_law_ask
  refine w_fnM ?_
  simp only [List.map_cons, List.map_nil, List.cons_append, List.nil_append, List.replicate_succ, List.replicate_zero, Nat.reduceSub]
  cases e : m_check_order [rowD ch, d] s with
  | no => rw [e] at q; exact q.elim
  | ok x s' =>
    rw [e] at q
    obtain ⟨rfl, j, H⟩ := q
    have : sTryAs 2 ["BadOrder"] (sRet (eTup (aCons (eC (.str "good")) (aCons (eCall m_check_order (aCons (eV 0) (aCons (eV 1) (aNil)))) (aNil))))) (fun g => sRet (eTup (aCons (eC (.str "bad")) (aCons (eFld g 2 "at") (aNil))))) [some (rowD ch), some d, none] s = .rt (.tup [.str "good", .int (lenD d)]) s' := by
      simp [sTryAs, e]
    rw [this, ← res_good j]
    exact k s' H
  | ex x s' =>
    rw [e] at q
    obtain ⟨i, rfl, j, H⟩ := q
    have : sTryAs 2 ["BadOrder"] (sRet (eTup (aCons (eC (.str "good")) (aCons (eCall m_check_order (aCons (eV 0) (aCons (eV 1) (aNil)))) (aNil))))) (fun g => sRet (eTup (aCons (eC (.str "bad")) (aCons (eFld g 2 "at") (aNil))))) [some (rowD ch), some d, none] s = .rt (.tup [.str "bad", .int i]) s' := by
      refine tryAs_ex (e := ⟨"BadOrder", [("at", .int i)]⟩) (env2 := [some (rowD ch), some d, none]) (s2 := s') (by simp [e]) (by simp) (by simp) fun g => ?_
      simp [clr, eFld]
    rw [this, ← res_bad j]
    exact k s' H
end
/-! ### _law_same -/
inductive Pd : Nat → D → Prop where
  | int (n : Nat) (i : Int) : Pd n (.int i)
  | str (n : Nat) (z : Str) : Pd n (.str z)
  | tup {n : Nat} {xs : List D} (hz : xs.length ≤ 1000000) (h : ∀ x ∈ xs, Pd n x) : Pd (n + 1) (.tup xs)
theorem same_m {E : Ex → Store → Prop} : ∀ {n m : Nat} {d : D} {s : Store} {K : D → Store → Prop}, Pd n d → n < m → K (.bl true) s → WR (mr_d_law_same m [d, d] s) K E := by
  intro n
  induction n with
  | zero =>
    intro m d s K p h k
    obtain ⟨m, rfl⟩ : ∃ j, m = j + 1 := ⟨m - 1, by omega⟩
    cases p with
    | int i =>
      show WR (fnM 3 2 (b_d_law_same (mr_d_law_same m)) _ _) _ _
      unfold b_d_law_same
      subst_eqs
      refine w_if ?_
      subst_eqs
      refine w_if ?_
      subst_eqs
      simpa using k
    | str z =>
      show WR (fnM 3 2 (b_d_law_same (mr_d_law_same m)) _ _) _ _
      unfold b_d_law_same
      subst_eqs
      refine w_if ?_
      subst_eqs
      refine w_if ?_
      subst_eqs
      simpa using k
  | succ n ih =>
    intro m d s K p h k
    obtain ⟨m, rfl⟩ : ∃ j, m = j + 1 := ⟨m - 1, by omega⟩
    cases p with
    | int i =>
      show WR (fnM 3 2 (b_d_law_same (mr_d_law_same m)) _ _) _ _
      unfold b_d_law_same
      subst_eqs
      refine w_if ?_
      subst_eqs
      refine w_if ?_
      subst_eqs
      simpa using k
    | str z =>
      show WR (fnM 3 2 (b_d_law_same (mr_d_law_same m)) _ _) _ _
      unfold b_d_law_same
      subst_eqs
      refine w_if ?_
      subst_eqs
      refine w_if ?_
      subst_eqs
      simpa using k
    | @tup _ xs hz hx =>
      show WR (fnM 3 2 (b_d_law_same (mr_d_law_same m)) _ _) _ _
      unfold b_d_law_same
      subst_eqs
      refine w_if ?_
      subst_eqs
      refine w_if ?_
      subst_eqs
      refine rg (n := xs.length) rfl hz ?_
      refine w_forN (fun i env s' => ∃ o2, env = [some (.tup xs), some (.tup xs), o2] ∧ s' = s) ⟨_, rfl, rfl⟩ ?_ ?_
      · rintro i env s' hi ⟨o2, rfl, rfl⟩
        simp only [List.set_cons_succ, List.set_cons_zero]
        unfold bl_d_law_same_1
        refine w_if ?_
        subst_eqs
        refine o_ixATm (by omega) (by omega) fun x hxm hx1 => ?_
        subst_eqs
        refine o_ixATm (by omega) (by omega) fun y _ hy1 => ?_
        rw [hx1] at hy1
        cases hy1
        subst_eqs
        refine ih (hx x hxm) (by omega) ?_
        subst_eqs
        exact ⟨_, rfl, rfl⟩
      · rintro env s' ⟨o2, rfl, rfl⟩
        subst_eqs
        exact k
theorem same_w {E : Ex → Store → Prop} {d : D} {s : Store} {K : D → Store → Prop} (p : Pd 4 d) (k : K (.bl true) s) : WR (m_d_law_same [d, d] s) K E := same_m p (by omega) k
theorem Pd.up {n : Nat} {d : D} (h : Pd n d) : Pd (n + 1) d := by
  induction h with
  | int n i => exact .int _ i
  | str n z => exact .str _ z
  | tup hz h ih => exact .tup hz ih
/-! ### the records of an order -/
abbrev gapD (a b : Str) (i : Int) : D := .tup [.str "gap", .str a, .str b, .int i]
def recI (R : List (List Str)) (i : Nat) : List D := match R[i]? with
  | some (f :: rest) => (rest.flatMap fun x => [gapD f x 0, gapD x f 0]) ++ (match R[i + 1]? with | some (g :: _) => [gapD f g 1] | _ => [])
  | _ => []
def recU (R : List (List Str)) (i : Nat) : List D := (List.range i).flatMap (recI R)
theorem recU_succ (R : List (List Str)) (i : Nat) : recU R (i + 1) = recU R i ++ recI R i := by
  unfold recU
  rw [List.range_succ, List.flatMap_append]
  simp
theorem two_len (f : Str) (A : List Str) : (A.flatMap fun x => [gapD f x 0, gapD x f 0]).length = 2 * A.length := by
  induction A with
  | nil => rfl
  | cons a A ih => rw [List.flatMap_cons, List.length_append, ih]; simp; omega
theorem cut_one (x : D) (xs : List D) : Mi.cutD (x :: xs) (some 1) none = xs := by
  have h := Mi.cutD
  unfold Mi.cutD
  rw [HT.sIx_none, show (1 : Int) = ((1 : Nat) : Int) from rfl, HT.sIx_nat]
  simp
section
variable {s : Store} {Z : Hs} {K : D → Store → Prop} {E : Ex → Store → Prop} {d : D} {R : List (List Str)} {l : Nat}
theorem recs_w (H : Has s Z) (ne : ∀ r ∈ R, r ≠ []) (rl : R.length ≤ 100) (ll : ∀ r ∈ R, r.length ≤ 100) (k : ∀ s', Has s' Z → K (.tup (recU R R.length)) s') : WR (m_order_records [.tup (R.map rowD)] s) K E := by
  unfold m_order_records b_order_records
  subst_eqs
  rename_i l s hl H
  refine w_forA (fun i env s => ∃ (o2 o3 o4 o5 : Option D), (recU R i).length ≤ 1000 * i ∧ env = [some (.tup (R.map rowD)), some (.loc l), o2, o3, o4, o5] ∧ Has s ((l, Ls (recU R i)) :: Z)) ⟨_, _, _, _, by simp [recU], rfl, H⟩ (fun _ _ _ _ => trivial) ?_ ?_
  · rintro i x env s hx ⟨o2, o3, o4, o5, zl, rfl, H⟩
    obtain ⟨r0, hr0, rfl⟩ := enm_get hx
    obtain ⟨r, hr, rfl⟩ := map_get hr0
    have hi : i < R.length := (List.getElem?_eq_some_iff.mp hr).1
    have rm := List.mem_of_getElem? hr
    obtain ⟨f, rest, rfl⟩ : ∃ f rest, r = f :: rest := by
      cases r with
      | nil => exact absurd rfl (ne _ rm)
      | cons f rest => exact ⟨f, rest, rfl⟩
    have l1 := ll _ rm
    simp only [List.length_cons] at l1
    simp only [turn_gT, gsC, gsN, gN, List.length_cons, List.length_nil, if_pos, Option.bind_some, List.set_cons_succ, List.set_cons_zero]
    unfold bl_order_records_2
    simp only [rowD, List.map_cons]
    subst_eqs
    rw [cut_one]
    refine bd_cut (fun env s => ∃ (o5 : Option D), env = [some (.tup (R.map rowD)), some (.loc l), some (.int (i : Nat)), some (.tup (.str f :: rest.map D.str)), some (.str f), o5] ∧ Has s ((l, Ls (recU R i ++ (rest.flatMap fun x => [gapD f x 0, gapD x f 0]))) :: Z)) ?_ ?_
    · refine w_forA (fun j env s => ∃ (o5 : Option D), env = [some (.tup (R.map rowD)), some (.loc l), some (.int (i : Nat)), some (.tup (.str f :: rest.map D.str)), some (.str f), o5] ∧ Has s ((l, Ls (recU R i ++ ((rest.take j).flatMap fun x => [gapD f x 0, gapD x f 0]))) :: Z)) ⟨_, rfl, by simpa using H⟩ (fun _ _ _ _ => trivial) ?_ ?_
      · rintro j y env s hy ⟨o5, rfl, H⟩
        obtain ⟨w, hw, rfl⟩ := map_get hy
        have hj : j < rest.length := (List.getElem?_eq_some_iff.mp hw).1
        rw [turn_gN]
        simp only [List.set_cons_succ, List.set_cons_zero]
        unfold bl_order_records_1
        subst_eqs
        refine o_app H 0 rfl (by rw [List.length_append, two_len, List.length_take]; omega) fun s H => ?_
        subst_eqs
        refine o_app H 0 rfl (by rw [List.length_append, List.length_append, two_len, List.length_take]; simp; omega) fun s H => ?_
        subst_eqs
        refine ⟨_, rfl, ?_⟩
        rw [takeA hw]
        simpa using H
      · rintro env s ⟨o5, rfl, H⟩
        rw [List.length_map, List.take_length] at H
        subst_eqs
        exact ⟨_, rfl, H⟩
    rintro _ s ⟨o5, rfl, H⟩
    refine w_if ?_
    subst_eqs
    refine wi_d (fun c => ?_) (fun c => ?_)
    · rw [List.length_map] at c
      have hi2 : i + 1 < R.length := by omega
      obtain ⟨g, rg', eg⟩ : ∃ g rest, R[i + 1] = g :: rest := by
        cases e : R[i + 1] with
        | nil => exact absurd e (ne _ (List.getElem_mem _))
        | cons g rest => exact ⟨g, rest, rfl⟩
      subst_eqs
      refine o_ixATm (by omega) (by simp; omega) fun x _ hx => ?_
      rw [show ((i : Int) + 1).toNat = i + 1 by omega, List.getElem?_map, List.getElem?_eq_getElem hi2, eg] at hx
      cases hx
      simp only [rowD, List.map_cons]
      subst_eqs
      refine o_app H 0 rfl (by rw [List.length_append, two_len]; omega) fun s H => ?_
      subst_eqs
      refine ⟨_, _, _, _, ?_, rfl, ?_⟩
      · rw [recU_succ, List.length_append, recI, hr, List.getElem?_eq_getElem hi2, eg]
        simp only [List.length_append, two_len, List.length_cons, List.length_nil]
        omega
      · rw [recU_succ, recI, hr, List.getElem?_eq_getElem hi2, eg, ← List.append_assoc]
        exact H
    · rw [List.length_map] at c
      have e2 : R[i + 1]? = none := by simp; omega
      subst_eqs
      refine ⟨_, _, _, _, ?_, rfl, ?_⟩
      · rw [recU_succ, List.length_append, recI, hr, e2]
        simp only [List.length_append, two_len, List.length_nil]
        omega
      · rw [recU_succ, recI, hr, e2]
        simpa using H
  · rintro env s ⟨o2, o3, o4, o5, zl, rfl, H⟩
    rw [enm_len, List.length_map] at H
    subst_eqs
    exact k s H.drop
theorem lrecs_w (H : Has s Z) (ne : ∀ r ∈ R, r ≠ []) (rl : R.length ≤ 100) (ll : ∀ r ∈ R, r.length ≤ 100) (k : ∀ s', Has s' Z → K (.tup (recU R R.length)) s') : WR (m_d_law_records [.tup (R.map rowD)] s) K E := by
  unfold m_d_law_records b_d_law_records
  subst_eqs
  rename_i l s hl H
  refine rg (n := R.length) (by simp) (by omega) ?_
  refine w_forN (fun i env s => ∃ (o2 o3 o4 : Option D), (recU R i).length ≤ 1000 * i ∧ env = [some (.tup (R.map rowD)), some (.loc l), o2, o3, o4] ∧ Has s ((l, Ls (recU R i)) :: Z)) ⟨_, _, _, by simp [recU], rfl, H⟩ ?_ ?_
  · rintro i env s hi ⟨o2, o3, o4, zl, rfl, H⟩
    simp only [List.set_cons_succ, List.set_cons_zero]
    have hr : R[i]? = some R[i] := List.getElem?_eq_getElem hi
    have rm : R[i] ∈ R := List.getElem_mem _
    generalize R[i] = r at hr rm
    obtain ⟨f, rest, rfl⟩ : ∃ f rest, r = f :: rest := by
      cases r with
      | nil => exact absurd rfl (ne _ rm)
      | cons f rest => exact ⟨f, rest, rfl⟩
    have l1 := ll _ rm
    simp only [List.length_cons] at l1
    unfold bl_d_law_records_2
    subst_eqs
    refine o_ixATm (by omega) (by simp; omega) fun x _ hx => ?_
    rw [Int.toNat_natCast, List.getElem?_map, hr] at hx
    cases hx
    simp only [rowD, List.map_cons]
    subst_eqs
    refine o_ixATm (by omega) (by simp; omega) fun x _ hx => ?_
    rw [Int.toNat_natCast, List.getElem?_map, hr] at hx
    cases hx
    simp only [rowD, List.map_cons]
    subst_eqs
    rw [cut_one]
    refine bd_cut (fun env s => ∃ (o4 : Option D), env = [some (.tup (R.map rowD)), some (.loc l), some (.int (i : Nat)), some (.str f), o4] ∧ Has s ((l, Ls (recU R i ++ (rest.flatMap fun x => [gapD f x 0, gapD x f 0]))) :: Z)) ?_ ?_
    · refine w_forA (fun j env s => ∃ (o4 : Option D), env = [some (.tup (R.map rowD)), some (.loc l), some (.int (i : Nat)), some (.str f), o4] ∧ Has s ((l, Ls (recU R i ++ ((rest.take j).flatMap fun x => [gapD f x 0, gapD x f 0]))) :: Z)) ⟨_, rfl, by simpa using H⟩ (fun _ _ _ _ => trivial) ?_ ?_
      · rintro j y env s hy ⟨o5, rfl, H⟩
        obtain ⟨w, hw, rfl⟩ := map_get hy
        have hj : j < rest.length := (List.getElem?_eq_some_iff.mp hw).1
        rw [turn_gN]
        simp only [List.set_cons_succ, List.set_cons_zero]
        unfold bl_d_law_records_1
        subst_eqs
        refine o_app H 0 rfl (by rw [List.length_append, two_len, List.length_take]; omega) fun s H => ?_
        subst_eqs
        refine o_app H 0 rfl (by rw [List.length_append, List.length_append, two_len, List.length_take]; simp; omega) fun s H => ?_
        subst_eqs
        refine ⟨_, rfl, ?_⟩
        rw [takeA hw]
        simpa using H
      · rintro env s ⟨o5, rfl, H⟩
        rw [List.length_map, List.take_length] at H
        subst_eqs
        exact ⟨_, rfl, H⟩
    rintro _ s ⟨o5, rfl, H⟩
    refine w_if ?_
    subst_eqs
    refine wi_d (fun c => ?_) (fun c => ?_)
    · rw [List.length_map] at c
      have hi2 : i + 1 < R.length := by omega
      obtain ⟨g, rg', eg⟩ : ∃ g rest, R[i + 1] = g :: rest := by
        cases e : R[i + 1] with
        | nil => exact absurd e (ne _ (List.getElem_mem _))
        | cons g rest => exact ⟨g, rest, rfl⟩
      subst_eqs
      refine o_ixATm (by omega) (by simp; omega) fun x _ hx => ?_
      rw [show ((i : Int) + 1).toNat = i + 1 by omega, List.getElem?_map, List.getElem?_eq_getElem hi2, eg] at hx
      cases hx
      simp only [rowD, List.map_cons]
      subst_eqs
      refine o_app H 0 rfl (by rw [List.length_append, two_len]; omega) fun s H => ?_
      subst_eqs
      refine ⟨_, _, _, ?_, rfl, ?_⟩
      · rw [recU_succ, List.length_append, recI, hr, List.getElem?_eq_getElem hi2, eg]
        simp only [List.length_append, two_len, List.length_cons, List.length_nil]
        omega
      · rw [recU_succ, recI, hr, List.getElem?_eq_getElem hi2, eg, ← List.append_assoc]
        exact H
    · rw [List.length_map] at c
      have e2 : R[i + 1]? = none := by simp; omega
      subst_eqs
      refine ⟨_, _, _, ?_, rfl, ?_⟩
      · rw [recU_succ, List.length_append, recI, hr, e2]
        simp only [List.length_append, two_len, List.length_nil]
        omega
      · rw [recU_succ, recI, hr, e2]
        simpa using H
  · rintro env s ⟨o2, o3, o4, zl, rfl, H⟩
    subst_eqs
    exact k s H.drop
end
end Law
namespace Law
open PySem Mi
local macro_rules | `(tactic| ac_rfl) => `(tactic| repeat (first | exact List.mem_cons_self | assumption | apply List.mem_cons_of_mem | apply List.mem_append_right))
local macro_rules | `(tactic| eq_refl) => `(tactic| first
  | ((with_reducible refine wr_go ?_); first
    | ((with_reducible refine w_Vg ?_); first
      | with_reducible refine w_V0 ?_
      | with_reducible refine w_V1 ?_
      | with_reducible refine w_V2 ?_
      | with_reducible refine w_V3 ?_
      | with_reducible refine w_V4 ?_
      | with_reducible refine w_V5 ?_
      | with_reducible refine w_V6 ?_
      | with_reducible refine w_V7 ?_
      | with_reducible refine w_V8 ?_
      | with_reducible refine w_V9 ?_
      | with_reducible refine w_V10 ?_
      | with_reducible refine w_V11 ?_
      | with_reducible refine w_V12 ?_
      | with_reducible refine w_V13 ?_
      | with_reducible refine w_V14 ?_
      | with_reducible refine w_V15 ?_
      | with_reducible refine w_V16 ?_
      | with_reducible refine w_V17 ?_
      | with_reducible refine w_V18 ?_
      | with_reducible refine w_V19 ?_
      | with_reducible refine w_V20 ?_
      | with_reducible refine w_V21 ?_
      | with_reducible refine w_V22 ?_
      | with_reducible refine w_V23 ?_
      | with_reducible refine w_V24 ?_
      | with_reducible refine w_V25 ?_
      | with_reducible refine w_V26 ?_
      | with_reducible refine w_V27 ?_
      | with_reducible refine w_V28 ?_
      | with_reducible refine w_V29 ?_
      | with_reducible refine w_V30 ?_
      | with_reducible refine w_V31 ?_
      | refine w_V (by exact rfl) ?_)
    | with_reducible refine w_C ?_
    | with_reducible refine w_cons ?_
    | with_reducible refine w_nil ?_
    | with_reducible refine w_e2 ?_
    | with_reducible refine w_call ?_
    | with_reducible refine w_tV ?_
    | with_reducible refine w_tup ?_
    | with_reducible refine w_e1 ?_
    | with_reducible refine w_fn ?_
    | with_reducible refine w_tru ?_
    | with_reducible refine w_and ?_
    | with_reducible refine w_or ?_
    | with_reducible refine w_not ?_
    | with_reducible refine w_lst ?_
    | with_reducible refine w_mt ?_
    | with_reducible refine w_mt0 ?_
    | with_reducible refine w_rng ?_
    | with_reducible refine w_rng2 ?_
    | with_reducible refine w_iSeq ?_
    | with_reducible refine w_eif ?_
    | with_reducible refine w_eAnd ?_
    | with_reducible refine w_eOr ?_
    | with_reducible refine w_eNot ?_
    | with_reducible refine w_chain ?_
    | with_reducible refine w_oN ?_
    | with_reducible refine w_oS ?_
    | with_reducible refine w_sl ?_
    | with_reducible refine w_lc ?_
    | with_reducible refine w_enm ?_
    | with_reducible refine w_dc ?_
    | ((with_reducible apply w_dict0); (focus assumption); intro l s hl H)
    | with_reducible refine w_tT ?_
    | ((with_reducible refine w_fnM ?_); simp only [List.map_cons, List.map_nil, List.cons_append, List.nil_append, List.replicate_succ, List.replicate_zero, Nat.reduceSub]))
  | ((with_reducible refine wo_go ?_); first
    | with_reducible refine o_max ?_
    | with_reducible refine o_min ?_
    | with_reducible refine o_lenT ?_
    | ((with_reducible apply o_lenL); (focus assumption); (focus (repeat (first | exact List.mem_cons_self | apply List.mem_cons_of_mem))))
    | ((with_reducible apply o_tupL); (focus assumption); (focus (repeat (first | exact List.mem_cons_self | apply List.mem_cons_of_mem))))
    | ((with_reducible apply o_sumL); (focus assumption); (focus (repeat (first | exact List.mem_cons_self | apply List.mem_cons_of_mem))))
    | ((with_reducible apply o_mul); (focus omega))
    | ((with_reducible apply o_div); (focus omega))
    | ((with_reducible apply o_mod); (focus omega))
    | ((with_reducible apply o_pow); (focus (first | omega | decide)))
    | ((with_reducible apply o_ixT); (focus (first | exact atI_zero _ _ | exact atI_one _ _ _ | exact atI_two _ _ _ _ | exact atI_three _ _ _ _ _)))
    | ((with_reducible apply o_ixL); (focus assumption); (focus (repeat (first | exact List.mem_cons_self | apply List.mem_cons_of_mem))); (focus (first | exact atI_zero _ _ | exact atI_one _ _ _ | exact atI_two _ _ _ _ | exact atI_three _ _ _ _ _)))
    | with_reducible refine o_slT ?_
    | with_reducible refine o_slA ?_
    | with_reducible refine o_iT1 ?_
    | with_reducible refine o_iT2 ?_
    | with_reducible refine o_iT3 ?_
    | with_reducible refine o_iS1 ?_
    | with_reducible refine o_iS2 ?_
    | with_reducible refine o_iS3 ?_
    | with_reducible refine o_iI1 ?_
    | with_reducible refine o_iI2 ?_
    | with_reducible refine o_iI3 ?_
    | with_reducible refine o_iB1 ?_
    | ((with_reducible apply o_ixA); (focus (first | exact atI_zero _ _ | exact atI_one _ _ _ | exact atI_two _ _ _ _ | exact atI_three _ _ _ _ _)))
    | ((with_reducible apply o_ixAL); (focus assumption); (focus (repeat (first | exact List.mem_cons_self | apply List.mem_cons_of_mem))); (focus (first | exact atI_zero _ _ | exact atI_one _ _ _ | exact atI_two _ _ _ _ | exact atI_three _ _ _ _ _)))
    | ((with_reducible apply o_listAT); (focus assumption); intro l s hl H)
    | ((with_reducible apply o_listT); (focus assumption); intro l s hl H)
    | refine wo_some ?_)
  | ((with_reducible refine wi_go ?_); first
    | with_reducible refine wi_n ?_
    | with_reducible refine wi_t ?_
    | with_reducible refine wi_f ?_
    | ((with_reducible apply wi_yes); (focus omega))
    | ((with_reducible apply wi_no); (focus omega)))
  | ((with_reducible refine bd_go ?_); first
    | ((with_reducible refine bd_nx ?_); try simp only [List.set_cons_succ, List.set_cons_zero])
    | with_reducible refine bd_rt ?_
    | with_reducible refine bd_ct ?_
    | with_reducible refine bd_bk ?_
    | with_reducible refine bd_ex ?_)
  | with_reducible refine w_seq ?_
  | with_reducible refine w_set ?_
  | with_reducible refine wb ?_
  | ((with_reducible apply tupk); (focus exact Nat.le_of_ble_eq_true rfl))
  | with_reducible refine w_sNil ?_
  | with_reducible refine w_ret ?_
  | with_reducible refine w_expr ?_
  | with_reducible refine tru_b ?_
  | with_reducible refine tru_n ?_
  | with_reducible refine tru_i ?_
  | with_reducible refine tru_t ?_
  | ((with_reducible apply tru_l); (focus assumption); (focus (repeat (first | exact List.mem_cons_self | apply List.mem_cons_of_mem))))
  | with_reducible refine is_tup ?_
  | with_reducible refine enmk ?_
  | with_reducible refine is_str ?_
  | ((with_reducible apply is_lstH); (focus assumption); (focus (repeat (first | exact List.mem_cons_self | apply List.mem_cons_of_mem))))
  | ((with_reducible apply mt_lst); (focus assumption); (focus (repeat (first | exact List.mem_cons_self | apply List.mem_cons_of_mem))))
  | with_reducible refine w_for ?_
  | with_reducible refine mt_str ?_
  | with_reducible refine oi ?_
  | with_reducible refine w_asg ?_
  | with_reducible refine w_asgL ?_
  | with_reducible refine w_put ?_
  | ((with_reducible refine w_augg ?_); refine w_aug (by exact rfl) ?_)
  | with_reducible refine w_raise ?_
  | with_reducible refine w_retN ?_
  | with_reducible refine w_brk ?_
  | with_reducible refine w_cnt ?_
  | with_reducible refine tn_nx ?_
  | with_reducible refine nx_nx ?_
  | with_reducible refine tn_ct ?_
  | with_reducible refine tn_bk ?_
  | with_reducible refine tn_rt ?_
  | with_reducible refine tn_ex ?_
  | with_reducible refine fin_rt ?_
  | with_reducible refine fin_nx ?_
  | with_reducible refine fin_ex ?_
  | ((with_reducible apply newl); (focus assumption); (focus exact Nat.le_of_ble_eq_true rfl); intro l s hl H))
local macro_rules | `(tactic| subst_eqs) => `(tactic| repeat eq_refl)
/-! ### orders -/
section
variable {s : Store} {Z : Hs} {K : D → Store → Prop} {E : Ex → Store → Prop} {d : D} {l : Nat} {env : Sl} {t : ME Bool} {ek ev : ME D} {KL : List (L2.Key × D) → Store → Prop}
theorem w_dcA {gd : Store → Prop} {gt : D → Sl → Option Sl} {xs : List D} (I : Nat → List (L2.Key × D) → Store → Prop) (h0 : I 0 [] s) (hz : xs.length ≤ 1000000) (hg : ∀ i acc s, I i acc s → gd s) (hl : ∀ i acc s, I i acc s → acc.length ≤ i)
    (hs : ∀ i d acc s, xs[i]? = some d → I i acc s → ∃ env1, gt d env = some env1 ∧ WR (t env1 s) (fun b s => b = true ∧ WR (ek env1 s) (fun y s => WR (ev env1 s) (fun z s => ∃ k, keyOf y = some k ∧ I (i + 1) (putD acc k z) s) NoE) NoE) NoE) (he : ∀ acc s, I xs.length acc s → KL acc s) : WR (dcL gd gt t ek ev env xs [] s) KL E := by
  have key : ∀ (ys : List D) (i : Nat) (acc : List (L2.Key × D)) (s : Store), xs.drop i = ys → i ≤ xs.length → I i acc s → WR (dcL gd gt t ek ev env ys acc s) KL E := by
    intro ys
    induction ys with
    | nil =>
      intro i acc s e hi h
      unfold dcL
      rw [if_pos (hg _ _ _ h)]
      have : i = xs.length := by
        have := congrArg List.length e
        simp at this
        omega
      subst this
      exact he acc s h
    | cons x ys ih =>
      intro i acc s e hi h
      have hlt : i < xs.length := by
        have := congrArg List.length e
        simp at this
        omega
      rw [List.drop_eq_getElem_cons hlt] at e
      obtain ⟨e1, e2⟩ := List.cons.inj e
      obtain ⟨env1, q1, q2⟩ := hs i x acc s (by rw [List.getElem?_eq_getElem hlt, e1]) h
      unfold dcL
      rw [if_pos (hg _ _ _ h)]
      simp only [q1]
      cases a1 : t env1 s with
      | no => rw [a1] at q2; exact q2.elim
      | ex x s => rw [a1] at q2; exact q2.elim
      | ok b s1 =>
        rw [a1] at q2
        obtain ⟨rfl, q2⟩ := q2
        simp only [if_true]
        cases a2 : ek env1 s1 with
        | no => rw [a2] at q2; exact q2.elim
        | ex x s => rw [a2] at q2; exact q2.elim
        | ok y s2 =>
          rw [a2] at q2
          change WR (ev env1 s2) _ _ at q2
          simp only
          cases a3 : ev env1 s2 with
          | no => rw [a3] at q2; exact q2.elim
          | ex x s => rw [a3] at q2; exact q2.elim
          | ok z s3 =>
            rw [a3] at q2
            obtain ⟨k, k1, k2⟩ := q2
            simp only [k1]
            have := hl _ _ _ h
            rw [if_pos (by rw [sizeLine_eq]; omega)]
            exact ih (i + 1) _ s3 e2 hlt k2
  exact key xs 0 [] s (by simp) (Nat.zero_le _) h0
theorem places_w {deeds : List Str} {a b c : D} (H : Has s Z) (nd : deeds.Nodup) (dl : deeds.length ≤ 1000) (k : ∀ l ks s', Has s' ((l, Is (.dic ks)) :: Z) → (∀ i z, deeds[i]? = some z → getD ks (.inr z) = some (.int (i : Nat))) → K (.loc l) s') : WR (m_deed_places [.tup [a, b, rowD deeds, c]] s) K E := by
  unfold m_deed_places b_deed_places
  subst_eqs
  refine w_dcA (fun i acc s => acc.length = i ∧ (∀ kv ∈ acc, ∃ j z, j < i ∧ deeds[j]? = some z ∧ kv.1 = .inr z) ∧ (∀ j z, j < i → deeds[j]? = some z → getD acc (.inr z) = some (.int (j : Nat))) ∧ Has s Z) ⟨rfl, by simp, by intro j z h; omega, H⟩ (by rw [enm_len, List.length_map]; omega) (fun _ _ _ _ => trivial) (fun _ _ _ h => by rw [h.1]; exact Nat.le_refl _) ?_ ?_
  · rintro i x acc s hx ⟨al, am, ag, H⟩
    obtain ⟨r0, hr0, rfl⟩ := enm_get hx
    obtain ⟨z, hz, rfl⟩ := map_get hr0
    have fresh : ∀ kv ∈ acc, kv.1 ≠ Sum.inr z := fun kv h e => by
      obtain ⟨j, z', h1, h2, h3⟩ := am kv h
      rw [h3] at e
      cases e
      obtain ⟨a1, a2⟩ := List.getElem?_eq_some_iff.mp h2
      obtain ⟨b1, b2⟩ := List.getElem?_eq_some_iff.mp hz
      exact List.pairwise_iff_getElem.mp nd j i a1 b1 h1 (a2.trans b2.symm)
    refine ⟨_, rfl, ?_⟩
    refine ⟨rfl, ?_⟩
    unfold ke_deed_places_2 le_deed_places_1
    subst_eqs
    refine ⟨.inr z, rfl, ?_, ?_, ?_, H⟩
    · have : putD acc (Sum.inr z) (.int (i : Nat)) = acc ++ [(.inr z, .int (i : Nat))] := by
        unfold putD
        rw [if_neg]
        intro c
        obtain ⟨kv, h1, h2⟩ := List.any_eq_true.mp c
        exact fresh kv h1 (of_decide_eq_true h2)
      rw [this, List.length_append, al]
      rfl
    · intro kv hkv
      have : putD acc (Sum.inr z) (.int (i : Nat)) = acc ++ [(.inr z, .int (i : Nat))] := by
        unfold putD
        rw [if_neg]
        intro c
        obtain ⟨kv, h1, h2⟩ := List.any_eq_true.mp c
        exact fresh kv h1 (of_decide_eq_true h2)
      rw [this] at hkv
      rcases List.mem_append.mp hkv with h | h
      · obtain ⟨j, z', h1, h2, h3⟩ := am kv h
        exact ⟨j, z', by omega, h2, h3⟩
      · rw [List.mem_singleton.mp h]
        exact ⟨i, z, by omega, hz, rfl⟩
    · intro j z' hj hz'
      by_cases q : z' = z
      · subst q
        have : j = i := by
          obtain ⟨a1, a2⟩ := List.getElem?_eq_some_iff.mp hz'
          obtain ⟨b1, b2⟩ := List.getElem?_eq_some_iff.mp hz
          rcases Nat.lt_or_ge j i with w | w
          · exact absurd (a2.trans b2.symm) (List.pairwise_iff_getElem.mp nd j i a1 b1 w)
          · omega
        subst this
        exact putD_get _ _ _
      · rw [putD_other (fun e => q (by cases e; rfl))]
        rcases Nat.lt_or_ge j i with w | w
        · exact ag j z' w hz'
        · obtain rfl : j = i := by omega
          rw [hz] at hz'
          exact absurd (Option.some.inj hz').symm q
  · rintro acc s ⟨al, am, ag, H⟩
    rw [enm_len, List.length_map] at ag
    have H := H.new (.dic acc)
    generalize s.length = ls, s ++ [.dic acc] = s at *
    subst_eqs
    exact k _ acc s H fun i z h => ag i z (List.getElem?_eq_some_iff.mp h).1 h
/-- the order's rows -/
def rowsF (f : Str → Int) (ch : List Str) : List (List Str) := (setI (ch.map f)).map fun t => ch.filter fun z => decide (f z = t)
theorem o_sortSet {ns : List Int} (H : Has s Z) (hm : (l, Ls (ns.map D.int)) ∈ Z) (h : ns.length < 64) (k : ∀ l s', s.length ≤ l → Has s' ((l, Ls ((setI ns).map D.int)) :: Z) → K (.loc l) s') : WO (dSortSet (.loc l) s) K := by
  refine wo_eq (d := .loc s.length) (s := s ++ [.lst ((setI ns).map D.int)]) ?_ (k _ _ (Nat.le_refl _) (H.new _))
  have e := H.lst hm
  simp [dSortSet, lstOf, e, intsD_map, h]
theorem order_w {ch : List Str} {f : Str → Int} {ks : List (L2.Key × D)} {y : Nat} (H : Has s Z) (hm : (y, Is (.dic ks)) ∈ Z) (hk : ∀ z ∈ ch, getD ks (.inr z) = some (.int (f z))) (cl : ch.length < 64) (k : ∀ s' Y, Has s' (Y ++ Z) → K (.tup ((rowsF f ch).map rowD)) s') : WR (m_d_law_order [rowD ch, .loc y] s) K E := by
  unfold m_d_law_order b_d_law_order
  subst_eqs
  refine w_lcA (fun i acc s => acc = ((ch.take i).map f).map D.int ∧ Has s Z) ⟨rfl, H⟩ (by simp; omega) (fun _ _ _ _ => trivial) (fun i x acc s hx _ ⟨ha, H⟩ => ?_) (fun acc s _ ⟨ha, H⟩ => ?_)
  · obtain ⟨z, hz, rfl⟩ := map_get hx
    refine pk_gN ?_
    unfold le_d_law_order_4
    subst_eqs
    refine o_ixAD H hm rfl (hk z (List.mem_of_getElem? hz)) ?_
    exact ⟨by rw [ha, takeA hz]; simp, H⟩
  rw [List.length_map, List.take_length] at ha
  subst ha
  have H := H.new (.lst ((ch.map f).map D.int))
  generalize s.length = ls, s ++ [.lst ((ch.map f).map D.int)] = s at *
  subst_eqs
  refine o_sortSet H List.mem_cons_self (by simpa using cl) fun lt s _ H => ?_
  subst_eqs
  have tl : (setI (ch.map f)).length ≤ 1000000 := by
    have : ∀ ns : List Int, (setI ns).length ≤ ns.length := fun ns => by
      induction ns with
      | nil => simp [setI]
      | cons k r ih =>
        have q : ∀ (k : Int) (l : List Int), (insI k l).length ≤ l.length + 1 := fun k l => by
          induction l with
          | nil => simp [insI]
          | cons x r ih =>
            unfold insI
            split
            · simp
            · split
              · simp
              · simp; omega
        have := q k (setI r)
        show (insI k (setI r)).length ≤ _
        simp
        omega
    have := this (ch.map f)
    rw [List.length_map] at this
    omega
  refine w_lcA (fun i acc s => acc = (((setI (ch.map f)).take i).map fun t => rowD (ch.filter fun z => decide (f z = t))) ∧ ∃ Y, Has s (Y ++ (lt, Ls ((setI (ch.map f)).map D.int)) :: (ls, Ls ((ch.map f).map D.int)) :: Z)) ⟨rfl, [], H⟩ (by simpa using tl) (fun i acc s ⟨_, Y, H⟩ => H.lst (List.mem_append_right _ List.mem_cons_self)) (fun i x acc s hx _ ⟨ha, Y, H⟩ => ?_) (fun acc s _ ⟨ha, Y, H⟩ => ?_)
  · obtain ⟨t, ht, rfl⟩ := map_get hx
    refine pk_gN ?_
    unfold le_d_law_order_3
    subst_eqs
    refine w_lcA (fun j acc s => acc = ((ch.take j).filter fun z => decide (f z = t)).map D.str ∧ Has s (Y ++ (lt, Ls ((setI (ch.map f)).map D.int)) :: (ls, Ls ((ch.map f).map D.int)) :: Z)) ⟨rfl, H⟩ (by simp; omega) (fun _ _ _ _ => trivial) (fun j x acc2 s hx _ ⟨ha2, H⟩ => ?_) (fun acc2 s _ ⟨ha2, H⟩ => ?_)
    · obtain ⟨z, hz, rfl⟩ := map_get hx
      refine pk_gN ?_
      unfold lt_d_law_order_1 le_d_law_order_2
      subst_eqs
      refine o_ixAD H (List.mem_append_right _ (.tail _ (.tail _ hm))) rfl (hk z (List.mem_of_getElem? hz)) ?_
      subst_eqs
      refine wi_d (fun c => ?_) (fun c => ?_)
      · subst_eqs
        exact ⟨by rw [ha2, takeA hz]; simp [c], H⟩
      · subst_eqs
        exact ⟨by rw [ha2, takeA hz]; simp [c], H⟩
    · rw [List.length_map, List.take_length] at ha2
      subst ha2
      have H := H.new (.lst ((ch.filter fun z => decide (f z = t)).map D.str))
      generalize s.length = l2, s ++ [.lst ((ch.filter fun z => decide (f z = t)).map D.str)] = s at *
      subst_eqs
      exact ⟨by rw [ha, takeA ht]; simp, _ :: Y, H⟩
  · rw [List.length_map, List.take_length] at ha
    have H := H.new (.lst acc)
    generalize s.length = l2, s ++ [.lst acc] = s at *
    subst_eqs
    have e : (rowsF f ch).map rowD = acc := by rw [ha, rowsF, List.map_map]; rfl
    rw [← e]
    exact k s ((l2, Ls acc) :: (Y ++ [(lt, Ls ((setI (ch.map f)).map D.int)), (ls, Ls ((ch.map f).map D.int))])) (by simpa using H)
end
end Law
namespace Law
open PySem Mi
local macro_rules | `(tactic| ac_rfl) => `(tactic| repeat (first | exact List.mem_cons_self | assumption | apply List.mem_cons_of_mem | apply List.mem_append_right))
local macro_rules | `(tactic| eq_refl) => `(tactic| first
  | ((with_reducible refine wr_go ?_); first
    | ((with_reducible refine w_Vg ?_); first
      | with_reducible refine w_V0 ?_
      | with_reducible refine w_V1 ?_
      | with_reducible refine w_V2 ?_
      | with_reducible refine w_V3 ?_
      | with_reducible refine w_V4 ?_
      | with_reducible refine w_V5 ?_
      | with_reducible refine w_V6 ?_
      | with_reducible refine w_V7 ?_
      | with_reducible refine w_V8 ?_
      | with_reducible refine w_V9 ?_
      | with_reducible refine w_V10 ?_
      | with_reducible refine w_V11 ?_
      | with_reducible refine w_V12 ?_
      | with_reducible refine w_V13 ?_
      | with_reducible refine w_V14 ?_
      | with_reducible refine w_V15 ?_
      | with_reducible refine w_V16 ?_
      | with_reducible refine w_V17 ?_
      | with_reducible refine w_V18 ?_
      | with_reducible refine w_V19 ?_
      | with_reducible refine w_V20 ?_
      | with_reducible refine w_V21 ?_
      | with_reducible refine w_V22 ?_
      | with_reducible refine w_V23 ?_
      | with_reducible refine w_V24 ?_
      | with_reducible refine w_V25 ?_
      | with_reducible refine w_V26 ?_
      | with_reducible refine w_V27 ?_
      | with_reducible refine w_V28 ?_
      | with_reducible refine w_V29 ?_
      | with_reducible refine w_V30 ?_
      | with_reducible refine w_V31 ?_
      | refine w_V (by exact rfl) ?_)
    | with_reducible refine w_C ?_
    | with_reducible refine w_cons ?_
    | with_reducible refine w_nil ?_
    | with_reducible refine w_e2 ?_
    | with_reducible refine w_call ?_
    | with_reducible refine w_tV ?_
    | with_reducible refine w_tup ?_
    | with_reducible refine w_e1 ?_
    | with_reducible refine w_fn ?_
    | with_reducible refine w_tru ?_
    | with_reducible refine w_and ?_
    | with_reducible refine w_or ?_
    | with_reducible refine w_not ?_
    | with_reducible refine w_lst ?_
    | with_reducible refine w_mt ?_
    | with_reducible refine w_mt0 ?_
    | with_reducible refine w_rng ?_
    | with_reducible refine w_rng2 ?_
    | with_reducible refine w_iSeq ?_
    | with_reducible refine w_eif ?_
    | with_reducible refine w_eAnd ?_
    | with_reducible refine w_eOr ?_
    | with_reducible refine w_eNot ?_
    | with_reducible refine w_chain ?_
    | with_reducible refine w_oN ?_
    | with_reducible refine w_oS ?_
    | with_reducible refine w_sl ?_
    | with_reducible refine w_lc ?_
    | with_reducible refine w_enm ?_
    | with_reducible refine w_dc ?_
    | ((with_reducible apply w_dict0); (focus assumption); intro l s hl H)
    | with_reducible refine w_tT ?_
    | ((with_reducible refine w_fnM ?_); simp only [List.map_cons, List.map_nil, List.cons_append, List.nil_append, List.replicate_succ, List.replicate_zero, Nat.reduceSub]))
  | ((with_reducible refine wo_go ?_); first
    | with_reducible refine o_max ?_
    | with_reducible refine o_min ?_
    | with_reducible refine o_lenT ?_
    | ((with_reducible apply o_lenL); (focus assumption); (focus (repeat (first | exact List.mem_cons_self | apply List.mem_cons_of_mem))))
    | ((with_reducible apply o_tupL); (focus assumption); (focus (repeat (first | exact List.mem_cons_self | apply List.mem_cons_of_mem))))
    | ((with_reducible apply o_sumL); (focus assumption); (focus (repeat (first | exact List.mem_cons_self | apply List.mem_cons_of_mem))))
    | ((with_reducible apply o_mul); (focus omega))
    | ((with_reducible apply o_div); (focus omega))
    | ((with_reducible apply o_mod); (focus omega))
    | ((with_reducible apply o_pow); (focus (first | omega | decide)))
    | ((with_reducible apply o_ixT); (focus (first | exact atI_zero _ _ | exact atI_one _ _ _ | exact atI_two _ _ _ _ | exact atI_three _ _ _ _ _)))
    | ((with_reducible apply o_ixL); (focus assumption); (focus (repeat (first | exact List.mem_cons_self | apply List.mem_cons_of_mem))); (focus (first | exact atI_zero _ _ | exact atI_one _ _ _ | exact atI_two _ _ _ _ | exact atI_three _ _ _ _ _)))
    | with_reducible refine o_slT ?_
    | with_reducible refine o_slA ?_
    | with_reducible refine o_iT1 ?_
    | with_reducible refine o_iT2 ?_
    | with_reducible refine o_iT3 ?_
    | with_reducible refine o_iS1 ?_
    | with_reducible refine o_iS2 ?_
    | with_reducible refine o_iS3 ?_
    | with_reducible refine o_iI1 ?_
    | with_reducible refine o_iI2 ?_
    | with_reducible refine o_iI3 ?_
    | with_reducible refine o_iB1 ?_
    | ((with_reducible apply o_ixA); (focus (first | exact atI_zero _ _ | exact atI_one _ _ _ | exact atI_two _ _ _ _ | exact atI_three _ _ _ _ _)))
    | ((with_reducible apply o_ixAL); (focus assumption); (focus (repeat (first | exact List.mem_cons_self | apply List.mem_cons_of_mem))); (focus (first | exact atI_zero _ _ | exact atI_one _ _ _ | exact atI_two _ _ _ _ | exact atI_three _ _ _ _ _)))
    | ((with_reducible apply o_listAT); (focus assumption); intro l s hl H)
    | ((with_reducible apply o_listT); (focus assumption); intro l s hl H)
    | refine wo_some ?_)
  | ((with_reducible refine wi_go ?_); first
    | with_reducible refine wi_n ?_
    | with_reducible refine wi_t ?_
    | with_reducible refine wi_f ?_
    | ((with_reducible apply wi_yes); (focus omega))
    | ((with_reducible apply wi_no); (focus omega)))
  | ((with_reducible refine bd_go ?_); first
    | ((with_reducible refine bd_nx ?_); try simp only [List.set_cons_succ, List.set_cons_zero])
    | with_reducible refine bd_rt ?_
    | with_reducible refine bd_ct ?_
    | with_reducible refine bd_bk ?_
    | with_reducible refine bd_ex ?_)
  | with_reducible refine w_seq ?_
  | with_reducible refine w_set ?_
  | with_reducible refine wb ?_
  | ((with_reducible apply tupk); (focus exact Nat.le_of_ble_eq_true rfl))
  | with_reducible refine w_sNil ?_
  | with_reducible refine w_ret ?_
  | with_reducible refine w_expr ?_
  | with_reducible refine tru_b ?_
  | with_reducible refine tru_n ?_
  | with_reducible refine tru_i ?_
  | with_reducible refine tru_t ?_
  | ((with_reducible apply tru_l); (focus assumption); (focus (repeat (first | exact List.mem_cons_self | apply List.mem_cons_of_mem))))
  | with_reducible refine is_tup ?_
  | with_reducible refine enmk ?_
  | with_reducible refine is_str ?_
  | ((with_reducible apply is_lstH); (focus assumption); (focus (repeat (first | exact List.mem_cons_self | apply List.mem_cons_of_mem))))
  | ((with_reducible apply mt_lst); (focus assumption); (focus (repeat (first | exact List.mem_cons_self | apply List.mem_cons_of_mem))))
  | with_reducible refine w_for ?_
  | with_reducible refine mt_str ?_
  | with_reducible refine oi ?_
  | with_reducible refine w_asg ?_
  | with_reducible refine w_asgL ?_
  | with_reducible refine w_put ?_
  | ((with_reducible refine w_augg ?_); refine w_aug (by exact rfl) ?_)
  | with_reducible refine w_raise ?_
  | with_reducible refine w_retN ?_
  | with_reducible refine w_brk ?_
  | with_reducible refine w_cnt ?_
  | with_reducible refine tn_nx ?_
  | with_reducible refine nx_nx ?_
  | with_reducible refine tn_ct ?_
  | with_reducible refine tn_bk ?_
  | with_reducible refine tn_rt ?_
  | with_reducible refine tn_ex ?_
  | with_reducible refine fin_rt ?_
  | with_reducible refine fin_nx ?_
  | with_reducible refine fin_ex ?_
  | ((with_reducible apply newl); (focus assumption); (focus exact Nat.le_of_ble_eq_true rfl); intro l s hl H))
local macro_rules | `(tactic| subst_eqs) => `(tactic| repeat eq_refl)
/-! ### order_of -/
abbrev lvK (ts : List (Int × Nat)) : List (L2.Key × D) := ts.map fun p => (.inl p.1, .loc p.2)
abbrev lvR (f : Str → Int) (P : List Str) (ts : List (Int × Nat)) : Hs := ts.map fun p => (p.2, Ls ((P.filter fun z => decide (f z = p.1)).map D.str))
theorem lv_get : ∀ {ts : List (Int × Nat)} {k : Int} {l : Nat}, (ts.map (·.1)).Nodup → (k, l) ∈ ts → getD (lvK ts) (.inl k) = some (.loc l)
  | p :: ts, k, l, nd, h => by
    rw [List.map_cons, List.nodup_cons] at nd
    rcases List.mem_cons.mp h with e | h
    · subst e
      simp [getD]
    · have ne : p.1 ≠ k := fun e => nd.1 (List.mem_map.mpr ⟨_, h, e.symm⟩)
      have ih := lv_get nd.2 h
      unfold getD at ih ⊢
      rw [lvK, List.map_cons, List.find?_cons]
      have : decide ((Sum.inl p.1 : L2.Key) = .inl k) = false := decide_eq_false fun e => ne (by cases e; rfl)
      simp only [this]
      exact ih
theorem lv_none {ts : List (Int × Nat)} {k : Int} : (getD (lvK ts) (.inl k)).isSome = decide (k ∈ ts.map (·.1)) := by
  induction ts with
  | nil => rfl
  | cons p ts ih =>
    unfold getD at ih ⊢
    rw [lvK, List.map_cons, List.find?_cons]
    by_cases c : p.1 = k
    · have : decide ((Sum.inl p.1 : L2.Key) = .inl k) = true := decide_eq_true (by rw [c])
      simp only [this]
      simp [c]
    · have : decide ((Sum.inl p.1 : L2.Key) = .inl k) = false := decide_eq_false fun e => c (by cases e; rfl)
      simp only [this]
      rw [ih]
      simp [Ne.symm c]
theorem lv_put {ts : List (Int × Nat)} {k : Int} {l : Nat} (h : k ∉ ts.map (·.1)) : putD (lvK ts) (.inl k) (.loc l) = lvK (ts ++ [(k, l)]) := by
  unfold putD
  rw [if_neg, lvK, lvK, List.map_append]
  · rfl
  · intro c
    obtain ⟨kv, h1, h2⟩ := List.any_eq_true.mp c
    obtain ⟨p, hp, rfl⟩ := List.mem_map.mp h1
    have e := of_decide_eq_true h2
    exact h (List.mem_map.mpr ⟨p, hp, by cases e; rfl⟩)
theorem lv_ints : ∀ ts : List (Int × Nat), intKs (lvK ts) = some (ts.map (·.1))
  | [] => rfl
  | p :: ts => by show (intKs (lvK ts)).map (p.1 :: ·) = _; rw [lv_ints ts]; rfl
theorem setI_congr {a b : List Int} (h : ∀ k, k ∈ a ↔ k ∈ b) : setI a = setI b := asc_uniq setI_asc setI_asc fun k => by rw [setI_mem, setI_mem]; exact h k
theorem setI_len : ∀ ns : List Int, (setI ns).length ≤ ns.length := fun ns => by
  induction ns with
  | nil => simp [setI]
  | cons k r ih =>
    have q : ∀ (k : Int) (l : List Int), (insI k l).length ≤ l.length + 1 := fun k l => by
      induction l with
      | nil => simp [insI]
      | cons x r ih =>
        unfold insI
        split
        · simp
        · split
          · simp
          · simp; omega
    have := q k (setI r)
    show (insI k (setI r)).length ≤ _
    simp
    omega
section
variable {s : Store} {Z : Hs} {K : D → Store → Prop} {E : Ex → Store → Prop} {d : D} {l : Nat}
theorem o_srtD {ts : List (Int × Nat)} (H : Has s Z) (hm : (l, Is (.dic (lvK ts))) ∈ Z) (nd : (ts.map (·.1)).Nodup) (h : ts.length < 64) (k : ∀ l s', s.length ≤ l → Has s' ((l, Ls ((setI (ts.map (·.1))).map D.int)) :: Z) → K (.loc l) s') : WO (dSortedD [.loc l] s) K := by
  refine wo_eq (d := .loc s.length) (s := s ++ [.lst ((setI (ts.map (·.1))).map D.int)]) ?_ (k _ _ (Nat.le_refl _) (H.new _))
  have e : dicOf s (.loc l) = some (l, lvK ts) := by simp [dicOf, H.is hm]
  unfold dSortedD
  simp only [e]
  rw [lv_ints, Option.bind_some, if_pos ⟨nd, by simpa using h⟩]
theorem orderof_w {ch deeds : List Str} {a b c : D} {f : Str → Int} (H : Has s Z) (nd : deeds.Nodup) (dl : deeds.length ≤ 1000) (sub : ∀ z ∈ ch, z ∈ deeds) (cl : ch.length < 64) (k : ∀ s' Y, Has s' (Y ++ Z) → K (.tup ((rowsF f ch).map rowD)) s') : WR (m_order_of [.tup [a, b, rowD deeds, c], rowD ch, .tup ((deeds.map f).map D.int)] s) K E := by
  unfold m_order_of b_order_of
  subst_eqs
  refine places_w H nd dl fun pl ks s H hks => ?_
  subst_eqs
  rename_i lv s _ H
  refine w_forA (fun i env s => ∃ (ts : List (Int × Nat)) (o5 o6 : Option D), ts.length ≤ i ∧ (ts.map (·.1)).Nodup ∧ (∀ k, k ∈ ts.map (·.1) ↔ ∃ z ∈ ch.take i, f z = k) ∧ env = [some (.tup [a, b, rowD deeds, c]), some (rowD ch), some (.tup ((deeds.map f).map D.int)), some (.loc pl), some (.loc lv), o5, o6] ∧
    Has s ((lv, Is (.dic (lvK ts))) :: (pl, Is (.dic ks)) :: (lvR f (ch.take i) ts ++ Z))) ⟨[], _, _, by simp, by simp, by simp, rfl, H⟩ (fun _ _ _ _ => trivial) ?_ ?_
  · rintro i x env s hx ⟨ts, o5, o6, tl, tn, tm, rfl, H⟩
    obtain ⟨z, hz, rfl⟩ := map_get hx
    have hi : i < ch.length := (List.getElem?_eq_some_iff.mp hz).1
    obtain ⟨j, hj, ej⟩ := List.getElem_of_mem (sub z (List.mem_of_getElem? hz))
    have hj' : deeds[j]? = some z := by rw [List.getElem?_eq_getElem hj, ej]
    rw [turn_gN]
    simp only [List.set_cons_succ, List.set_cons_zero]
    unfold bl_order_of_2
    subst_eqs
    refine o_ixAD H (.tail _ (.head _)) rfl (hks j z hj') ?_
    subst_eqs
    refine o_ixATm (by omega) (by simp; omega) fun x _ hx => ?_
    rw [Int.toNat_natCast, List.getElem?_map, List.getElem?_map, hj'] at hx
    cases hx
    subst_eqs
    refine bd_cut (fun env s => ∃ (ts : List (Int × Nat)), ts.length ≤ i + 1 ∧ (ts.map (·.1)).Nodup ∧ (∀ k, k ∈ ts.map (·.1) ↔ ∃ z ∈ ch.take (i + 1), f z = k) ∧ env = [some (.tup [a, b, rowD deeds, c]), some (rowD ch), some (.tup ((deeds.map f).map D.int)), some (.loc pl), some (.loc lv), some (.str z), some (.int (f z))] ∧
      Has s ((lv, Is (.dic (lvK ts))) :: (pl, Is (.dic ks)) :: (lvR f (ch.take i) ts ++ Z))) ?_ ?_
    · refine w_if ?_
      subst_eqs
      refine o_notD H (.head _) rfl ?_
      rw [lv_none]
      subst_eqs
      refine wi_d (fun c => ?_) (fun c => ?_)
      · subst_eqs
        refine ⟨ts, by omega, tn, fun k => ?_, rfl, H⟩
        rw [tm, takeA hz]
        constructor
        · rintro ⟨y, hy, e⟩
          exact ⟨y, List.mem_append_left _ hy, e⟩
        · rintro ⟨y, hy, e⟩
          rcases List.mem_append.mp hy with h | h
          · exact ⟨y, h, e⟩
          · rw [List.mem_singleton.mp h] at e
            rw [← tm, ← e]
            exact c
      · subst_eqs
        rename_i l' s hl' H
        refine pk_dic H 1 rfl rfl (by simp; omega) fun s H => ?_
        subst_eqs
        rw [lv_put c] at H
        refine ⟨ts ++ [(f z, l')], by simp; omega, ?_, fun k => ?_, rfl, ?_⟩
        · rw [List.map_append, List.nodup_append]
          refine ⟨tn, by simp, ?_⟩
          intro a ha b hb
          simp at hb
          subst hb
          exact fun e => c (e ▸ ha)
        · rw [List.map_append, List.mem_append, tm, takeA hz]
          constructor
          · rintro (⟨y, hy, e⟩ | h)
            · exact ⟨y, List.mem_append_left _ hy, e⟩
            · simp at h
              exact ⟨z, by simp, h.symm⟩
          · rintro ⟨y, hy, e⟩
            rcases List.mem_append.mp hy with h | h
            · exact .inl ⟨y, h, e⟩
            · rw [List.mem_singleton.mp h] at e
              exact .inr (by simp [e])
        · have e0 : (ch.take i).filter (fun y => decide (f y = f z)) = [] := by
            rw [List.filter_eq_nil_iff]
            intro y hy q
            exact c ((tm (f z)).mpr ⟨y, hy, of_decide_eq_true q⟩)
          have e1 : lvR f (ch.take i) (ts ++ [(f z, l')]) = lvR f (ch.take i) ts ++ [(l', Ls [])] := by
            simp only [lvR, List.map_append, List.map_cons, List.map_nil, e0]
          rw [e1, List.append_assoc]
          refine H.perm ?_
          show ((l', Ls []) :: (lv, _) :: (pl, _) :: _).Perm _
          refine (List.Perm.swap ..).trans (List.Perm.cons _ ((List.Perm.swap ..).trans (List.Perm.cons _ ?_)))
          exact List.perm_middle.symm
    rintro _ s ⟨ts, tl, tn, tm, rfl, H⟩
    have km : f z ∈ ts.map (·.1) := (tm _).mpr ⟨z, by rw [takeA hz]; simp, rfl⟩
    obtain ⟨p, hp, ep⟩ := List.mem_map.mp km
    obtain ⟨k0, l0⟩ := p
    simp only at ep
    subst ep
    obtain ⟨m, hm, em⟩ := List.getElem_of_mem hp
    subst_eqs
    refine o_ixAD H (.head _) rfl (lv_get tn hp) ?_
    have mm : (l0, Ls (((ch.take i).filter fun y => decide (f y = f z)).map D.str)) ∈ (lv, Is (.dic (lvK ts))) :: (pl, Is (.dic ks)) :: (lvR f (ch.take i) ts ++ Z) := .tail _ (.tail _ (List.mem_append_left _ (List.mem_map.mpr ⟨_, hp, rfl⟩)))
    refine mt_lst H mm ?_
    subst_eqs
    have hmR : m < (lvR f (ch.take i) ts).length := by simpa using hm
    refine o_app H (m + 2) (xs := ((ch.take i).filter fun y => decide (f y = f z)).map D.str) (by
      show (lvR f (ch.take i) ts ++ Z)[m]? = _
      rw [List.getElem?_append_left hmR, List.getElem?_map, List.getElem?_eq_getElem hm, em]
      rfl) (by
      rw [List.length_map]
      have := List.length_filter_le (fun y => decide (f y = f z)) (ch.take i)
      rw [List.length_take] at this
      omega) fun s H => ?_
    subst_eqs
    refine ⟨ts, _, _, tl, tn, tm, rfl, ?_⟩
    have e : lvR f (ch.take (i + 1)) ts = (lvR f (ch.take i) ts).set m (l0, Ls (((ch.take i).filter fun y => decide (f y = f z)).map D.str ++ [.str z])) := by
      apply List.ext_getElem?
      intro n
      rw [List.getElem?_set]
      by_cases q : m = n
      · subst q
        rw [if_pos rfl, if_pos hmR, List.getElem?_map, List.getElem?_eq_getElem hm, em, takeA hz]
        simp
      · rw [if_neg q, List.getElem?_map, List.getElem?_map]
        cases e : ts[n]? with
        | none => rfl
        | some p =>
          obtain ⟨hn, en⟩ := List.getElem?_eq_some_iff.mp e
          have ne : f z ≠ p.1 := fun e2 => by
            have a1 : (ts.map (·.1))[m]'(by simpa using hm) = f z := by simp [em]
            have a2 : (ts.map (·.1))[n]'(by simpa using hn) = f z := by simp [en, e2]
            rcases Nat.lt_or_ge m n with w | w
            · exact List.pairwise_iff_getElem.mp tn m n (by simpa using hm) (by simpa using hn) w (a1.trans a2.symm)
            · exact List.pairwise_iff_getElem.mp tn n m (by simpa using hn) (by simpa using hm) (by omega) (a2.trans a1.symm)
          rw [takeA hz]
          simp [ne]
    rw [e, ← List.set_append_left _ _ hmR]
    exact H
  · rintro env s ⟨ts, o5, o6, tl, tn, tm, rfl, H⟩
    rw [List.length_map, List.take_length] at tm H
    rw [List.length_map] at tl
    have eT : setI (ts.map (·.1)) = setI (ch.map f) := setI_congr fun k => by rw [tm, List.mem_map]
    subst_eqs
    refine o_srtD H (.head _) tn (by omega) fun lt s _ H => ?_
    rw [eT] at H
    subst_eqs
    have tl2 := setI_len (ch.map f)
    rw [List.length_map] at tl2
    refine w_lcA (fun i acc s => acc = (((setI (ch.map f)).take i).map fun t => rowD (ch.filter fun z => decide (f z = t))) ∧ Has s ((lt, Ls ((setI (ch.map f)).map D.int)) :: (lv, Is (.dic (lvK ts))) :: (pl, Is (.dic ks)) :: (lvR f ch ts ++ Z))) ⟨rfl, H⟩ (by simp; omega) (fun i acc s ⟨_, H⟩ => H.lst List.mem_cons_self) (fun i x acc s hx _ ⟨ha, H⟩ => ?_) (fun acc s _ ⟨ha, H⟩ => ?_)
    · obtain ⟨t, ht, rfl⟩ := map_get hx
      have km : t ∈ ts.map (·.1) := (tm t).mpr (List.mem_map.mp (setI_mem.mp (List.mem_of_getElem? ht)))
      obtain ⟨p, hp, rfl⟩ := List.mem_map.mp km
      refine pk_gN ?_
      unfold le_order_of_1
      subst_eqs
      refine o_ixAD H (.tail _ (.head _)) rfl (lv_get tn hp) ?_
      subst_eqs
      · exact List.mem_append_left _ (List.mem_map.mpr ⟨p, hp, rfl⟩)
      subst_eqs
      exact ⟨by rw [ha, takeA ht]; simp, H⟩
    · rw [List.length_map, List.take_length] at ha
      have H := H.new (.lst acc)
      generalize s.length = l2, s ++ [.lst acc] = s at *
      subst_eqs
      have e : (rowsF f ch).map rowD = acc := by rw [ha, rowsF, List.map_map]; rfl
      rw [← e]
      exact k s ((l2, Ls acc) :: (lt, Ls ((setI (ch.map f)).map D.int)) :: (lv, Is (.dic (lvK ts))) :: (pl, Is (.dic ks)) :: lvR f ch ts) (by simpa using H)
end
end Law
namespace Law
open PySem Mi
local macro_rules | `(tactic| ac_rfl) => `(tactic| repeat (first | exact List.mem_cons_self | assumption | apply List.mem_cons_of_mem | apply List.mem_append_right))
local macro_rules | `(tactic| eq_refl) => `(tactic| first
  | ((with_reducible refine wr_go ?_); first
    | ((with_reducible refine w_Vg ?_); first
      | with_reducible refine w_V0 ?_
      | with_reducible refine w_V1 ?_
      | with_reducible refine w_V2 ?_
      | with_reducible refine w_V3 ?_
      | with_reducible refine w_V4 ?_
      | with_reducible refine w_V5 ?_
      | with_reducible refine w_V6 ?_
      | with_reducible refine w_V7 ?_
      | with_reducible refine w_V8 ?_
      | with_reducible refine w_V9 ?_
      | with_reducible refine w_V10 ?_
      | with_reducible refine w_V11 ?_
      | with_reducible refine w_V12 ?_
      | with_reducible refine w_V13 ?_
      | with_reducible refine w_V14 ?_
      | with_reducible refine w_V15 ?_
      | with_reducible refine w_V16 ?_
      | with_reducible refine w_V17 ?_
      | with_reducible refine w_V18 ?_
      | with_reducible refine w_V19 ?_
      | with_reducible refine w_V20 ?_
      | with_reducible refine w_V21 ?_
      | with_reducible refine w_V22 ?_
      | with_reducible refine w_V23 ?_
      | with_reducible refine w_V24 ?_
      | with_reducible refine w_V25 ?_
      | with_reducible refine w_V26 ?_
      | with_reducible refine w_V27 ?_
      | with_reducible refine w_V28 ?_
      | with_reducible refine w_V29 ?_
      | with_reducible refine w_V30 ?_
      | with_reducible refine w_V31 ?_
      | refine w_V (by exact rfl) ?_)
    | with_reducible refine w_C ?_
    | with_reducible refine w_cons ?_
    | with_reducible refine w_nil ?_
    | with_reducible refine w_e2 ?_
    | with_reducible refine w_call ?_
    | with_reducible refine w_tV ?_
    | with_reducible refine w_tup ?_
    | with_reducible refine w_e1 ?_
    | with_reducible refine w_fn ?_
    | with_reducible refine w_tru ?_
    | with_reducible refine w_and ?_
    | with_reducible refine w_or ?_
    | with_reducible refine w_not ?_
    | with_reducible refine w_lst ?_
    | with_reducible refine w_mt ?_
    | with_reducible refine w_mt0 ?_
    | with_reducible refine w_rng ?_
    | with_reducible refine w_rng2 ?_
    | with_reducible refine w_iSeq ?_
    | with_reducible refine w_eif ?_
    | with_reducible refine w_eAnd ?_
    | with_reducible refine w_eOr ?_
    | with_reducible refine w_eNot ?_
    | with_reducible refine w_chain ?_
    | with_reducible refine w_oN ?_
    | with_reducible refine w_oS ?_
    | with_reducible refine w_sl ?_
    | with_reducible refine w_lc ?_
    | with_reducible refine w_enm ?_
    | with_reducible refine w_dc ?_
    | ((with_reducible apply w_dict0); (focus assumption); intro l s hl H)
    | with_reducible refine w_tT ?_
    | ((with_reducible refine w_fnM ?_); simp only [List.map_cons, List.map_nil, List.cons_append, List.nil_append, List.replicate_succ, List.replicate_zero, Nat.reduceSub]))
  | ((with_reducible refine wo_go ?_); first
    | with_reducible refine o_max ?_
    | with_reducible refine o_min ?_
    | with_reducible refine o_lenT ?_
    | ((with_reducible apply o_lenL); (focus assumption); (focus (repeat (first | exact List.mem_cons_self | apply List.mem_cons_of_mem))))
    | ((with_reducible apply o_tupL); (focus assumption); (focus (repeat (first | exact List.mem_cons_self | apply List.mem_cons_of_mem))))
    | ((with_reducible apply o_sumL); (focus assumption); (focus (repeat (first | exact List.mem_cons_self | apply List.mem_cons_of_mem))))
    | ((with_reducible apply o_mul); (focus omega))
    | ((with_reducible apply o_div); (focus omega))
    | ((with_reducible apply o_mod); (focus omega))
    | ((with_reducible apply o_pow); (focus (first | omega | decide)))
    | ((with_reducible apply o_ixT); (focus (first | exact atI_zero _ _ | exact atI_one _ _ _ | exact atI_two _ _ _ _ | exact atI_three _ _ _ _ _)))
    | ((with_reducible apply o_ixL); (focus assumption); (focus (repeat (first | exact List.mem_cons_self | apply List.mem_cons_of_mem))); (focus (first | exact atI_zero _ _ | exact atI_one _ _ _ | exact atI_two _ _ _ _ | exact atI_three _ _ _ _ _)))
    | with_reducible refine o_slT ?_
    | with_reducible refine o_slA ?_
    | with_reducible refine o_iT1 ?_
    | with_reducible refine o_iT2 ?_
    | with_reducible refine o_iT3 ?_
    | with_reducible refine o_iS1 ?_
    | with_reducible refine o_iS2 ?_
    | with_reducible refine o_iS3 ?_
    | with_reducible refine o_iI1 ?_
    | with_reducible refine o_iI2 ?_
    | with_reducible refine o_iI3 ?_
    | with_reducible refine o_iB1 ?_
    | ((with_reducible apply o_ixA); (focus (first | exact atI_zero _ _ | exact atI_one _ _ _ | exact atI_two _ _ _ _ | exact atI_three _ _ _ _ _)))
    | ((with_reducible apply o_ixAL); (focus assumption); (focus (repeat (first | exact List.mem_cons_self | apply List.mem_cons_of_mem))); (focus (first | exact atI_zero _ _ | exact atI_one _ _ _ | exact atI_two _ _ _ _ | exact atI_three _ _ _ _ _)))
    | ((with_reducible apply o_listAT); (focus assumption); intro l s hl H)
    | ((with_reducible apply o_listT); (focus assumption); intro l s hl H)
    | refine wo_some ?_)
  | ((with_reducible refine wi_go ?_); first
    | with_reducible refine wi_n ?_
    | with_reducible refine wi_t ?_
    | with_reducible refine wi_f ?_
    | ((with_reducible apply wi_yes); (focus omega))
    | ((with_reducible apply wi_no); (focus omega)))
  | ((with_reducible refine bd_go ?_); first
    | ((with_reducible refine bd_nx ?_); try simp only [List.set_cons_succ, List.set_cons_zero])
    | with_reducible refine bd_rt ?_
    | with_reducible refine bd_ct ?_
    | with_reducible refine bd_bk ?_
    | with_reducible refine bd_ex ?_)
  | with_reducible refine w_seq ?_
  | with_reducible refine w_set ?_
  | with_reducible refine wb ?_
  | ((with_reducible apply tupk); (focus exact Nat.le_of_ble_eq_true rfl))
  | with_reducible refine w_sNil ?_
  | with_reducible refine w_ret ?_
  | with_reducible refine w_expr ?_
  | with_reducible refine tru_b ?_
  | with_reducible refine tru_n ?_
  | with_reducible refine tru_i ?_
  | with_reducible refine tru_t ?_
  | ((with_reducible apply tru_l); (focus assumption); (focus (repeat (first | exact List.mem_cons_self | apply List.mem_cons_of_mem))))
  | with_reducible refine is_tup ?_
  | with_reducible refine enmk ?_
  | with_reducible refine is_str ?_
  | ((with_reducible apply is_lstH); (focus assumption); (focus (repeat (first | exact List.mem_cons_self | apply List.mem_cons_of_mem))))
  | ((with_reducible apply mt_lst); (focus assumption); (focus (repeat (first | exact List.mem_cons_self | apply List.mem_cons_of_mem))))
  | with_reducible refine w_for ?_
  | with_reducible refine mt_str ?_
  | with_reducible refine oi ?_
  | with_reducible refine w_asg ?_
  | with_reducible refine w_asgL ?_
  | with_reducible refine w_put ?_
  | ((with_reducible refine w_augg ?_); refine w_aug (by exact rfl) ?_)
  | with_reducible refine w_raise ?_
  | with_reducible refine w_retN ?_
  | with_reducible refine w_brk ?_
  | with_reducible refine w_cnt ?_
  | with_reducible refine tn_nx ?_
  | with_reducible refine nx_nx ?_
  | with_reducible refine tn_ct ?_
  | with_reducible refine tn_bk ?_
  | with_reducible refine tn_rt ?_
  | with_reducible refine tn_ex ?_
  | with_reducible refine fin_rt ?_
  | with_reducible refine fin_nx ?_
  | with_reducible refine fin_ex ?_
  | ((with_reducible apply newl); (focus assumption); (focus exact Nat.le_of_ble_eq_true rfl); intro l s hl H))
local macro_rules | `(tactic| subst_eqs) => `(tactic| repeat eq_refl)
/-! ### the law's deeds -/
theorem cutTk (xs : List D) {k : Nat} (h : k ≤ xs.length) : Mi.cutD xs none (some (k : Int)) = xs.take k := by
  unfold Mi.cutD
  rw [HT.sIx_none, HT.sIx_nat, Nat.min_eq_left h]
  simp
theorem cutDr (xs : List D) {k : Nat} (h : k ≤ xs.length) : Mi.cutD xs (some (k : Int)) none = xs.drop k := by
  unfold Mi.cutD
  rw [HT.sIx_none, HT.sIx_nat, Nat.min_eq_left h, List.take_of_length_le (by simp)]
def lets : List Str := ["a", "b", "k", "pit", "q", "cut"]
def tails : List Str := ["", "0", "1", "7", "'", "0'", "ab", "9z"]
def allW : List Str := lets.flatMap fun a => tails.map fun b => a ++ b
theorem allW_len : allW.length = 48 := by decide +kernel
theorem allW_nd : allW.Nodup := by decide +kernel
theorem allW_ok : ∀ w ∈ allW, (∀ c ∈ cp w, c < 1000) ∧ w.length ≤ 5 := by decide +kernel
section
variable {s : Store} {Z : Hs} {K : D → Store → Prop} {E : Ex → Store → Prop} {d : D} {l p c : Nat}
theorem deeds_w (H : Has s Z) (hp : (p, IsPl c) ∈ Z) (hc : (c, IsCs) ∈ Z) {n : Nat} (hn : n ≤ 48) (k : ∀ (ws : List Str) s' Y, Has s' (Y ++ Z) → ws.length = n → (∀ w ∈ ws, w ∈ allW) → (ws.Pairwise fun x y => cp x < cp y) → K (rowD ws) s') : WR (m_d_law_deeds [.loc p, .int (n : Nat)] s) K E := by
  unfold m_d_law_deeds b_d_law_deeds
  subst_eqs
  rename_i l2 s _ H l3 s _ H l4 s _ H
  show Bd _ _ (forL (fun s2 => s2[l2]? = some (.lst (lets.map D.str))) (gN 5) bl_d_law_deeds_3 (lets.map D.str) _ s)
  refine bd_cut (fun env s => ∃ (o5 o6 : Option D), env = [some (.loc p), some (.int (n : Nat)), some (.loc l2), some (.loc l3), some (.loc l4), o5, o6, none, none, none] ∧ Has s ((l4, Ls (allW.map D.str)) :: (l3, Ls (tails.map D.str)) :: (l2, Ls (lets.map D.str)) :: Z)) ?_ ?_
  · refine w_forA (fun i env s => ∃ (o5 o6 : Option D), env = [some (.loc p), some (.int (n : Nat)), some (.loc l2), some (.loc l3), some (.loc l4), o5, o6, none, none, none] ∧ Has s ((l4, Ls (((lets.take i).flatMap fun a => tails.map fun b => a ++ b).map D.str)) :: (l3, Ls (tails.map D.str)) :: (l2, Ls (lets.map D.str)) :: Z)) ⟨_, _, rfl, H⟩ (fun i env s ⟨_, _, _, H⟩ => H.lst (.tail _ (.tail _ (.head _)))) ?_ ?_
    · rintro i x env s hx ⟨o5, o6, rfl, H⟩
      obtain ⟨a, ha, rfl⟩ := map_get hx
      have hi : i < 6 := (List.getElem?_eq_some_iff.mp ha).1
      have al : a.length ≤ 3 := by
        have : ∀ w ∈ lets, w.length ≤ 3 := by decide +kernel
        exact this a (List.mem_of_getElem? ha)
      rw [turn_gN]
      simp only [List.set_cons_succ, List.set_cons_zero]
      unfold bl_d_law_deeds_3
      refine w_for ?_
      refine wr_go ?_
      refine w_iSeq ?_
      refine w_V3 ?_
      refine is_lst (xs := tails.map D.str) (H.lst (.tail _ (.head _))) ?_
      refine w_forA (fun j env s => ∃ (o6 : Option D), env = [some (.loc p), some (.int (n : Nat)), some (.loc l2), some (.loc l3), some (.loc l4), some (.str a), o6, none, none, none] ∧ Has s ((l4, Ls ((((lets.take i).flatMap fun a => tails.map fun b => a ++ b) ++ (tails.take j).map fun b => a ++ b).map D.str)) :: (l3, Ls (tails.map D.str)) :: (l2, Ls (lets.map D.str)) :: Z)) ⟨_, rfl, by simpa using H⟩ (fun i env s ⟨_, _, H⟩ => H.lst (.tail _ (.head _))) ?_ ?_
      · rintro j x env s hx ⟨o6, rfl, H⟩
        obtain ⟨b, hb, rfl⟩ := map_get hx
        have hj : j < 8 := (List.getElem?_eq_some_iff.mp hb).1
        have bl : b.length ≤ 2 := by
          have : ∀ w ∈ tails, w.length ≤ 2 := by decide +kernel
          exact this b (List.mem_of_getElem? hb)
        rw [turn_gN]
        simp only [List.set_cons_succ, List.set_cons_zero]
        unfold bl_d_law_deeds_2
        subst_eqs
        refine wo_eq (dAdd_s (by omega) _) ?_
        subst_eqs
        have zl : ((lets.take i).flatMap fun a => tails.map fun b => a ++ b).length ≤ 48 := by
          have q : ∀ L : List Str, (L.flatMap fun a => tails.map fun b => a ++ b).length = 8 * L.length := fun L => by
            induction L with
            | nil => rfl
            | cons a L ih =>
              rw [List.flatMap_cons, List.length_append, ih, List.length_map, List.length_cons, show tails.length = 8 from rfl]
              omega
          rw [q, List.length_take]
          omega
        refine o_app H 0 rfl (by rw [List.length_map, List.length_append, List.length_map, List.length_take]; omega) fun s H => ?_
        subst_eqs
        refine ⟨_, rfl, ?_⟩
        rw [takeA hb]
        simpa using H
      · rintro env s ⟨o6, rfl, H⟩
        rw [List.length_map, List.take_length] at H
        subst_eqs
        refine ⟨_, _, rfl, ?_⟩
        rw [takeA ha]
        simpa using H
    · rintro env s ⟨o5, o6, rfl, H⟩
      rw [List.length_map, List.take_length] at H
      subst_eqs
      exact ⟨_, _, rfl, H⟩
  rintro _ s ⟨o5, o6, rfl, H⟩
  subst_eqs
  rename_i lo s _ H
  refine rg (n := n) rfl (by omega) ?_
  refine w_forN (fun i env s => ∃ (lw : Nat) (W O : List Str) (Y : Hs) (o8 o9 : Option D), env = [some (.loc p), some (.int (n : Nat)), some (.loc l2), some (.loc l3), some (.loc lw), o5, o6, some (.loc lo), o8, o9] ∧ O.length = i ∧ (W ++ O).Perm allW ∧ Has s ((lo, Ls (O.map D.str)) :: (lw, Ls (W.map D.str)) :: (Y ++ Z))) ⟨l4, allW, [], [_, _], _, _, rfl, rfl, by simp, H⟩ ?_ ?_
  · rintro i env s hi ⟨lw, W, O, Y, o8, o9, rfl, ol, pm, H⟩
    have wl : W.length + i = 48 := by
      have := pm.length_eq
      rw [List.length_append, allW_len] at this
      omega
    simp only [List.set_cons_succ, List.set_cons_zero]
    unfold bl_d_law_deeds_1
    subst_eqs
    refine draw_w H (.tail _ (.tail _ (List.mem_append_right _ hp))) (.tail _ (.tail _ (List.mem_append_right _ hc))) (by simp; omega) (by simp; omega) fun j s j0 j1 H => ?_
    obtain ⟨j, rfl⟩ := Int.eq_ofNat_of_zero_le j0
    rw [List.length_map] at j1
    have hj : j < W.length := by omega
    subst_eqs
    refine o_ixALm H (.tail _ (.head _)) (by omega) (by simp; omega) fun x _ hx => ?_
    rw [Int.toNat_natCast] at hx
    obtain ⟨w, hw, rfl⟩ := map_get hx
    obtain ⟨_, ew⟩ := List.getElem?_eq_some_iff.mp hw
    subst_eqs
    refine o_app H 0 rfl (by simp; omega) fun s H => ?_
    simp only [List.set_cons_zero] at H
    subst_eqs
    refine o_slAL H (.tail _ (.head _)) fun k1 s _ H => ?_
    subst_eqs
    refine o_slAL H (.tail _ (.tail _ (.head _))) fun k2 s _ H => ?_
    rw [cutTk _ (by simp; omega), show ((j : Int) + 1) = ((j + 1 : Nat) : Int) from rfl, cutDr _ (by simp; omega)] at H
    subst_eqs
    refine o_addL H (.tail _ (.head _)) (.head _) (by simp; omega) fun k3 s _ H => ?_
    subst_eqs
    have H2 := (H.perm (List.perm_middle (l₁ := [_, _, _]))).weak (.cons₂ _ (.cons₂ _ (.cons _ (.cons _ (.cons _ (.refl _))))))
    refine ⟨k3, W.take j ++ W.drop (j + 1), O ++ [w], Y, _, _, rfl, by simp; omega, ?_, H2.wk (.cons (fun c h => ?_) (.cons (fun c h => ?_) .refl))⟩
    · refine List.Perm.trans ?_ pm
      have e : W = W.take j ++ w :: W.drop (j + 1) := by
        rw [← ew, ← List.drop_eq_getElem_cons, List.take_append_drop]
      rw [List.append_assoc]
      conv => rhs; rw [e, List.append_assoc]
      refine List.Perm.append_left _ ?_
      rw [← List.append_assoc]
      exact List.perm_append_comm
    · simpa using h
    · simpa using h
  · rintro env s ⟨lw, W, O, Y, o8, o9, rfl, ol, pm, H⟩
    have nd : O.Nodup := (List.nodup_append.mp (pm.nodup_iff.mpr allW_nd)).2.1
    subst_eqs
    refine o_srtL H (.head _) fun ls s _ H => ?_
    subst_eqs
    have pO := srtZ_perm O
    refine k (srtZ O) s ((ls, _) :: (lo, _) :: (lw, _) :: Y) (by simpa using H) (by rw [pO.length_eq]; exact ol) (fun w hw => pm.mem_iff.mp (List.mem_append_right _ (pO.mem_iff.mp hw))) ?_
    have nS : (srtZ O).Nodup := pO.nodup_iff.mpr nd
    exact (srtZ_fix nS).mp ((srtZ_eq.mpr pO).symm)
end
end Law
namespace Law
open PySem Mi
local macro_rules | `(tactic| ac_rfl) => `(tactic| repeat (first | exact List.mem_cons_self | assumption | apply List.mem_cons_of_mem | apply List.mem_append_right))
local macro_rules | `(tactic| eq_refl) => `(tactic| first
  | ((with_reducible refine wr_go ?_); first
    | ((with_reducible refine w_Vg ?_); first
      | with_reducible refine w_V0 ?_
      | with_reducible refine w_V1 ?_
      | with_reducible refine w_V2 ?_
      | with_reducible refine w_V3 ?_
      | with_reducible refine w_V4 ?_
      | with_reducible refine w_V5 ?_
      | with_reducible refine w_V6 ?_
      | with_reducible refine w_V7 ?_
      | with_reducible refine w_V8 ?_
      | with_reducible refine w_V9 ?_
      | with_reducible refine w_V10 ?_
      | with_reducible refine w_V11 ?_
      | with_reducible refine w_V12 ?_
      | with_reducible refine w_V13 ?_
      | with_reducible refine w_V14 ?_
      | with_reducible refine w_V15 ?_
      | with_reducible refine w_V16 ?_
      | with_reducible refine w_V17 ?_
      | with_reducible refine w_V18 ?_
      | with_reducible refine w_V19 ?_
      | with_reducible refine w_V20 ?_
      | with_reducible refine w_V21 ?_
      | with_reducible refine w_V22 ?_
      | with_reducible refine w_V23 ?_
      | with_reducible refine w_V24 ?_
      | with_reducible refine w_V25 ?_
      | with_reducible refine w_V26 ?_
      | with_reducible refine w_V27 ?_
      | with_reducible refine w_V28 ?_
      | with_reducible refine w_V29 ?_
      | with_reducible refine w_V30 ?_
      | with_reducible refine w_V31 ?_
      | refine w_V (by exact rfl) ?_)
    | with_reducible refine w_C ?_
    | with_reducible refine w_cons ?_
    | with_reducible refine w_nil ?_
    | with_reducible refine w_e2 ?_
    | with_reducible refine w_call ?_
    | with_reducible refine w_tV ?_
    | with_reducible refine w_tup ?_
    | with_reducible refine w_e1 ?_
    | with_reducible refine w_fn ?_
    | with_reducible refine w_tru ?_
    | with_reducible refine w_and ?_
    | with_reducible refine w_or ?_
    | with_reducible refine w_not ?_
    | with_reducible refine w_lst ?_
    | with_reducible refine w_mt ?_
    | with_reducible refine w_mt0 ?_
    | with_reducible refine w_rng ?_
    | with_reducible refine w_rng2 ?_
    | with_reducible refine w_iSeq ?_
    | with_reducible refine w_eif ?_
    | with_reducible refine w_eAnd ?_
    | with_reducible refine w_eOr ?_
    | with_reducible refine w_eNot ?_
    | with_reducible refine w_chain ?_
    | with_reducible refine w_oN ?_
    | with_reducible refine w_oS ?_
    | with_reducible refine w_sl ?_
    | with_reducible refine w_lc ?_
    | with_reducible refine w_enm ?_
    | with_reducible refine w_dc ?_
    | ((with_reducible apply w_dict0); (focus assumption); intro l s hl H)
    | with_reducible refine w_tT ?_
    | ((with_reducible refine w_fnM ?_); simp only [List.map_cons, List.map_nil, List.cons_append, List.nil_append, List.replicate_succ, List.replicate_zero, Nat.reduceSub]))
  | ((with_reducible refine wo_go ?_); first
    | with_reducible refine o_max ?_
    | with_reducible refine o_min ?_
    | with_reducible refine o_lenT ?_
    | ((with_reducible apply o_lenL); (focus assumption); (focus (repeat (first | exact List.mem_cons_self | apply List.mem_cons_of_mem))))
    | ((with_reducible apply o_tupL); (focus assumption); (focus (repeat (first | exact List.mem_cons_self | apply List.mem_cons_of_mem))))
    | ((with_reducible apply o_sumL); (focus assumption); (focus (repeat (first | exact List.mem_cons_self | apply List.mem_cons_of_mem))))
    | ((with_reducible apply o_mul); (focus omega))
    | ((with_reducible apply o_div); (focus omega))
    | ((with_reducible apply o_mod); (focus omega))
    | ((with_reducible apply o_pow); (focus (first | omega | decide)))
    | ((with_reducible apply o_ixT); (focus (first | exact atI_zero _ _ | exact atI_one _ _ _ | exact atI_two _ _ _ _ | exact atI_three _ _ _ _ _)))
    | ((with_reducible apply o_ixL); (focus assumption); (focus (repeat (first | exact List.mem_cons_self | apply List.mem_cons_of_mem))); (focus (first | exact atI_zero _ _ | exact atI_one _ _ _ | exact atI_two _ _ _ _ | exact atI_three _ _ _ _ _)))
    | with_reducible refine o_slT ?_
    | with_reducible refine o_slA ?_
    | with_reducible refine o_iT1 ?_
    | with_reducible refine o_iT2 ?_
    | with_reducible refine o_iT3 ?_
    | with_reducible refine o_iS1 ?_
    | with_reducible refine o_iS2 ?_
    | with_reducible refine o_iS3 ?_
    | with_reducible refine o_iI1 ?_
    | with_reducible refine o_iI2 ?_
    | with_reducible refine o_iI3 ?_
    | with_reducible refine o_iB1 ?_
    | ((with_reducible apply o_ixA); (focus (first | exact atI_zero _ _ | exact atI_one _ _ _ | exact atI_two _ _ _ _ | exact atI_three _ _ _ _ _)))
    | ((with_reducible apply o_ixAL); (focus assumption); (focus (repeat (first | exact List.mem_cons_self | apply List.mem_cons_of_mem))); (focus (first | exact atI_zero _ _ | exact atI_one _ _ _ | exact atI_two _ _ _ _ | exact atI_three _ _ _ _ _)))
    | ((with_reducible apply o_listAT); (focus assumption); intro l s hl H)
    | ((with_reducible apply o_listT); (focus assumption); intro l s hl H)
    | refine wo_some ?_)
  | ((with_reducible refine wi_go ?_); first
    | with_reducible refine wi_n ?_
    | with_reducible refine wi_t ?_
    | with_reducible refine wi_f ?_
    | ((with_reducible apply wi_yes); (focus omega))
    | ((with_reducible apply wi_no); (focus omega)))
  | ((with_reducible refine bd_go ?_); first
    | ((with_reducible refine bd_nx ?_); try simp only [List.set_cons_succ, List.set_cons_zero])
    | with_reducible refine bd_rt ?_
    | with_reducible refine bd_ct ?_
    | with_reducible refine bd_bk ?_
    | with_reducible refine bd_ex ?_)
  | with_reducible refine w_seq ?_
  | with_reducible refine w_set ?_
  | with_reducible refine wb ?_
  | ((with_reducible apply tupk); (focus exact Nat.le_of_ble_eq_true rfl))
  | with_reducible refine w_sNil ?_
  | with_reducible refine w_ret ?_
  | with_reducible refine w_expr ?_
  | with_reducible refine tru_b ?_
  | with_reducible refine tru_n ?_
  | with_reducible refine tru_i ?_
  | with_reducible refine tru_t ?_
  | ((with_reducible apply tru_l); (focus assumption); (focus (repeat (first | exact List.mem_cons_self | apply List.mem_cons_of_mem))))
  | with_reducible refine is_tup ?_
  | with_reducible refine enmk ?_
  | with_reducible refine is_str ?_
  | ((with_reducible apply is_lstH); (focus assumption); (focus (repeat (first | exact List.mem_cons_self | apply List.mem_cons_of_mem))))
  | ((with_reducible apply mt_lst); (focus assumption); (focus (repeat (first | exact List.mem_cons_self | apply List.mem_cons_of_mem))))
  | with_reducible refine w_for ?_
  | with_reducible refine mt_str ?_
  | with_reducible refine oi ?_
  | with_reducible refine w_asg ?_
  | with_reducible refine w_asgL ?_
  | with_reducible refine w_put ?_
  | ((with_reducible refine w_augg ?_); refine w_aug (by exact rfl) ?_)
  | with_reducible refine w_raise ?_
  | with_reducible refine w_retN ?_
  | with_reducible refine w_brk ?_
  | with_reducible refine w_cnt ?_
  | with_reducible refine tn_nx ?_
  | with_reducible refine nx_nx ?_
  | with_reducible refine tn_ct ?_
  | with_reducible refine tn_bk ?_
  | with_reducible refine tn_rt ?_
  | with_reducible refine tn_ex ?_
  | with_reducible refine fin_rt ?_
  | with_reducible refine fin_nx ?_
  | with_reducible refine fin_ex ?_
  | ((with_reducible apply newl); (focus assumption); (focus exact Nat.le_of_ble_eq_true rfl); intro l s hl H))
local macro_rules | `(tactic| subst_eqs) => `(tactic| repeat eq_refl)
/-! ### entries, put, arranged -/
section
variable {s : Store} {Z : Hs} {K : D → Store → Prop} {E : Ex → Store → Prop} {d : D} {l p c : Nat}
theorem entries_w (H : Has s Z) (hp : (p, IsPl c) ∈ Z) (hc : (c, IsCs) ∈ Z) {ws : List Str} {first : Int} {n : Nat} (hn : n ≤ 200) (w0 : n ≠ 0 → ws ≠ []) (wl : ws.length ≤ 1000) (k : ∀ T s', Has s' Z → K (.tup T) s') : WR (m_d_law_entries [.loc p, rowD ws, .int first, .int (n : Nat)] s) K E := by
  unfold m_d_law_entries b_d_law_entries
  subst_eqs
  rename_i lo s _ H
  refine rg (n := n) rfl (by omega) ?_
  refine w_forN (fun i env s => ∃ (T : List D) (o5 o6 o7 o8 o9 : Option D), env = [some (.loc p), some (rowD ws), some (.int first), some (.int (n : Nat)), some (.loc lo), o5, o6, o7, o8, o9] ∧ T.length ≤ i ∧ Has s ((lo, Ls T) :: Z)) ⟨[], _, _, _, _, _, rfl, by simp, H⟩ ?_ ?_
  · rintro i env s hi ⟨T, o5, o6, o7, o8, o9, rfl, tl, H⟩
    have wn : ws ≠ [] := w0 (by omega)
    have w1 : 0 < ws.length := List.length_pos_iff.mpr wn
    simp only [List.set_cons_succ, List.set_cons_zero]
    unfold bl_d_law_entries_1
    subst_eqs
    rename_i ln s _ H
    refine draw_w H (by ac_rfl) (by ac_rfl) (by omega) (by omega) fun j s j0 j1 H => ?_
    subst_eqs
    refine o_ixALm H (.head _) j0 (by simpa using j1) fun dg _ _ => ?_
    have H := H.drop
    subst_eqs
    refine draw_w H (by ac_rfl) (by ac_rfl) (by first | omega | (simp <;> omega)) (by first | omega | (simp <;> omega)) fun one s a0 a1 H => ?_
    rw [List.length_map] at a1
    subst_eqs
    refine w_if ?_
    subst_eqs
    have yes : ∀ s, Has s ((lo, Ls T) :: Z) → Turns (fun env s => ∃ (T : List D) (o5 o6 o7 o8 o9 : Option D), env = [some (.loc p), some (rowD ws), some (.int first), some (.int (n : Nat)), some (.loc lo), o5, o6, o7, o8, o9] ∧ T.length ≤ i + 1 ∧ Has s ((lo, Ls T) :: Z)) (Bd (Fin K E) (sRet (eFn dTuple (aCons (eV 4) aNil)))) ((sExpr (eMt "list" dAppend (eV 4) (aCons (eTup (aCons (eV 6) (aCons (eTup (aCons (eC (.str "years")) (aCons (e2 dIxA (eV 1) (eV 7)) (aCons (eTup (aCons (eTup (aCons (eV 2) (aCons (e2 dAdd (eV 2) (eCall m_d_law_draw (aCons (eV 0) (aCons (eC (.int 4)) (aNil))))) (aNil)))) (aNil))) (aNil))))) (aNil)))) (aNil)))) [some (.loc p), some (rowD ws), some (.int first), some (.int (n : Nat)), some (.loc lo), some (.int (i : Nat)), some dg, some (.int one), o8, o9] s) := fun s H => by
      subst_eqs
      refine o_ixATm a0 (by simpa using a1) fun w _ _ => ?_
      subst_eqs
      refine draw_w H (by ac_rfl) (by ac_rfl) (by omega) (by omega) fun j s _ _ H => ?_
      subst_eqs
      refine o_app H 0 rfl (by omega) fun s H => ?_
      subst_eqs
      exact ⟨_, _, _, _, _, _, rfl, by first | omega | (simp <;> omega), H⟩
    refine wi_d (fun c0 => ?_) (fun c0 => ?_)
    · refine wi_t ?_
      exact yes s H
    · rw [List.length_map] at c0
      subst_eqs
      refine draw_w H (by ac_rfl) (by ac_rfl) (by omega) (by omega) fun j s _ _ H => ?_
      subst_eqs
      refine wi_d (fun c1 => ?_) (fun c1 => ?_)
      · exact yes s H
      · subst_eqs
        refine draw_w H (by ac_rfl) (by ac_rfl) (by first | omega | (simp <;> omega)) (by first | omega | (simp <;> omega)) fun j s _ _ H => ?_
        subst_eqs
        have m0 : 0 ≤ (one + 1 + j) % ((ws.map D.str).length : Int) := Int.emod_nonneg _ (by first | omega | (simp <;> omega))
        have m1 : (one + 1 + j) % ((ws.map D.str).length : Int) < ((ws.map D.str).length : Int) := Int.emod_lt_of_pos _ (by first | omega | (simp <;> omega))
        generalize (one + 1 + j) % ((ws.map D.str).length : Int) = other at m0 m1
        subst_eqs
        refine o_ixATm m0 m1 fun x1 _ _ => ?_
        subst_eqs
        refine draw_w H (by ac_rfl) (by ac_rfl) (by omega) (by omega) fun j s _ _ H => ?_
        subst_eqs
        refine o_ixATm m0 m1 fun x2 _ _ => ?_
        subst_eqs
        refine draw_w H (by ac_rfl) (by ac_rfl) (by omega) (by omega) fun j s _ _ H => ?_
        subst_eqs
        have gap : ∀ s P, Has s ((lo, Ls T) :: Z) → Turns (fun env s => ∃ (T : List D) (o5 o6 o7 o8 o9 : Option D), env = [some (.loc p), some (rowD ws), some (.int first), some (.int (n : Nat)), some (.loc lo), o5, o6, o7, o8, o9] ∧ T.length ≤ i + 1 ∧ Has s ((lo, Ls T) :: Z)) (Bd (Fin K E) (sRet (eFn dTuple (aCons (eV 4) aNil)))) (sExpr (eMt "list" dAppend (eV 4) (aCons (eTup (aCons (eV 6) (aCons (eTup (aCons (eC (.str "gap")) (aCons (e2 dIxA (eV 1) (eV 7)) (aCons (e2 dIxA (eV 1) (eV 8)) (aCons (e2 dSub (eCall m_d_law_draw (aCons (eV 0) (aCons (eC (.int 5)) (aNil)))) (eC (.int 2))) (aNil)))))) (aNil)))) (aNil))) [some (.loc p), some (rowD ws), some (.int first), some (.int (n : Nat)), some (.loc lo), some (.int (i : Nat)), some dg, some (.int one), some (.int other), some P] s) := fun s P H => by
          subst_eqs
          refine o_ixATm a0 (by simpa using a1) fun w _ _ => ?_
          subst_eqs
          refine o_ixATm m0 m1 fun x3 _ _ => ?_
          subst_eqs
          refine draw_w H (by ac_rfl) (by ac_rfl) (by omega) (by omega) fun j s _ _ H => ?_
          subst_eqs
          refine o_app H 0 rfl (by omega) fun s H => ?_
          subst_eqs
          exact ⟨_, _, _, _, _, _, rfl, by first | omega | (simp <;> omega), H⟩
        refine w_if ?_
        subst_eqs
        refine wi_d (fun c2 => ?_) (fun c2 => ?_)
        · subst_eqs
          refine draw_w H (by ac_rfl) (by ac_rfl) (by omega) (by omega) fun j s _ _ H => ?_
          subst_eqs
          refine wi_d (fun c3 => ?_) (fun c3 => ?_)
          · subst_eqs
            rename_i lu s _ H
            refine draw_w H (by ac_rfl) (by ac_rfl) (by omega) (by omega) fun j s j0 j1 H => ?_
            subst_eqs
            refine o_ixALm H (.head _) j0 (by simpa using j1) fun w0 _ _ => ?_
            have H := H.drop
            subst_eqs
            refine o_ixATm a0 (by simpa using a1) fun w _ _ => ?_
            subst_eqs
            refine o_app H 0 rfl (by omega) fun s H => ?_
            subst_eqs
            exact ⟨_, _, _, _, _, _, rfl, by first | omega | (simp <;> omega), H⟩
          · exact gap s _ H
        · refine wi_f ?_
          exact gap s _ H
  · rintro env s ⟨T, o5, o6, o7, o8, o9, rfl, tl, H⟩
    subst_eqs
    exact k T s H.drop
theorem put_w {xs : List D} {i : Int} (h0 : 0 ≤ i) (h1 : i < xs.length) (xl : xs.length ≤ 1000) (k : ∀ ys, ys.length = xs.length → (∀ y ∈ ys, y ∈ xs ∨ y = d) → K (.tup ys) s) : WR (m_d_law_put [.tup xs, .int i, d] s) K E := by
  obtain ⟨i, rfl⟩ := Int.eq_ofNat_of_zero_le h0
  unfold m_d_law_put b_d_law_put
  subst_eqs
  rw [cutTk xs (by omega)]
  refine o_addT (by first | omega | (simp <;> omega)) ?_
  subst_eqs
  rw [show ((i : Int) + 1) = ((i + 1 : Nat) : Int) from rfl, cutDr xs (by omega)]
  refine o_addT (by first | omega | (simp <;> omega)) ?_
  subst_eqs
  refine k _ (by first | omega | (simp <;> omega)) fun y hy => ?_
  simp only [List.mem_append, List.mem_singleton] at hy
  rcases hy with (h | h) | h
  · exact .inl (List.mem_of_mem_take h)
  · exact .inr h
  · exact .inl (List.mem_of_mem_drop h)
theorem arranged_w {ch : List Str} (H : Has s Z) (hp : (p, IsPl c) ∈ Z) (hc : (c, IsCs) ∈ Z) (cl : ch.length < 64) (k : ∀ (f : Str → Int) s' Y, Has s' (Y ++ Z) → K (.tup ((rowsF f ch).map rowD)) s') : WR (m_d_law_arranged [.loc p, rowD ch] s) K E := by
  unfold m_d_law_arranged b_d_law_arranged
  subst_eqs
  refine draw_w H hp hc (by first | omega | (simp <;> omega)) (by first | omega | (simp <;> omega)) fun m s m0 m1 H => ?_
  rw [List.length_map] at m1
  subst_eqs
  rename_i lv s _ H
  refine w_forA (fun i env s => ∃ (ks : List (L2.Key × D)) (f : Str → Int) (o4 : Option D), env = [some (.loc p), some (rowD ch), some (.int (1 + m)), some (.loc lv), o4] ∧ ks.length ≤ i ∧ (∀ z ∈ ch.take i, getD ks (.inr z) = some (.int (f z))) ∧ Has s ((lv, Is (.dic ks)) :: Z)) ⟨[], fun _ => 0, _, rfl, by simp, by simp, H⟩ (fun _ _ _ _ => trivial) ?_ ?_
  · rintro i x env s hx ⟨ks, f, o4, rfl, kl, hf, H⟩
    obtain ⟨z, hz, rfl⟩ := map_get hx
    have hi : i < ch.length := (List.getElem?_eq_some_iff.mp hz).1
    rw [turn_gN]
    simp only [List.set_cons_succ, List.set_cons_zero]
    unfold bl_d_law_arranged_1
    subst_eqs
    refine draw_w H (.tail _ hp) (.tail _ hc) (by omega) (by omega) fun v s _ _ H => ?_
    subst_eqs
    refine pk_dic H 0 rfl rfl (by omega) fun s H => ?_
    subst_eqs
    refine ⟨_, fun y => if y = z then v else f y, _, rfl, ?_, fun y hy => ?_, H⟩
    · unfold putD
      split
      · rw [List.length_map]; omega
      · rw [List.length_append]; simp; omega
    · by_cases q : y = z
      · subst q
        dsimp only
        rw [if_pos rfl]
        exact putD_get _ _ _
      · dsimp only
        rw [if_neg q, putD_other (fun e => q (by cases e; rfl))]
        rw [takeA hz] at hy
        rcases List.mem_append.mp hy with h | h
        · exact hf y h
        · exact absurd (List.mem_singleton.mp h) q
  · rintro env s ⟨ks, f, o4, rfl, kl, hf, H⟩
    rw [List.length_map, List.take_length] at hf
    subst_eqs
    refine order_w H (.head _) hf cl fun s Y H => ?_
    subst_eqs
    exact k f s (Y ++ [(lv, Is (.dic ks))]) (by simpa using H)
end
/-! ### rows of an order -/
theorem part_perm (f : Str → Int) : ∀ {T : List Int} {ch : List Str}, T.Nodup → (∀ z ∈ ch, f z ∈ T) → ((T.map fun t => ch.filter fun z => decide (f z = t)).flatten).Perm ch
  | [], ch, _, h => by
    have : ch = [] := List.eq_nil_iff_forall_not_mem.mpr fun z hz => by have := h z hz; simp at this
    subst this
    exact .nil
  | t :: T, ch, nd, h => by
    obtain ⟨n1, n2⟩ := List.nodup_cons.mp nd
    rw [List.map_cons, List.flatten_cons]
    refine List.Perm.trans (List.Perm.append_left _ ?_) (List.filter_append_perm (fun z => decide (f z = t)) ch)
    have ih := part_perm f (T := T) (ch := ch.filter fun z => !decide (f z = t)) n2 fun z hz => by
      obtain ⟨a, b⟩ := List.mem_filter.mp hz
      rcases List.mem_cons.mp (h z a) with e | e
      · simp [e] at b
      · exact e
    refine List.Perm.trans (List.Perm.of_eq ?_) ih
    congr 1
    refine List.map_congr_left fun t' ht => ?_
    rw [List.filter_filter]
    refine List.filter_congr fun z _ => ?_
    by_cases q : f z = t'
    · have : ¬ f z = t := fun e => n1 (by rw [← e, q]; exact ht)
      simp [q]
      exact fun e => this (q.trans e)
    · simp [q]
theorem rows_perm (f : Str → Int) (ch : List Str) : (rowsF f ch).flatten.Perm ch :=
  part_perm f ((setI_asc (ns := ch.map f)).imp fun h => by omega) fun z hz => setI_mem.mpr (List.mem_map.mpr ⟨z, hz, rfl⟩)
theorem rows_good {f : Str → Int} {ch : List Str} (h : ch.Pairwise fun x y => cp x < cp y) : ∀ r ∈ rowsF f ch, Good r := fun r hr => by
  obtain ⟨t, ht, rfl⟩ := List.mem_map.mp hr
  obtain ⟨z, hz, e⟩ := List.mem_map.mp (setI_mem.mp ht)
  refine ⟨fun q => ?_, h.filter _⟩
  have : z ∈ ch.filter fun z => decide (f z = t) := List.mem_filter.mpr ⟨hz, decide_eq_true e⟩
  rw [q] at this
  simp at this
theorem rows_sub {f : Str → Int} {ch : List Str} : ∀ r ∈ rowsF f ch, ∀ z ∈ r, z ∈ ch := fun r hr z hz => by
  obtain ⟨t, ht, rfl⟩ := List.mem_map.mp hr
  exact (List.mem_filter.mp hz).1
theorem rows_len {f : Str → Int} {ch : List Str} : (rowsF f ch).length ≤ ch.length ∧ ∀ r ∈ rowsF f ch, r.length ≤ ch.length := by
  refine ⟨?_, fun r hr => ?_⟩
  · have := setI_len (ch.map f)
    rw [rowsF, List.length_map]
    simpa using this
  · obtain ⟨t, ht, rfl⟩ := List.mem_map.mp hr
    exact List.length_filter_le _ _
theorem fun_of : ∀ {ws : List Str} {ys : List Int}, ws.Nodup → ys.length = ws.length → ∃ f : Str → Int, ys = ws.map f
  | [], [], _, _ => ⟨fun _ => 0, rfl⟩
  | w :: ws, y :: ys, nd, h => by
    obtain ⟨n1, n2⟩ := List.nodup_cons.mp nd
    obtain ⟨f, e⟩ := fun_of (ws := ws) (ys := ys) n2 (by simpa using h)
    refine ⟨fun z => if z = w then y else f z, ?_⟩
    rw [List.map_cons, if_pos rfl, e]
    congr 1
    refine List.map_congr_left fun z hz => ?_
    show f z = if z = w then y else f z
    rw [if_neg (fun q : z = w => n1 (q ▸ hz))]
end Law
namespace Law
open PySem Mi
local macro_rules | `(tactic| ac_rfl) => `(tactic| repeat (first | exact List.mem_cons_self | assumption | apply List.mem_cons_of_mem | apply List.mem_append_right))
local macro_rules | `(tactic| eq_refl) => `(tactic| first
  | ((with_reducible refine wr_go ?_); first
    | ((with_reducible refine w_Vg ?_); first
      | with_reducible refine w_V0 ?_
      | with_reducible refine w_V1 ?_
      | with_reducible refine w_V2 ?_
      | with_reducible refine w_V3 ?_
      | with_reducible refine w_V4 ?_
      | with_reducible refine w_V5 ?_
      | with_reducible refine w_V6 ?_
      | with_reducible refine w_V7 ?_
      | with_reducible refine w_V8 ?_
      | with_reducible refine w_V9 ?_
      | with_reducible refine w_V10 ?_
      | with_reducible refine w_V11 ?_
      | with_reducible refine w_V12 ?_
      | with_reducible refine w_V13 ?_
      | with_reducible refine w_V14 ?_
      | with_reducible refine w_V15 ?_
      | with_reducible refine w_V16 ?_
      | with_reducible refine w_V17 ?_
      | with_reducible refine w_V18 ?_
      | with_reducible refine w_V19 ?_
      | with_reducible refine w_V20 ?_
      | with_reducible refine w_V21 ?_
      | with_reducible refine w_V22 ?_
      | with_reducible refine w_V23 ?_
      | with_reducible refine w_V24 ?_
      | with_reducible refine w_V25 ?_
      | with_reducible refine w_V26 ?_
      | with_reducible refine w_V27 ?_
      | with_reducible refine w_V28 ?_
      | with_reducible refine w_V29 ?_
      | with_reducible refine w_V30 ?_
      | with_reducible refine w_V31 ?_
      | refine w_V (by exact rfl) ?_)
    | with_reducible refine w_C ?_
    | with_reducible refine w_cons ?_
    | with_reducible refine w_nil ?_
    | with_reducible refine w_e2 ?_
    | with_reducible refine w_call ?_
    | with_reducible refine w_tV ?_
    | with_reducible refine w_tup ?_
    | with_reducible refine w_e1 ?_
    | with_reducible refine w_fn ?_
    | with_reducible refine w_tru ?_
    | with_reducible refine w_and ?_
    | with_reducible refine w_or ?_
    | with_reducible refine w_not ?_
    | with_reducible refine w_lst ?_
    | with_reducible refine w_mt ?_
    | with_reducible refine w_mt0 ?_
    | with_reducible refine w_rng ?_
    | with_reducible refine w_rng2 ?_
    | with_reducible refine w_iSeq ?_
    | with_reducible refine w_eif ?_
    | with_reducible refine w_eAnd ?_
    | with_reducible refine w_eOr ?_
    | with_reducible refine w_eNot ?_
    | with_reducible refine w_chain ?_
    | with_reducible refine w_oN ?_
    | with_reducible refine w_oS ?_
    | with_reducible refine w_sl ?_
    | with_reducible refine w_lc ?_
    | with_reducible refine w_enm ?_
    | with_reducible refine w_dc ?_
    | ((with_reducible apply w_dict0); (focus assumption); intro l s hl H)
    | with_reducible refine w_tT ?_
    | ((with_reducible refine w_fnM ?_); simp only [List.map_cons, List.map_nil, List.cons_append, List.nil_append, List.replicate_succ, List.replicate_zero, Nat.reduceSub]))
  | ((with_reducible refine wo_go ?_); first
    | with_reducible refine o_max ?_
    | with_reducible refine o_min ?_
    | with_reducible refine o_lenT ?_
    | ((with_reducible apply o_lenL); (focus assumption); (focus (repeat (first | exact List.mem_cons_self | apply List.mem_cons_of_mem))))
    | ((with_reducible apply o_tupL); (focus assumption); (focus (repeat (first | exact List.mem_cons_self | apply List.mem_cons_of_mem))))
    | ((with_reducible apply o_sumL); (focus assumption); (focus (repeat (first | exact List.mem_cons_self | apply List.mem_cons_of_mem))))
    | ((with_reducible apply o_mul); (focus omega))
    | ((with_reducible apply o_div); (focus omega))
    | ((with_reducible apply o_mod); (focus omega))
    | ((with_reducible apply o_pow); (focus (first | omega | decide)))
    | ((with_reducible apply o_ixT); (focus (first | exact atI_zero _ _ | exact atI_one _ _ _ | exact atI_two _ _ _ _ | exact atI_three _ _ _ _ _)))
    | ((with_reducible apply o_ixL); (focus assumption); (focus (repeat (first | exact List.mem_cons_self | apply List.mem_cons_of_mem))); (focus (first | exact atI_zero _ _ | exact atI_one _ _ _ | exact atI_two _ _ _ _ | exact atI_three _ _ _ _ _)))
    | with_reducible refine o_slT ?_
    | with_reducible refine o_slA ?_
    | with_reducible refine o_iT1 ?_
    | with_reducible refine o_iT2 ?_
    | with_reducible refine o_iT3 ?_
    | with_reducible refine o_iS1 ?_
    | with_reducible refine o_iS2 ?_
    | with_reducible refine o_iS3 ?_
    | with_reducible refine o_iI1 ?_
    | with_reducible refine o_iI2 ?_
    | with_reducible refine o_iI3 ?_
    | with_reducible refine o_iB1 ?_
    | ((with_reducible apply o_ixA); (focus (first | exact atI_zero _ _ | exact atI_one _ _ _ | exact atI_two _ _ _ _ | exact atI_three _ _ _ _ _)))
    | ((with_reducible apply o_ixAL); (focus assumption); (focus (repeat (first | exact List.mem_cons_self | apply List.mem_cons_of_mem))); (focus (first | exact atI_zero _ _ | exact atI_one _ _ _ | exact atI_two _ _ _ _ | exact atI_three _ _ _ _ _)))
    | ((with_reducible apply o_listAT); (focus assumption); intro l s hl H)
    | ((with_reducible apply o_listT); (focus assumption); intro l s hl H)
    | refine wo_some ?_)
  | ((with_reducible refine wi_go ?_); first
    | with_reducible refine wi_n ?_
    | with_reducible refine wi_t ?_
    | with_reducible refine wi_f ?_
    | ((with_reducible apply wi_yes); (focus omega))
    | ((with_reducible apply wi_no); (focus omega)))
  | ((with_reducible refine bd_go ?_); first
    | ((with_reducible refine bd_nx ?_); try simp only [List.set_cons_succ, List.set_cons_zero])
    | with_reducible refine bd_rt ?_
    | with_reducible refine bd_ct ?_
    | with_reducible refine bd_bk ?_
    | with_reducible refine bd_ex ?_)
  | with_reducible refine w_seq ?_
  | with_reducible refine w_set ?_
  | with_reducible refine wb ?_
  | ((with_reducible apply tupk); (focus exact Nat.le_of_ble_eq_true rfl))
  | with_reducible refine w_sNil ?_
  | with_reducible refine w_ret ?_
  | with_reducible refine w_expr ?_
  | with_reducible refine tru_b ?_
  | with_reducible refine tru_n ?_
  | with_reducible refine tru_i ?_
  | with_reducible refine tru_t ?_
  | ((with_reducible apply tru_l); (focus assumption); (focus (repeat (first | exact List.mem_cons_self | apply List.mem_cons_of_mem))))
  | with_reducible refine is_tup ?_
  | with_reducible refine enmk ?_
  | with_reducible refine is_str ?_
  | ((with_reducible apply is_lstH); (focus assumption); (focus (repeat (first | exact List.mem_cons_self | apply List.mem_cons_of_mem))))
  | ((with_reducible apply mt_lst); (focus assumption); (focus (repeat (first | exact List.mem_cons_self | apply List.mem_cons_of_mem))))
  | with_reducible refine w_for ?_
  | with_reducible refine mt_str ?_
  | with_reducible refine oi ?_
  | with_reducible refine w_asg ?_
  | with_reducible refine w_asgL ?_
  | with_reducible refine w_put ?_
  | ((with_reducible refine w_augg ?_); refine w_aug (by exact rfl) ?_)
  | with_reducible refine w_raise ?_
  | with_reducible refine w_retN ?_
  | with_reducible refine w_brk ?_
  | with_reducible refine w_cnt ?_
  | with_reducible refine tn_nx ?_
  | with_reducible refine nx_nx ?_
  | with_reducible refine tn_ct ?_
  | with_reducible refine tn_bk ?_
  | with_reducible refine tn_rt ?_
  | with_reducible refine tn_ex ?_
  | with_reducible refine fin_rt ?_
  | with_reducible refine fin_nx ?_
  | with_reducible refine fin_ex ?_
  | ((with_reducible apply newl); (focus assumption); (focus exact Nat.le_of_ble_eq_true rfl); intro l s hl H))
local macro_rules | `(tactic| subst_eqs) => `(tactic| repeat eq_refl)
/-! ### _law_bent -/
mutual
def plD : D → Bool
  | .non => true
  | .bl _ => true
  | .int _ => true
  | .str z => (cp z).all fun c => decide (c < 1000)
  | .tup xs => plDs xs
  | _ => false
def plDs : List D → Bool
  | [] => true
  | x :: xs => plD x && plDs xs
end
mutual
theorem wd_pl {X : Hs} : ∀ {d : D}, plD d = true → Wd X d
  | .non, _ => .non
  | .bl b, _ => .bl b
  | .int i, _ => .int i
  | .str z, h => .str fun c hc => by
    unfold plD at h
    exact of_decide_eq_true (List.all_eq_true.mp h c hc)
  | .tup xs, h => .tup (by unfold plD at h; exact wds_pl h)
  | .loc _, h => by unfold plD at h; cases h
  | .fl _, h => by unfold plD at h; cases h
  | .exv _ _ _ _, h => by unfold plD at h; cases h
theorem wds_pl {X : Hs} : ∀ {xs : List D}, plDs xs = true → ∀ x ∈ xs, Wd X x
  | [], _ => fun x hx => by cases hx
  | x :: xs, h => fun y hy => by
    unfold plDs at h
    rw [Bool.and_eq_true] at h
    rcases List.mem_cons.mp hy with e | e
    · rw [e]; exact wd_pl h.1
    · exact wds_pl h.2 y e
end
def smD : D → Bool
  | .tup xs => decide (xs.length ≤ 200) && xs.all fun x => match x with | .tup ys => decide (ys.length ≤ 200) | _ => true
  | _ => true
theorem sm_of {d : D} (h : smD d = true) : Sml d := fun L e => by
  subst e
  unfold smD at h
  rw [Bool.and_eq_true] at h
  refine ⟨of_decide_eq_true h.1, fun x hx xs e => ?_⟩
  subst e
  exact of_decide_eq_true (List.all_eq_true.mp h.2 _ hx)
/-- what may stand in a tuple -/
def Rw (X : Hs) (x : D) : Prop := Wd X x ∧ ∀ ys, x = .tup ys → ys.length ≤ 200
theorem th_tup {X : Hs} {xs : List D} (hl : xs.length ≤ 200) (h : ∀ x ∈ xs, Rw X x) : Wd X (.tup xs) ∧ Sml (.tup xs) :=
  ⟨.tup fun x hx => (h x hx).1, fun L e => by cases e; exact ⟨hl, fun x hx => (h x hx).2⟩⟩
theorem rw_tup {X : Hs} {xs : List D} (hl : xs.length ≤ 200) (h : ∀ x ∈ xs, Wd X x) : Rw X (.tup xs) := ⟨.tup h, fun ys e => by cases e; exact hl⟩
theorem mem_cut {xs : List D} {lo hi : Option Int} {x : D} (h : x ∈ Mi.cutD xs lo hi) : x ∈ xs := by
  unfold Mi.cutD at h
  exact List.mem_of_mem_drop (List.mem_of_mem_take h)
theorem tk_app {a b : Str} (ha : Tk a) (hb : Tk b) : Tk (a ++ b) := fun c hc => by
  have e : cp (a ++ b) = cp a ++ cp b := TL.tl_append a b
  rw [e] at hc
  rcases List.mem_append.mp hc with h | h
  · exact ha c h
  · exact hb c h
theorem mem_joinL {S : List Nat} : ∀ {P : List (List Nat)} {c : Nat}, c ∈ TL.joinL S P → c ∈ S ∨ ∃ p ∈ P, c ∈ p
  | [], c, h => by cases h
  | [p], c, h => .inr ⟨p, by simp, h⟩
  | p :: q :: r, c, h => by
    rcases List.mem_append.mp (show c ∈ p ++ (S ++ TL.joinL S (q :: r)) from h) with h | h
    · exact .inr ⟨p, by simp, h⟩
    · rcases List.mem_append.mp h with h | h
      · exact .inl h
      · rcases mem_joinL h with h | ⟨x, hx, h⟩
        · exact .inl h
        · exact .inr ⟨x, List.mem_cons_of_mem _ hx, h⟩
theorem tk_join {zs : List Str} (h : ∀ z ∈ zs, Tk z) : Tk (Txt.join "" zs) := fun c hc => by
  have e : cp (Txt.join "" zs) = TL.joinL (cp "") (zs.map cp) := by rw [TL.join_eq]; exact TL.tl_join "" zs
  rw [e] at hc
  rcases mem_joinL hc with q | ⟨p, hp, q⟩
  · have : cp "" = [] := by decide +kernel
    rw [this] at q
    cases q
  · obtain ⟨z, hz, rfl⟩ := List.mem_map.mp hp
    exact h z hz c q
theorem strsOf_map : ∀ zs : List Str, strsOf (zs.map D.str) = some zs
  | [] => rfl
  | z :: zs => by
    have ih := strsOf_map zs
    simp [strsOf, ih]
section
variable {s : Store} {Z : Hs} {K : D → Store → Prop} {E : Ex → Store → Prop} {d : D} {l p c : Nat} {env : Sl}
theorem w_m1 {g : D → List D → Store → Option (D × Store)} {o a : ME D} {z : Str} (h : WR (o env s) (fun x s => x = .str z ∧ WR (a env s) (fun y s => WO (g (.str z) [y] s) K) E) E) : WR (eM1 g o a env s) K E :=
  wr_bind (wr_mono h (fun x _ ⟨e, h⟩ => by subst e; exact wr_bind (wr_mono h (fun _ _ h => wr_of h) fun _ _ h => h)) fun _ _ h => h)
structure Ord (R : List (List Str)) (ch : List Str) : Prop where
  rl : R.length ≤ 60
  ne : ∀ r ∈ R, r ≠ []
  ll : ∀ r ∈ R, r.length ≤ 60
  tk : ∀ r ∈ R, ∀ z ∈ r, Tk z ∧ z.length ≤ 5
  cn : R ≠ [] → ch ≠ []
  cT : ∀ z ∈ ch, Tk z
theorem bent_w (H : Has s Z) (hp : (p, IsPl c) ∈ Z) (hc : (c, IsCs) ∈ Z) {R : List (List Str)} {ch : List Str} (o : Ord R ch) (k : ∀ d s' Y, Has s' (Y ++ Z) → Wd (Y ++ Z) d → Sml d → K d s') : WR (m_d_law_bent [.loc p, rowD ch, .tup (R.map rowD)] s) K E := by
  have wr : ∀ X : Hs, ∀ r ∈ R, ∀ x ∈ r.map D.str, Wd X x := fun X r hr x hx => by
    obtain ⟨z, hz, rfl⟩ := List.mem_map.mp hx
    exact .str (o.tk r hr z hz).1
  have rr : ∀ X : Hs, ∀ x ∈ R.map rowD, Rw X x := fun X x hx => by
    obtain ⟨r, hr, rfl⟩ := List.mem_map.mp hx
    exact rw_tup (by rw [List.length_map]; have := o.ll r hr; omega) (wr X r hr)
  have oT : ∀ r ∈ R, ∀ z ∈ r, Tk z := fun r hr z hz => (o.tk r hr z hz).1
  have rl := o.rl
  unfold m_d_law_bent b_d_law_bent
  subst_eqs
  refine draw_w H hp hc (by omega) (by omega) fun kind s k0 k1 H => ?_
  subst_eqs
  rename_i la s _ H lS s _ H
  have str : ∀ s, Has s ((lS, Ls [.non, .int 7, .bl true, .str "x", .loc la, .tup [], .tup [.tup [.str "zz"]], .tup [.tup []], .tup [.tup [], .tup []], .tup [.int 1], .tup [.str "a"], .tup [.str ""]]) :: (la, Ls [.str "a"]) :: Z) → WR ((e2 dIxA (eV 4) (eCall m_d_law_draw (aCons (eV 0) (aCons (eFn dLen (aCons (eV 4) (aNil))) (aNil))))) [some (.loc p), some (rowD ch), some (.tup (R.map rowD)), some (.int kind), some (.loc lS), none, none, none, none, none] s) K E := fun s H => by
    subst_eqs
    refine draw_w H (.tail _ (.tail _ hp)) (.tail _ (.tail _ hc)) (by simp) (by simp) fun j s j0 j1 H => ?_
    subst_eqs
    refine o_ixALm H (.head _) j0 j1 fun x hx _ => ?_
    simp only [List.mem_cons, List.mem_nil_iff, or_false] at hx
    have H2 : Has s ([(lS, _), (la, _)] ++ Z) := H
    rcases hx with rfl | rfl | rfl | rfl | rfl | rfl | rfl | rfl | rfl | rfl | rfl | rfl <;> first
      | exact k _ s _ H2 (wd_pl (by decide +kernel)) (sm_of (by decide +kernel))
      | exact k _ s _ H2 (.loc (.tail _ (.head _)) fun c h => toL c h) (fun L e => by cases e)
  refine w_if ?_
  subst_eqs
  refine wi_d (fun c0 => ?_) (fun c0 => ?_)
  · refine wi_t ?_
    refine w_ret ?_
    exact wr_mono (str s H) (fun _ _ h => h) fun _ _ h => h
  subst_eqs
  refine wo_eq (eq_none oT) ?_
  subst_eqs
  refine wi_b (fun c1 => ?_) (fun c1 => ?_)
  · refine w_ret ?_
    exact wr_mono (str s H) (fun _ _ h => h) fun _ _ h => h
  clear str
  have rn : R ≠ [] := fun e => by rw [e] at c1; cases c1
  have r0 : 0 < R.length := List.length_pos_iff.mpr rn
  generalize [D.non, .int 7, .bl true, .str "x", .loc la, .tup [], .tup [.tup [.str "zz"]], .tup [.tup []], .tup [.tup [], .tup []], .tup [.int 1], .tup [.str "a"], .tup [.str ""]] = S at H
  subst_eqs
  refine draw_w H (.tail _ (.tail _ hp)) (.tail _ (.tail _ hc)) (by first | omega | (simp <;> omega)) (by first | omega | (simp <;> omega)) fun at_ s a0 a1 H => ?_
  subst_eqs
  refine o_ixATm a0 a1 fun x hx _ => ?_
  obtain ⟨r, hr, rfl⟩ := List.mem_map.mp hx
  have rl2 := o.ll r hr
  have r1 : 0 < r.length := List.length_pos_iff.mpr (o.ne r hr)
  subst_eqs
  refine draw_w H (.tail _ (.tail _ hp)) (.tail _ (.tail _ hc)) (by first | omega | (simp <;> omega)) (by first | omega | (simp <;> omega)) fun pl s p0 p1 H => ?_
  subst_eqs
  have Hp : (p, IsPl c) ∈ (lS, Ls S) :: (la, Ls [.str "a"]) :: Z := .tail _ (.tail _ hp)
  have Hc : (c, IsCs) ∈ (lS, Ls S) :: (la, Ls [.str "a"]) :: Z := .tail _ (.tail _ hc)
  have k2 : ∀ d s' Y, Has s' (Y ++ ((lS, Ls S) :: (la, Ls [.str "a"]) :: Z)) → Wd (Y ++ ((lS, Ls S) :: (la, Ls [.str "a"]) :: Z)) d → Sml d → K d s' := fun d s' Y H w sm => by
    have e : Y ++ ((lS, Ls S) :: (la, Ls [.str "a"]) :: Z) = (Y ++ [(lS, Ls S), (la, Ls [.str "a"])]) ++ Z := by simp
    rw [e] at H w
    exact k d s' _ H w sm
  clear k
  generalize ((lS, Ls S) :: (la, Ls [.str "a"]) :: Z) = Z' at H Hp Hc k2
  -- 2
  refine w_if ?_
  subst_eqs
  refine wi_d (fun c2 => ?_) (fun c2 => ?_)
  · subst_eqs
    rename_i l s _ H
    exact k2 (.loc l) s [_] H (.loc (.head _) fun c h => toL c h) (fun L e => by cases e)
  clear c2
  subst_eqs
  -- 3
  refine w_if ?_
  subst_eqs
  refine wi_d (fun c2 => ?_) (fun c2 => ?_)
  · subst_eqs
    rename_i l s _ H
    refine put_w a0 a1 (by first | omega | (simp <;> omega)) fun ys yl ym => ?_
    subst_eqs
    have q := th_tup (X := (l, Ls (r.map D.str)) :: Z') (xs := ys) (by rw [yl]; simp; omega) fun y hy => by
      rcases ym y hy with h | h
      · exact rr _ y h
      · rw [h]; exact ⟨.loc (.head _) fun c h => toL c h, fun ys e => by cases e⟩
    exact k2 _ s [_] H q.1 q.2
  clear c2
  subst_eqs
  have one : ∀ {X : Hs} {xs ys : List D}, (∀ x ∈ xs, Rw X x) → ∀ {z : D}, Rw X z → (∀ y ∈ ys, y ∈ xs ∨ y = z) → ys.length ≤ 200 → Wd X (.tup ys) ∧ Sml (.tup ys) := fun h _ hz hy hl => th_tup hl fun y q => (hy y q).elim (h y) fun e => e ▸ hz
  -- 4
  refine w_if ?_
  subst_eqs
  refine wi_d (fun c2 => ?_) (fun c2 => ?_)
  · subst_eqs
    have l1 := cut_len (r.map D.str) none (some pl)
    have l2 := cut_len (r.map D.str) (some (pl + 1)) none
    rw [List.length_map] at l1 l2
    refine o_addT (by omega) ?_
    subst_eqs
    refine put_w a0 a1 (by first | omega | (simp <;> omega)) fun ys yl ym => ?_
    subst_eqs
    have q := one (rr Z') (rw_tup (X := Z') (xs := Mi.cutD (r.map D.str) none (some pl) ++ Mi.cutD (r.map D.str) (some (pl + 1)) none) (by rw [List.length_append]; omega) fun x hx => by
      rcases List.mem_append.mp hx with h | h
      · exact wr _ r hr x (mem_cut h)
      · exact wr _ r hr x (mem_cut h)) ym (by rw [yl]; simp; omega)
    exact k2 _ s [] H q.1 q.2
  clear c2
  subst_eqs
  -- 5
  refine w_if ?_
  subst_eqs
  refine wi_d (fun c2 => ?_) (fun c2 => ?_)
  · subst_eqs
    refine o_ixATm p0 p1 fun x hx _ => ?_
    subst_eqs
    have cn := List.length_pos_iff.mpr (o.cn rn)
    refine o_ixATm (by omega) (by simp <;> omega) fun y hy _ => ?_
    subst_eqs
    rename_i le s _ H
    refine draw_w H (.tail _ Hp) (.tail _ Hc) (by omega) (by omega) fun j s j0 j1 H => ?_
    subst_eqs
    refine o_ixALm H (.head _) j0 (by simpa using j1) fun e he _ => ?_
    have we : Wd Z' e := by
      simp only [List.mem_cons, List.mem_nil_iff, or_false] at he
      rcases he with rfl | rfl | rfl | rfl | rfl
      · exact wr _ r hr _ hx
      · exact wd_pl (by decide +kernel)
      · obtain ⟨z, hz, rfl⟩ := List.mem_map.mp hy
        exact .str (o.cT z hz)
      · exact .int 1
      · exact .non
    have H := H.drop
    subst_eqs
    refine draw_w H Hp Hc (by first | omega | (simp <;> omega)) (by first | omega | (simp <;> omega)) fun a2 s b0 b1 H => ?_
    subst_eqs
    refine o_ixATm (by omega) (by simp <;> omega) fun x0 hx0 _ => ?_
    obtain ⟨r2, hr2, rfl⟩ := List.mem_map.mp hx0
    have l2 := o.ll r2 hr2
    subst_eqs
    refine o_addT (by simp <;> omega) ?_
    subst_eqs
    refine put_w b0 b1 (by simp <;> omega) fun ys yl ym => ?_
    subst_eqs
    have q := one (rr Z') (rw_tup (X := Z') (xs := r2.map D.str ++ [e]) (by simp <;> omega) fun x hx => by
      rcases List.mem_append.mp hx with h | h
      · exact wr _ r2 hr2 x h
      · rw [List.mem_singleton.mp h]; exact we) ym (by rw [yl]; simp <;> omega)
    exact k2 _ s [] H q.1 q.2
  clear c2
  subst_eqs
  -- 6
  refine w_if ?_
  subst_eqs
  refine wi_d (fun c2 => ?_) (fun c2 => ?_)
  · subst_eqs
    refine o_ixATm p0 p1 fun x1 hx1 _ => ?_
    subst_eqs
    refine o_ixATm p0 p1 fun x2 hx2 _ => ?_
    obtain ⟨z, hz, rfl⟩ := List.mem_map.mp hx2
    have tz := o.tk r hr z hz
    subst_eqs
    refine wo_eq (dAdd_s (by have : ("9" : Str).length = 1 := by decide +kernel
                             omega) _) ?_
    subst_eqs
    refine o_ixATm p0 p1 fun x3 hx3 _ => ?_
    subst_eqs
    rename_i li s _ H lo s _ H
    refine draw_w H (.tail _ (.tail _ Hp)) (.tail _ (.tail _ Hc)) (by omega) (by omega) fun j s j0 j1 H => ?_
    subst_eqs
    refine o_ixALm H (.head _) j0 (by simpa using j1) fun e he _ => ?_
    have we : Wd ((li, Ls [x3]) :: Z') e := by
      simp only [List.mem_cons, List.mem_nil_iff, or_false] at he
      rcases he with rfl | rfl | rfl | rfl | rfl | rfl | rfl
      · exact .int 1
      · exact .bl true
      · exact .non
      · exact wd_pl (by decide +kernel)
      · exact .tup fun x hx => by rw [List.mem_singleton.mp hx]; exact wr _ r hr _ hx1
      · exact .str (tk_app tz.1 (show ∀ c ∈ cp "9", c < 1000 by decide +kernel))
      · exact .loc (.head _) fun c h => toL c h
    have H := H.drop
    subst_eqs
    refine put_w p0 p1 (by simp <;> omega) fun ys yl ym => ?_
    rw [List.length_map] at yl
    subst_eqs
    refine put_w a0 a1 (by simp <;> omega) fun us ul um => ?_
    subst_eqs
    have q := one (rr ((li, Ls [x3]) :: Z')) (rw_tup (xs := ys) (by omega) fun y hy => by
      rcases ym y hy with h | h
      · exact wr _ r hr y h
      · rw [h]; exact we) um (by rw [ul]; simp <;> omega)
    exact k2 _ s [_] H q.1 q.2
  clear c2
  subst_eqs
  -- 7
  refine w_if ?_
  subst_eqs
  refine wi_d (fun c2 => ?_) (fun c2 => ?_)
  · subst_eqs
    refine draw_w H Hp Hc (by first | omega | (simp <;> omega)) (by first | omega | (simp <;> omega)) fun ot s o0 o1 H => ?_
    subst_eqs
    refine o_ixATm o0 o1 fun x hx _ => ?_
    subst_eqs
    refine put_w p0 p1 (by first | omega | (simp <;> omega)) fun ys yl ym => ?_
    rw [List.length_map] at yl o1
    subst_eqs
    refine o_ixATm p0 p1 fun x2 hx2 _ => ?_
    subst_eqs
    refine put_w o0 (by omega) (by omega) fun zs zl zm => ?_
    subst_eqs
    refine put_w a0 a1 (by first | omega | (simp <;> omega)) fun us ul um => ?_
    subst_eqs
    have q := one (rr Z') (rw_tup (X := Z') (xs := zs) (by omega) fun y hy => by
      rcases zm y hy with h | h
      · rcases ym y h with h | h
        · exact wr _ r hr y h
        · rw [h]; exact wr _ r hr x hx
      · rw [h]; exact wr _ r hr x2 hx2) um (by rw [ul]; simp; omega)
    exact k2 _ s [] H q.1 q.2
  clear c2
  subst_eqs
  -- 8
  refine w_if ?_
  subst_eqs
  refine wi_d (fun c2 => ?_) (fun c2 => ?_)
  · subst_eqs
    refine draw_w H Hp Hc (by first | omega | (simp <;> omega)) (by first | omega | (simp <;> omega)) fun ot s o0 o1 H => ?_
    have l1 := cut_len (R.map rowD) none (some ot)
    have l2 := cut_len (R.map rowD) (some ot) none
    rw [List.length_map] at l1 l2
    subst_eqs
    refine o_addT (by first | omega | (simp <;> omega)) ?_
    subst_eqs
    refine o_addT (by first | omega | (simp <;> omega)) ?_
    subst_eqs
    have q := th_tup (X := Z') (xs := Mi.cutD (R.map rowD) none (some ot) ++ [.tup []] ++ Mi.cutD (R.map rowD) (some ot) none) (by first | omega | (simp <;> omega)) fun y hy => by
      simp only [List.mem_append, List.mem_singleton] at hy
      rcases hy with (h | h) | h
      · exact rr _ y (mem_cut h)
      · rw [h]; exact rw_tup (by simp) (by simp)
      · exact rr _ y (mem_cut h)
    exact k2 _ s [] H q.1 q.2
  clear c2
  subst_eqs
  -- 9
  refine w_if ?_
  subst_eqs
  refine wi_d (fun c2 => ?_) (fun c2 => ?_)
  · subst_eqs
    refine o_addT (by first | omega | (simp <;> omega)) ?_
    subst_eqs
    have q := th_tup (X := Z') (xs := R.map rowD ++ [.tup []]) (by first | omega | (simp <;> omega)) fun y hy => by
      simp only [List.mem_append, List.mem_singleton] at hy
      rcases hy with h | h
      · exact rr _ y h
      · rw [h]; exact rw_tup (by simp) (by simp)
    exact k2 _ s [] H q.1 q.2
  clear c2
  subst_eqs
  -- 10
  refine w_if ?_
  subst_eqs
  refine wi_d (fun c2 => ?_) (fun c2 => ?_)
  · subst_eqs
    refine put_w a0 a1 (by first | omega | (simp <;> omega)) fun us ul um => ?_
    rw [List.length_map] at ul
    subst_eqs
    refine o_addT (by first | omega | (simp <;> omega)) ?_
    subst_eqs
    have q := th_tup (X := Z') (xs := us ++ [.tup []]) (by first | omega | (simp <;> omega)) fun y hy => by
      simp only [List.mem_append, List.mem_singleton] at hy
      rcases hy with h | h
      · rcases um y h with h | h
        · exact rr _ y h
        · rw [h]
          exact rw_tup (by first | omega | (simp <;> omega)) fun x hx => wr _ r hr x (List.mem_reverse.mp hx)
      · rw [h]; exact rw_tup (by simp) (by simp)
    exact k2 _ s [] H q.1 q.2
  clear c2
  subst_eqs
  -- 11
  refine o_ixATm (by omega) (by simp <;> omega) fun x0 hx0 _ => ?_
  obtain ⟨r2, hr2, rfl⟩ := List.mem_map.mp hx0
  have l2 := o.ll r2 hr2
  subst_eqs
  refine w_m1 (z := "") ?_
  subst_eqs
  refine ⟨rfl, ?_⟩
  subst_eqs
  have sm : (r.map (·.length)).sum ≤ 5 * r.length := by
    have : ∀ L : List Str, (∀ z ∈ L, z.length ≤ 5) → (L.map (·.length)).sum ≤ 5 * L.length := fun L h => by
      induction L with
      | nil => simp
      | cons a L ih =>
        have := ih fun z hz => h z (by simp [hz])
        have := h a (by simp)
        simp
        omega
    exact this r fun z hz => (o.tk r hr z hz).2
  refine wo_eq (d := .str (Txt.join "" r)) (by
    simp only [dJoin, seqOf, Option.bind_some, strsOf_map]
    rw [if_pos]
    have : ("" : Str).length = 0 := by decide +kernel
    rw [this]
    omega) ?_
  subst_eqs
  refine o_addT (by simp <;> omega) ?_
  subst_eqs
  refine draw_w H Hp Hc (by omega) (by omega) fun j s j0 j1 H => ?_
  subst_eqs
  refine o_ixATm j0 (by simpa using j1) fun e he _ => ?_
  simp only [List.mem_cons, List.mem_nil_iff, or_false] at he
  subst_eqs
  rcases he with rfl | rfl | rfl | rfl
  · have q := th_tup (X := Z') (xs := [.tup (R.map rowD)]) (by simp) fun y hy => by
      rw [List.mem_singleton.mp hy]
      exact rw_tup (by simp <;> omega) fun x hx => (rr _ x hx).1
    exact k2 _ s [] H q.1 q.2
  · have q := th_tup (X := Z') (xs := r2.map D.str) (by simp <;> omega) fun y hy => ⟨wr _ r2 hr2 y hy, fun ys e => by
      obtain ⟨z, _, rfl⟩ := List.mem_map.mp hy
      cases e⟩
    exact k2 _ s [] H q.1 q.2
  · exact k2 _ s [] H (.str (tk_join (oT r hr))) fun L e => by cases e
  · have q := th_tup (X := Z') (xs := R.map rowD ++ R.map rowD) (by simp <;> omega) fun y hy => by
      rcases List.mem_append.mp hy with h | h
      · exact rr _ y h
      · exact rr _ y h
    exact k2 _ s [] H q.1 q.2
end
end Law
namespace Law
open PySem Mi
local macro_rules | `(tactic| ac_rfl) => `(tactic| repeat (first | exact List.mem_cons_self | assumption | apply List.mem_cons_of_mem | apply List.mem_append_right))
local macro_rules | `(tactic| eq_refl) => `(tactic| first
  | ((with_reducible refine wr_go ?_); first
    | ((with_reducible refine w_Vg ?_); first
      | with_reducible refine w_V0 ?_
      | with_reducible refine w_V1 ?_
      | with_reducible refine w_V2 ?_
      | with_reducible refine w_V3 ?_
      | with_reducible refine w_V4 ?_
      | with_reducible refine w_V5 ?_
      | with_reducible refine w_V6 ?_
      | with_reducible refine w_V7 ?_
      | with_reducible refine w_V8 ?_
      | with_reducible refine w_V9 ?_
      | with_reducible refine w_V10 ?_
      | with_reducible refine w_V11 ?_
      | with_reducible refine w_V12 ?_
      | with_reducible refine w_V13 ?_
      | with_reducible refine w_V14 ?_
      | with_reducible refine w_V15 ?_
      | with_reducible refine w_V16 ?_
      | with_reducible refine w_V17 ?_
      | with_reducible refine w_V18 ?_
      | with_reducible refine w_V19 ?_
      | with_reducible refine w_V20 ?_
      | with_reducible refine w_V21 ?_
      | with_reducible refine w_V22 ?_
      | with_reducible refine w_V23 ?_
      | with_reducible refine w_V24 ?_
      | with_reducible refine w_V25 ?_
      | with_reducible refine w_V26 ?_
      | with_reducible refine w_V27 ?_
      | with_reducible refine w_V28 ?_
      | with_reducible refine w_V29 ?_
      | with_reducible refine w_V30 ?_
      | with_reducible refine w_V31 ?_
      | refine w_V (by exact rfl) ?_)
    | with_reducible refine w_C ?_
    | with_reducible refine w_cons ?_
    | with_reducible refine w_nil ?_
    | with_reducible refine w_e2 ?_
    | with_reducible refine w_call ?_
    | with_reducible refine w_tV ?_
    | with_reducible refine w_tup ?_
    | with_reducible refine w_e1 ?_
    | with_reducible refine w_fn ?_
    | with_reducible refine w_tru ?_
    | with_reducible refine w_and ?_
    | with_reducible refine w_or ?_
    | with_reducible refine w_not ?_
    | with_reducible refine w_lst ?_
    | with_reducible refine w_mt ?_
    | with_reducible refine w_mt0 ?_
    | with_reducible refine w_rng ?_
    | with_reducible refine w_rng2 ?_
    | with_reducible refine w_iSeq ?_
    | with_reducible refine w_eif ?_
    | with_reducible refine w_eAnd ?_
    | with_reducible refine w_eOr ?_
    | with_reducible refine w_eNot ?_
    | with_reducible refine w_chain ?_
    | with_reducible refine w_oN ?_
    | with_reducible refine w_oS ?_
    | with_reducible refine w_sl ?_
    | with_reducible refine w_lc ?_
    | with_reducible refine w_enm ?_
    | with_reducible refine w_dc ?_
    | ((with_reducible apply w_dict0); (focus assumption); intro l s hl H)
    | with_reducible refine w_tT ?_
    | ((with_reducible refine w_fnM ?_); simp only [List.map_cons, List.map_nil, List.cons_append, List.nil_append, List.replicate_succ, List.replicate_zero, Nat.reduceSub]))
  | ((with_reducible refine wo_go ?_); first
    | with_reducible refine o_max ?_
    | with_reducible refine o_min ?_
    | with_reducible refine o_lenT ?_
    | ((with_reducible apply o_lenL); (focus assumption); (focus (repeat (first | exact List.mem_cons_self | apply List.mem_cons_of_mem))))
    | ((with_reducible apply o_tupL); (focus assumption); (focus (repeat (first | exact List.mem_cons_self | apply List.mem_cons_of_mem))))
    | ((with_reducible apply o_sumL); (focus assumption); (focus (repeat (first | exact List.mem_cons_self | apply List.mem_cons_of_mem))))
    | ((with_reducible apply o_mul); (focus omega))
    | ((with_reducible apply o_div); (focus omega))
    | ((with_reducible apply o_mod); (focus omega))
    | ((with_reducible apply o_pow); (focus (first | omega | decide)))
    | ((with_reducible apply o_ixT); (focus (first | exact atI_zero _ _ | exact atI_one _ _ _ | exact atI_two _ _ _ _ | exact atI_three _ _ _ _ _)))
    | ((with_reducible apply o_ixL); (focus assumption); (focus (repeat (first | exact List.mem_cons_self | apply List.mem_cons_of_mem))); (focus (first | exact atI_zero _ _ | exact atI_one _ _ _ | exact atI_two _ _ _ _ | exact atI_three _ _ _ _ _)))
    | with_reducible refine o_slT ?_
    | with_reducible refine o_slA ?_
    | with_reducible refine o_iT1 ?_
    | with_reducible refine o_iT2 ?_
    | with_reducible refine o_iT3 ?_
    | with_reducible refine o_iS1 ?_
    | with_reducible refine o_iS2 ?_
    | with_reducible refine o_iS3 ?_
    | with_reducible refine o_iI1 ?_
    | with_reducible refine o_iI2 ?_
    | with_reducible refine o_iI3 ?_
    | with_reducible refine o_iB1 ?_
    | ((with_reducible apply o_ixA); (focus (first | exact atI_zero _ _ | exact atI_one _ _ _ | exact atI_two _ _ _ _ | exact atI_three _ _ _ _ _)))
    | ((with_reducible apply o_ixAL); (focus assumption); (focus (repeat (first | exact List.mem_cons_self | apply List.mem_cons_of_mem))); (focus (first | exact atI_zero _ _ | exact atI_one _ _ _ | exact atI_two _ _ _ _ | exact atI_three _ _ _ _ _)))
    | ((with_reducible apply o_listAT); (focus assumption); intro l s hl H)
    | ((with_reducible apply o_listT); (focus assumption); intro l s hl H)
    | refine wo_some ?_)
  | ((with_reducible refine wi_go ?_); first
    | with_reducible refine wi_n ?_
    | with_reducible refine wi_t ?_
    | with_reducible refine wi_f ?_
    | ((with_reducible apply wi_yes); (focus omega))
    | ((with_reducible apply wi_no); (focus omega)))
  | ((with_reducible refine bd_go ?_); first
    | ((with_reducible refine bd_nx ?_); try simp only [List.set_cons_succ, List.set_cons_zero])
    | with_reducible refine bd_rt ?_
    | with_reducible refine bd_ct ?_
    | with_reducible refine bd_bk ?_
    | with_reducible refine bd_ex ?_)
  | with_reducible refine w_seq ?_
  | with_reducible refine w_set ?_
  | with_reducible refine wb ?_
  | ((with_reducible apply tupk); (focus exact Nat.le_of_ble_eq_true rfl))
  | with_reducible refine w_sNil ?_
  | with_reducible refine w_ret ?_
  | with_reducible refine w_expr ?_
  | with_reducible refine tru_b ?_
  | with_reducible refine tru_n ?_
  | with_reducible refine tru_i ?_
  | with_reducible refine tru_t ?_
  | ((with_reducible apply tru_l); (focus assumption); (focus (repeat (first | exact List.mem_cons_self | apply List.mem_cons_of_mem))))
  | with_reducible refine is_tup ?_
  | with_reducible refine enmk ?_
  | with_reducible refine is_str ?_
  | ((with_reducible apply is_lstH); (focus assumption); (focus (repeat (first | exact List.mem_cons_self | apply List.mem_cons_of_mem))))
  | ((with_reducible apply mt_lst); (focus assumption); (focus (repeat (first | exact List.mem_cons_self | apply List.mem_cons_of_mem))))
  | with_reducible refine w_for ?_
  | with_reducible refine mt_str ?_
  | with_reducible refine oi ?_
  | with_reducible refine w_asg ?_
  | with_reducible refine w_asgL ?_
  | with_reducible refine w_put ?_
  | ((with_reducible refine w_augg ?_); refine w_aug (by exact rfl) ?_)
  | with_reducible refine w_raise ?_
  | with_reducible refine w_retN ?_
  | with_reducible refine w_brk ?_
  | with_reducible refine w_cnt ?_
  | with_reducible refine tn_nx ?_
  | with_reducible refine nx_nx ?_
  | with_reducible refine tn_ct ?_
  | with_reducible refine tn_bk ?_
  | with_reducible refine tn_rt ?_
  | with_reducible refine tn_ex ?_
  | with_reducible refine fin_rt ?_
  | with_reducible refine fin_nx ?_
  | with_reducible refine fin_ex ?_
  | ((with_reducible apply newl); (focus assumption); (focus exact Nat.le_of_ble_eq_true rfl); intro l s hl H))
local macro_rules | `(tactic| subst_eqs) => `(tactic| repeat eq_refl)
/-! ### _law_asked -/
theorem pd_res (w : Str) (i : Int) : Pd 4 (.tup [.str w, .int i]) := .tup (by simp) fun x hx => by
  simp only [List.mem_cons, List.mem_nil_iff, or_false] at hx
  rcases hx with rfl | rfl
  · exact .str _ _
  · exact .int _ _
theorem pd_gap (a b : Str) (i : Int) : Pd 3 (gapD a b i) := .tup (by simp) fun x hx => by
  simp only [List.mem_cons, List.mem_nil_iff, or_false] at hx
  rcases hx with rfl | rfl | rfl | rfl
  · exact .str _ _
  · exact .str _ _
  · exact .str _ _
  · exact .int _ _
theorem recI_len {R : List (List Str)} (ll : ∀ r ∈ R, r.length ≤ 100) (i : Nat) : (recI R i).length ≤ 1000 := by
  unfold recI
  split
  · rename_i f rest e
    have := ll _ (List.mem_of_getElem? e)
    simp only [List.length_cons] at this
    rw [List.length_append, two_len]
    split
    · simp; omega
    · simp; omega
  · simp
theorem recU_len {R : List (List Str)} (ll : ∀ r ∈ R, r.length ≤ 100) : ∀ i, (recU R i).length ≤ 1000 * i
  | 0 => by simp [recU]
  | i + 1 => by
    rw [recU_succ, List.length_append]
    have := recU_len ll i
    have := recI_len ll i
    omega
theorem recI_pd {R : List (List Str)} {i : Nat} : ∀ x ∈ recI R i, Pd 3 x := fun x hx => by
  unfold recI at hx
  split at hx
  · rcases List.mem_append.mp hx with h | h
    · obtain ⟨y, _, h⟩ := List.mem_flatMap.mp h
      simp only [List.mem_cons, List.mem_nil_iff, or_false] at h
      rcases h with rfl | rfl
      · exact pd_gap _ _ _
      · exact pd_gap _ _ _
    · split at h
      · rw [List.mem_singleton.mp h]
        exact pd_gap _ _ _
      · cases h
  · cases hx
theorem pd_rec {R : List (List Str)} (rl : R.length ≤ 100) (ll : ∀ r ∈ R, r.length ≤ 100) : Pd 4 (.tup (recU R R.length)) := .tup (by have := recU_len ll R.length; omega) fun x hx => by
  obtain ⟨i, _, h⟩ := List.mem_flatMap.mp hx
  exact recI_pd x h
theorem pd_rows {R : List (List Str)} (rl : R.length ≤ 100) (ll : ∀ r ∈ R, r.length ≤ 100) : Pd 4 (.tup (R.map rowD)) := .tup (by simp; omega) fun x hx => by
  obtain ⟨r, hr, rfl⟩ := List.mem_map.mp hx
  exact .tup (by rw [List.length_map]; have := ll r hr; omega) fun x hx => by
    obtain ⟨z, _, rfl⟩ := List.mem_map.mp hx
    exact .str _ _
theorem res_two (ch : List Str) (d : D) : ∃ w i, resD ch d = .tup [.str w, .int i] := by
  unfold resD
  split
  · exact ⟨_, _, rfl⟩
  · exact ⟨_, _, rfl⟩
section
variable {s : Store} {Z : Hs} {K : D → Store → Prop} {E : Ex → Store → Prop} {d : D} {l p c : Nat}
theorem rows_th {X : Hs} {R : List (List Str)} (rl : R.length ≤ 100) (ll : ∀ r ∈ R, r.length ≤ 100) (tk : ∀ r ∈ R, ∀ z ∈ r, Tk z) : Wd X (.tup (R.map rowD)) ∧ Sml (.tup (R.map rowD)) := th_tup (by simp; omega) fun x hx => by
  obtain ⟨r, hr, rfl⟩ := List.mem_map.mp hx
  exact rw_tup (by rw [List.length_map]; have := ll r hr; omega) fun x hx => by
    obtain ⟨z, hz, rfl⟩ := List.mem_map.mp hx
    exact .str (tk r hr z hz)
theorem asked_w (H : Has s Z) (hp : (p, IsPl c) ∈ Z) (hc : (c, IsCs) ∈ Z) {R : List (List Str)} {ch : List Str} (o : Ord R ch) (nd : ch.Nodup) (pm : R.flatten.Perm ch) (g : ∀ r ∈ R, Good r) (k : ∀ s', Has s' Z → K (.bl true) s') : WR (m_d_law_asked [.loc p, rowD ch, .tup (R.map rowD)] s) K E := by
  have rl := o.rl
  have ll : ∀ r ∈ R, r.length ≤ 100 := fun r hr => by have := o.ll r hr; omega
  have tk : ∀ r ∈ R, ∀ z ∈ r, Tk z := fun r hr z hz => (o.tk r hr z hz).1
  have th : ∀ X, Wd X (.tup (R.map rowD)) ∧ Sml (.tup (R.map rowD)) := fun X => rows_th (by omega) ll tk
  have jo : jud ch (.tup (R.map rowD)) = none := by
    classical
    rw [jud_rows, if_pos pm]
    exact fb_all g
  unfold m_d_law_asked b_d_law_asked
  subst_eqs
  refine judge_w H (th _).1 (th Z).2 nd fun s H => ?_
  rw [res_good jo]
  subst_eqs
  refine w_if ?_
  subst_eqs
  refine wi_d (fun c => ?_) (fun c => absurd rfl c)
  subst_eqs
  refine ask_w H (th _).1 (th Z).2 o.cT nd fun s H => ?_
  rw [res_good jo]
  subst_eqs
  refine same_w (pd_res _ _) ?_
  subst_eqs
  refine w_if ?_
  subst_eqs
  refine recs_w H o.ne (by omega) ll fun s H => ?_
  subst_eqs
  refine lrecs_w H o.ne (by omega) ll fun s H => ?_
  subst_eqs
  refine same_w (pd_rec (by omega) ll) ?_
  subst_eqs
  refine rg (n := 5) rfl (by omega) ?_
  refine w_forN (fun i env s => ∃ (o3 o5 o6 : Option D) (n : Int), env = [some (.loc p), some (rowD ch), some (.tup (R.map rowD)), o3, some (.int n), o5, o6] ∧ Has s Z) ⟨_, _, _, _, rfl, H⟩ ?_ ?_
  · rintro i env s hi ⟨o3, o5, o6, n, rfl, H⟩
    simp only [List.set_cons_succ, List.set_cons_zero]
    unfold bl_d_law_asked_1
    subst_eqs
    refine bent_w H hp hc o fun d s Y H w sm => ?_
    obtain ⟨wd, j, e⟩ := res_two ch d
    subst_eqs
    refine judge_w H w sm nd fun s H => ?_
    rw [e]
    subst_eqs
    refine bd_cut (fun env s => ∃ n : Int, env = [some (.loc p), some (rowD ch), some (.tup (R.map rowD)), some (.tup [.str wd, .int j]), some (.int n), some (.int (i : Nat)), some d] ∧ Has s (Y ++ Z)) ?_ ?_
    · refine w_if ?_
      subst_eqs
      refine wi_d (fun c => ?_) (fun c => ?_)
      · subst_eqs
        exact ⟨_, rfl, H⟩
      · subst_eqs
        exact ⟨_, rfl, H⟩
    rintro _ s ⟨n, rfl, H⟩
    refine w_if ?_
    subst_eqs
    refine ask_w H w sm o.cT nd fun s H => ?_
    rw [e]
    subst_eqs
    refine same_w (pd_res _ _) ?_
    subst_eqs
    exact ⟨_, _, _, _, rfl, H.weak (List.sublist_append_right _ _)⟩
  · rintro env s ⟨o3, o5, o6, n, rfl, H⟩
    subst_eqs
    refine w_if ?_
    subst_eqs
    refine wi_d (fun c => ?_) (fun c => ?_)
    · subst_eqs
      refine o_addT (by simp; omega) ?_
      have eR : R.map rowD ++ [.tup []] = (R ++ [[]]).map rowD := by simp
      rw [eR]
      have th2 : Wd Z (.tup ((R ++ [[]]).map rowD)) ∧ Sml (.tup ((R ++ [[]]).map rowD)) := rows_th (by simp; omega) (fun r hr => by
        rcases List.mem_append.mp hr with h | h
        · exact ll r h
        · rw [List.mem_singleton.mp h]; simp) fun r hr z hz => by
        rcases List.mem_append.mp hr with h | h
        · exact tk r h z hz
        · rw [List.mem_singleton.mp h] at hz; cases hz
      have j2 : jud ch (.tup ((R ++ [[]]).map rowD)) = some (R.length : Nat) := by
        classical
        have a1 : ∀ j (h : j < R.length), Good ((R ++ [[]])[j]'(by simp; omega)) := fun j h => by
          rw [List.getElem_append_left h]
          exact g _ (List.getElem_mem _)
        have a2 : ¬ Good ((R ++ [[]])[R.length]'(by simp)) := fun q => q.1 (by simp)
        rw [jud_rows, if_pos (by simpa using pm), fb_at (n := R.length) (by simp) a1 a2]
        simp
      subst_eqs
      refine ask_w H th2.1 th2.2 o.cT nd fun s H => ?_
      rw [res_bad j2]
      subst_eqs
      rw [List.length_map]
      refine same_w (pd_res _ _) ?_
      subst_eqs
      exact k s H
    · subst_eqs
      exact k s H
end
/-! ### the law -/
theorem ord_rows {f : Str → Int} {ch : List Str} (cl : ch.length ≤ 60) (ca : ∀ z ∈ ch, z ∈ allW) (pw : ch.Pairwise fun x y => cp x < cp y) : Ord (rowsF f ch) ch := {
  rl := by have := (rows_len (f := f) (ch := ch)).1; omega
  ne := fun r hr => (rows_good pw r hr).1
  ll := fun r hr => by have := (rows_len (f := f) (ch := ch)).2 r hr; omega
  tk := fun r hr z hz => allW_ok z (ca z (rows_sub r hr z hz))
  cn := fun h e => h (by rw [e]; rfl)
  cT := fun z hz => (allW_ok z (ca z hz)).1 }
theorem pw_nd {ch : List Str} (pw : ch.Pairwise fun x y => cp x < cp y) : ch.Nodup := pw.imp fun {a b} h e => by
  rw [e] at h
  exact List.lt_irrefl _ h
theorem law_true (ns : List Int) (hn : ns.length ≤ 63) : ∃ s, m_law [.fl (ns.map D.int)] [] = .ok (.bl true) s := by
  obtain ⟨c, p, s0, e0, H⟩ := pool_w hn
  have key : WR (m_law [.fl (ns.map D.int)] []) (fun d _ => d = .bl true) NoE := by
    unfold m_law b_law
    subst_eqs
    refine wr_eq e0 ?_
    have hp : (p, IsPl c) ∈ [(p, IsPl c), (c, IsCs)] := .head _
    have hc : (c, IsCs) ∈ [(p, IsPl c), (c, IsCs)] := .tail _ (.head _)
    generalize [(p, IsPl c), (c, IsCs)] = Z at H hp hc
    subst_eqs
    refine draw_w H hp hc (by omega) (by omega) fun m s m0 m1 H => ?_
    subst_eqs
    refine bd_cut (fun env s => ∃ (m n : Nat), m ≤ 40 ∧ n ≤ 120 ∧ (n ≠ 0 → m ≠ 0) ∧ env = [some (.fl (ns.map D.int)), some (.loc p), some (.int (m : Nat)), some (.int (n : Nat)), none, none, none, none, none, none, none, none, none, none, none] ∧ Has s Z) ?_ ?_
    · refine w_if ?_
      subst_eqs
      refine draw_w H hp hc (by omega) (by omega) fun j s j0 j1 H => ?_
      subst_eqs
      refine wi_d (fun c => ?_) (fun c => ?_)
      · subst_eqs
        refine draw_w H hp hc (by omega) (by omega) fun j s j0 j1 H => ?_
        obtain ⟨j, rfl⟩ := Int.eq_ofNat_of_zero_le j0
        subst_eqs
        exact ⟨14 + j, 120, by omega, by omega, by omega, rfl, H⟩
      · subst_eqs
        obtain ⟨m, rfl⟩ := Int.eq_ofNat_of_zero_le m0
        exact ⟨m, 0, by omega, by omega, by omega, rfl, H⟩
    rintro _ s ⟨m, n, hm, hn2, mn, rfl, H⟩
    subst_eqs
    refine deeds_w H hp hc (by omega) fun ws s Y H wl wa wp => ?_
    have H := H.weak (List.sublist_append_right _ _)
    have wn := pw_nd wp
    subst_eqs
    rename_i lf s _ H
    refine draw_w H (.tail _ hp) (.tail _ hc) (by omega) (by omega) fun j s j0 j1 H => ?_
    subst_eqs
    refine o_ixALm H (.head _) j0 (by simpa using j1) fun x hx _ => ?_
    obtain ⟨first, rfl⟩ : ∃ i, x = .int i := by
      simp only [List.mem_cons, List.mem_nil_iff, or_false] at hx
      rcases hx with rfl | rfl | rfl | rfl <;> exact ⟨_, rfl⟩
    have H := H.drop
    subst_eqs
    refine bd_cut (fun env s => ∃ (n : Nat), n ≤ 120 ∧ (n ≠ 0 → m ≠ 0) ∧ env = [some (.fl (ns.map D.int)), some (.loc p), some (.int (m : Nat)), some (.int (n : Nat)), some (rowD ws), some (.int first), none, none, none, none, none, none, none, none, none] ∧ Has s Z) ?_ ?_
    · refine w_if ?_
      subst_eqs
      refine wi_d (fun c => ?_) (fun c => ?_)
      · subst_eqs
        refine wi_d (fun c => ?_) (fun c => ?_)
        · subst_eqs
          refine draw_w H hp hc (by omega) (by omega) fun j s j0 j1 H => ?_
          obtain ⟨j, rfl⟩ := Int.eq_ofNat_of_zero_le j0
          subst_eqs
          exact ⟨j, by omega, by omega, rfl, H⟩
        · subst_eqs
          exact ⟨n, hn2, mn, rfl, H⟩
      · subst_eqs
        exact ⟨n, hn2, mn, rfl, H⟩
    clear hn2 mn
    rintro _ s ⟨n, hn2, mn, rfl, H⟩
    subst_eqs
    refine entries_w H hp hc (by omega) (fun h e => by have := mn h; rw [e] at wl; simp at wl; omega) (by omega) fun T s H => ?_
    subst_eqs
    refine draw_w H hp hc (by omega) (by omega) fun sp s sp0 sp1 H => ?_
    subst_eqs
    refine w_lcA (fun i acc s => ∃ ys : List Int, acc = ys.map D.int ∧ ys.length = i ∧ Has s Z) ⟨[], rfl, rfl, H⟩ (by simp; omega) (fun _ _ _ _ => trivial) (fun i x acc s hx _ ⟨ys, ha, yl, H⟩ => ?_) (fun acc s _ ⟨ys, ha, yl, H⟩ => ?_)
    · refine pk_gN ?_
      unfold le_law_4
      subst_eqs
      refine draw_w H hp hc (by omega) (by omega) fun v s _ _ H => ?_
      subst_eqs
      exact ⟨ys ++ [_], by rw [ha, List.map_append]; rfl, by simp; omega, H⟩
    rw [List.length_map] at yl
    obtain ⟨f, rfl⟩ := fun_of wn yl
    subst ha
    have H := H.new (.lst ((ws.map f).map D.int))
    generalize s.length = ld, s ++ [.lst ((ws.map f).map D.int)] = s at *
    subst_eqs
    rename_i lv s _ H
    have H := H.weak (R' := (lv, Is (.dic [])) :: Z) (.cons₂ _ (.cons _ (.refl _)))
    refine rg (n := m) rfl (by omega) ?_
    refine w_forN (fun i env s => ∃ (ks : List (L2.Key × D)) (o10 : Option D), env = [some (.fl (ns.map D.int)), some (.loc p), some (.int (m : Nat)), some (.int (n : Nat)), some (rowD ws), some (.int first), some (.tup [.int first, .int (first + 9), rowD ws, .tup T]), some (.int (1 + sp)), some (.tup ((ws.map f).map D.int)), some (.loc lv), o10, none, none, none, none] ∧ ks.length ≤ i ∧ (∀ z ∈ ws.take i, getD ks (.inr z) = some (.int (f z))) ∧ Has s ((lv, Is (.dic ks)) :: Z)) ⟨[], _, rfl, by simp, by simp, H⟩ ?_ ?_
    · rintro i env s hi ⟨ks, o10, rfl, kl, hf, H⟩
      obtain ⟨z, hw⟩ : ∃ z, ws[i]? = some z := ⟨_, List.getElem?_eq_getElem (by omega)⟩
      simp only [List.set_cons_succ, List.set_cons_zero]
      unfold bl_law_3
      subst_eqs
      refine o_ixATm (by omega) (by simp; omega) fun x _ hx => ?_
      rw [Int.toNat_natCast, List.getElem?_map, List.getElem?_map, hw] at hx
      cases hx
      subst_eqs
      refine o_ixATm (by omega) (by simp; omega) fun x _ hx => ?_
      rw [Int.toNat_natCast, List.getElem?_map, hw] at hx
      cases hx
      subst_eqs
      refine pk_dic H 0 rfl rfl (by omega) fun s H => ?_
      subst_eqs
      refine ⟨_, _, rfl, ?_, fun y hy => ?_, H⟩
      · unfold putD
        split
        · rw [List.length_map]; omega
        · rw [List.length_append]; simp; omega
      · by_cases q : y = z
        · subst q
          exact putD_get _ _ _
        · rw [putD_other (fun e => q (by cases e; rfl))]
          rw [takeA hw] at hy
          rcases List.mem_append.mp hy with h | h
          · exact hf y h
          · exact absurd (List.mem_singleton.mp h) q
    rintro _ s ⟨ks, o10, rfl, kl, hf, H⟩
    rw [List.take_of_length_le (by omega)] at hf
    subst_eqs
    refine draw_w H (.tail _ hp) (.tail _ hc) (by omega) (by omega) fun sh s sh0 sh1 H => ?_
    subst_eqs
    refine bd_cut (fun env s => ∃ (sh : Int), 0 < sh ∧ sh ≤ 10 ∧ env = [some (.fl (ns.map D.int)), some (.loc p), some (.int (m : Nat)), some (.int (n : Nat)), some (rowD ws), some (.int first), some (.tup [.int first, .int (first + 9), rowD ws, .tup T]), some (.int (1 + sp)), some (.tup ((ws.map f).map D.int)), some (.loc lv), o10, some (.int sh), none, none, none] ∧ Has s ((lv, Is (.dic ks)) :: Z)) ?_ ?_
    · refine w_if ?_
      subst_eqs
      refine wi_d (fun c => ?_) (fun c => ?_)
      · subst_eqs
        exact ⟨4, by omega, by omega, rfl, H⟩
      · subst_eqs
        exact ⟨2 + sh, by omega, by omega, rfl, H⟩
    clear sh0 sh1
    rintro _ s ⟨sh, sh0, sh1, rfl, H⟩
    subst_eqs
    refine w_lcA (fun i acc s => ∃ C : List Str, acc = C.map D.str ∧ C.Sublist (ws.take i) ∧ Has s ((lv, Is (.dic ks)) :: Z)) ⟨[], rfl, by simp, H⟩ (by simp; omega) (fun _ _ _ _ => trivial) (fun i x acc s hx _ ⟨C, ha, cs, H⟩ => ?_) (fun acc s _ ⟨C, ha, cs, H⟩ => ?_)
    · obtain ⟨z, hz, rfl⟩ := map_get hx
      refine pk_gN ?_
      unfold lt_law_1 le_law_2
      subst_eqs
      refine draw_w H (.tail _ hp) (.tail _ hc) (by omega) (by omega) fun v s _ _ H => ?_
      subst_eqs
      refine wi_d (fun c => ?_) (fun c => ?_)
      · subst_eqs
        exact ⟨C ++ [z], by rw [ha, List.map_append]; rfl, by rw [takeA hz]; exact cs.append (.refl _), H⟩
      · exact ⟨C, ha, by rw [takeA hz]; exact cs.trans (List.sublist_append_left _ _), H⟩
    rw [List.length_map, List.take_length] at cs
    subst ha
    have cl := cs.length_le
    have ca : ∀ z ∈ C, z ∈ allW := fun z hz => wa z (cs.subset hz)
    have cw := wp.sublist cs
    have cn := pw_nd cw
    have ow : ∀ f, Ord (rowsF f C) C := fun f => ord_rows (by omega) ca cw
    have H := H.new (.lst (C.map D.str))
    generalize s.length = ld, s ++ [.lst (C.map D.str)] = s at *
    subst_eqs
    refine order_w H (.tail _ (.head _)) (fun z hz => hf z (cs.subset hz)) (by omega) fun s Y H => ?_
    have H := H.weak (R' := Z) ((List.Sublist.refl Z).cons _ |>.cons _ |>.trans (List.sublist_append_right _ _))
    subst_eqs
    refine w_if ?_
    subst_eqs
    refine orderof_w H wn (by omega) (fun z hz => cs.subset hz) (by omega) fun s Y H => ?_
    have H := H.weak (List.sublist_append_right _ _)
    subst_eqs
    refine same_w (pd_rows (by have := (ow f).rl; omega) fun r hr => by have := (ow f).ll r hr; omega) ?_
    subst_eqs
    refine w_if ?_
    subst_eqs
    refine asked_w H hp hc (ow f) cn (rows_perm f C) (rows_good cw) fun s H => ?_
    subst_eqs
    refine arranged_w H hp hc (by omega) fun f2 s Y H => ?_
    have H := H.weak (List.sublist_append_right _ _)
    subst_eqs
    refine asked_w H hp hc (ow f2) cn (rows_perm f2 C) (rows_good cw) fun s H => ?_
    subst_eqs
  obtain ⟨v, s, e, h⟩ := wr_out key
  exact ⟨s, by rw [e, h]⟩
end Law
namespace Law
open PySem PySem.Spec PyProof.Rows L2 Mi
theorem all_mk {P : Program} {w : World} {K : PySem.W.Frag} {h : Heap} {mg : Str → Option Value} {fa : Addr} (X : K.In h) (G : h.Ns mainGlobals mg) (hfa : mg "law" = some (.ref fa))
  {f_deed_places : Addr} {od_deed_places an_deed_places : Option Addr} {sl_deed_places : Array (Option Value)} {oc_deed_places kV_deed_places dc_deed_places pm_deed_places cd_deed_places ct_deed_places : Value} (a_deed_places : PySem.W.nsIn K mainGlobals "deed_places" = some (some (.ref f_deed_places))) (l_deed_places : K.lookup f_deed_places = some ⟨oc_deed_places, od_deed_places, .func (PySem.W.fnOf "deed_places" "deed_places" (defArgs s_deed_places) (defBody s_deed_places) (defScope s_deed_places) .none kV_deed_places dc_deed_places pm_deed_places an_deed_places cd_deed_places ct_deed_places), sl_deed_places⟩) (c_deed_places : PySem.W.codeIn K cd_deed_places "deed_places" = true) (k_deed_places : PySem.W.keepIn K (.ref f_deed_places) = true)
  {f_order_of : Addr} {od_order_of an_order_of : Option Addr} {sl_order_of : Array (Option Value)} {oc_order_of kV_order_of dc_order_of pm_order_of cd_order_of ct_order_of : Value} (a_order_of : PySem.W.nsIn K mainGlobals "order_of" = some (some (.ref f_order_of))) (l_order_of : K.lookup f_order_of = some ⟨oc_order_of, od_order_of, .func (PySem.W.fnOf "order_of" "order_of" (defArgs s_order_of) (defBody s_order_of) (defScope s_order_of) .none kV_order_of dc_order_of pm_order_of an_order_of cd_order_of ct_order_of), sl_order_of⟩) (c_order_of : PySem.W.codeIn K cd_order_of "order_of" = true) (k_order_of : PySem.W.keepIn K (.ref f_order_of) = true)
  {f_check_order : Addr} {od_check_order an_check_order : Option Addr} {sl_check_order : Array (Option Value)} {oc_check_order kV_check_order dc_check_order pm_check_order cd_check_order ct_check_order : Value} (a_check_order : PySem.W.nsIn K mainGlobals "check_order" = some (some (.ref f_check_order))) (l_check_order : K.lookup f_check_order = some ⟨oc_check_order, od_check_order, .func (PySem.W.fnOf "check_order" "check_order" (defArgs s_check_order) (defBody s_check_order) (defScope s_check_order) .none kV_check_order dc_check_order pm_check_order an_check_order cd_check_order ct_check_order), sl_check_order⟩) (c_check_order : PySem.W.codeIn K cd_check_order "check_order" = true) (k_check_order : PySem.W.keepIn K (.ref f_check_order) = true)
  {f_order_records : Addr} {od_order_records an_order_records : Option Addr} {sl_order_records : Array (Option Value)} {oc_order_records kV_order_records dc_order_records pm_order_records cd_order_records ct_order_records : Value} (a_order_records : PySem.W.nsIn K mainGlobals "order_records" = some (some (.ref f_order_records))) (l_order_records : K.lookup f_order_records = some ⟨oc_order_records, od_order_records, .func (PySem.W.fnOf "order_records" "order_records" (defArgs s_order_records) (defBody s_order_records) (defScope s_order_records) .none kV_order_records dc_order_records pm_order_records an_order_records cd_order_records ct_order_records), sl_order_records⟩) (c_order_records : PySem.W.codeIn K cd_order_records "order_records" = true) (k_order_records : PySem.W.keepIn K (.ref f_order_records) = true)
  {f_d_law_pool : Addr} {od_d_law_pool an_d_law_pool : Option Addr} {sl_d_law_pool : Array (Option Value)} {oc_d_law_pool kV_d_law_pool dc_d_law_pool pm_d_law_pool cd_d_law_pool ct_d_law_pool : Value} (a_d_law_pool : PySem.W.nsIn K mainGlobals "_law_pool" = some (some (.ref f_d_law_pool))) (l_d_law_pool : K.lookup f_d_law_pool = some ⟨oc_d_law_pool, od_d_law_pool, .func (PySem.W.fnOf "_law_pool" "_law_pool" (defArgs s_d_law_pool) (defBody s_d_law_pool) (defScope s_d_law_pool) .none kV_d_law_pool dc_d_law_pool pm_d_law_pool an_d_law_pool cd_d_law_pool ct_d_law_pool), sl_d_law_pool⟩) (c_d_law_pool : PySem.W.codeIn K cd_d_law_pool "_law_pool" = true) (k_d_law_pool : PySem.W.keepIn K (.ref f_d_law_pool) = true)
  {f_d_law_draw : Addr} {od_d_law_draw an_d_law_draw : Option Addr} {sl_d_law_draw : Array (Option Value)} {oc_d_law_draw kV_d_law_draw dc_d_law_draw pm_d_law_draw cd_d_law_draw ct_d_law_draw : Value} (a_d_law_draw : PySem.W.nsIn K mainGlobals "_law_draw" = some (some (.ref f_d_law_draw))) (l_d_law_draw : K.lookup f_d_law_draw = some ⟨oc_d_law_draw, od_d_law_draw, .func (PySem.W.fnOf "_law_draw" "_law_draw" (defArgs s_d_law_draw) (defBody s_d_law_draw) (defScope s_d_law_draw) .none kV_d_law_draw dc_d_law_draw pm_d_law_draw an_d_law_draw cd_d_law_draw ct_d_law_draw), sl_d_law_draw⟩) (c_d_law_draw : PySem.W.codeIn K cd_d_law_draw "_law_draw" = true) (k_d_law_draw : PySem.W.keepIn K (.ref f_d_law_draw) = true)
  {f_d_law_deeds : Addr} {od_d_law_deeds an_d_law_deeds : Option Addr} {sl_d_law_deeds : Array (Option Value)} {oc_d_law_deeds kV_d_law_deeds dc_d_law_deeds pm_d_law_deeds cd_d_law_deeds ct_d_law_deeds : Value} (a_d_law_deeds : PySem.W.nsIn K mainGlobals "_law_deeds" = some (some (.ref f_d_law_deeds))) (l_d_law_deeds : K.lookup f_d_law_deeds = some ⟨oc_d_law_deeds, od_d_law_deeds, .func (PySem.W.fnOf "_law_deeds" "_law_deeds" (defArgs s_d_law_deeds) (defBody s_d_law_deeds) (defScope s_d_law_deeds) .none kV_d_law_deeds dc_d_law_deeds pm_d_law_deeds an_d_law_deeds cd_d_law_deeds ct_d_law_deeds), sl_d_law_deeds⟩) (c_d_law_deeds : PySem.W.codeIn K cd_d_law_deeds "_law_deeds" = true) (k_d_law_deeds : PySem.W.keepIn K (.ref f_d_law_deeds) = true)
  {f_d_law_entries : Addr} {od_d_law_entries an_d_law_entries : Option Addr} {sl_d_law_entries : Array (Option Value)} {oc_d_law_entries kV_d_law_entries dc_d_law_entries pm_d_law_entries cd_d_law_entries ct_d_law_entries : Value} (a_d_law_entries : PySem.W.nsIn K mainGlobals "_law_entries" = some (some (.ref f_d_law_entries))) (l_d_law_entries : K.lookup f_d_law_entries = some ⟨oc_d_law_entries, od_d_law_entries, .func (PySem.W.fnOf "_law_entries" "_law_entries" (defArgs s_d_law_entries) (defBody s_d_law_entries) (defScope s_d_law_entries) .none kV_d_law_entries dc_d_law_entries pm_d_law_entries an_d_law_entries cd_d_law_entries ct_d_law_entries), sl_d_law_entries⟩) (c_d_law_entries : PySem.W.codeIn K cd_d_law_entries "_law_entries" = true) (k_d_law_entries : PySem.W.keepIn K (.ref f_d_law_entries) = true)
  {f_d_law_order : Addr} {od_d_law_order an_d_law_order : Option Addr} {sl_d_law_order : Array (Option Value)} {oc_d_law_order kV_d_law_order dc_d_law_order pm_d_law_order cd_d_law_order ct_d_law_order : Value} (a_d_law_order : PySem.W.nsIn K mainGlobals "_law_order" = some (some (.ref f_d_law_order))) (l_d_law_order : K.lookup f_d_law_order = some ⟨oc_d_law_order, od_d_law_order, .func (PySem.W.fnOf "_law_order" "_law_order" (defArgs s_d_law_order) (defBody s_d_law_order) (defScope s_d_law_order) .none kV_d_law_order dc_d_law_order pm_d_law_order an_d_law_order cd_d_law_order ct_d_law_order), sl_d_law_order⟩) (c_d_law_order : PySem.W.codeIn K cd_d_law_order "_law_order" = true) (k_d_law_order : PySem.W.keepIn K (.ref f_d_law_order) = true)
  {f_d_law_records : Addr} {od_d_law_records an_d_law_records : Option Addr} {sl_d_law_records : Array (Option Value)} {oc_d_law_records kV_d_law_records dc_d_law_records pm_d_law_records cd_d_law_records ct_d_law_records : Value} (a_d_law_records : PySem.W.nsIn K mainGlobals "_law_records" = some (some (.ref f_d_law_records))) (l_d_law_records : K.lookup f_d_law_records = some ⟨oc_d_law_records, od_d_law_records, .func (PySem.W.fnOf "_law_records" "_law_records" (defArgs s_d_law_records) (defBody s_d_law_records) (defScope s_d_law_records) .none kV_d_law_records dc_d_law_records pm_d_law_records an_d_law_records cd_d_law_records ct_d_law_records), sl_d_law_records⟩) (c_d_law_records : PySem.W.codeIn K cd_d_law_records "_law_records" = true) (k_d_law_records : PySem.W.keepIn K (.ref f_d_law_records) = true)
  {f_d_law_same : Addr} {od_d_law_same an_d_law_same : Option Addr} {sl_d_law_same : Array (Option Value)} {oc_d_law_same kV_d_law_same dc_d_law_same pm_d_law_same cd_d_law_same ct_d_law_same : Value} (a_d_law_same : PySem.W.nsIn K mainGlobals "_law_same" = some (some (.ref f_d_law_same))) (l_d_law_same : K.lookup f_d_law_same = some ⟨oc_d_law_same, od_d_law_same, .func (PySem.W.fnOf "_law_same" "_law_same" (defArgs s_d_law_same) (defBody s_d_law_same) (defScope s_d_law_same) .none kV_d_law_same dc_d_law_same pm_d_law_same an_d_law_same cd_d_law_same ct_d_law_same), sl_d_law_same⟩) (c_d_law_same : PySem.W.codeIn K cd_d_law_same "_law_same" = true) (k_d_law_same : PySem.W.keepIn K (.ref f_d_law_same) = true)
  {f_d_law_judge : Addr} {od_d_law_judge an_d_law_judge : Option Addr} {sl_d_law_judge : Array (Option Value)} {oc_d_law_judge kV_d_law_judge dc_d_law_judge pm_d_law_judge cd_d_law_judge ct_d_law_judge : Value} (a_d_law_judge : PySem.W.nsIn K mainGlobals "_law_judge" = some (some (.ref f_d_law_judge))) (l_d_law_judge : K.lookup f_d_law_judge = some ⟨oc_d_law_judge, od_d_law_judge, .func (PySem.W.fnOf "_law_judge" "_law_judge" (defArgs s_d_law_judge) (defBody s_d_law_judge) (defScope s_d_law_judge) .none kV_d_law_judge dc_d_law_judge pm_d_law_judge an_d_law_judge cd_d_law_judge ct_d_law_judge), sl_d_law_judge⟩) (c_d_law_judge : PySem.W.codeIn K cd_d_law_judge "_law_judge" = true) (k_d_law_judge : PySem.W.keepIn K (.ref f_d_law_judge) = true)
  {f_d_law_ask : Addr} {od_d_law_ask an_d_law_ask : Option Addr} {sl_d_law_ask : Array (Option Value)} {oc_d_law_ask kV_d_law_ask dc_d_law_ask pm_d_law_ask cd_d_law_ask ct_d_law_ask : Value} (a_d_law_ask : PySem.W.nsIn K mainGlobals "_law_ask" = some (some (.ref f_d_law_ask))) (l_d_law_ask : K.lookup f_d_law_ask = some ⟨oc_d_law_ask, od_d_law_ask, .func (PySem.W.fnOf "_law_ask" "_law_ask" (defArgs s_d_law_ask) (defBody s_d_law_ask) (defScope s_d_law_ask) .none kV_d_law_ask dc_d_law_ask pm_d_law_ask an_d_law_ask cd_d_law_ask ct_d_law_ask), sl_d_law_ask⟩) (c_d_law_ask : PySem.W.codeIn K cd_d_law_ask "_law_ask" = true) (k_d_law_ask : PySem.W.keepIn K (.ref f_d_law_ask) = true)
  {f_d_law_put : Addr} {od_d_law_put an_d_law_put : Option Addr} {sl_d_law_put : Array (Option Value)} {oc_d_law_put kV_d_law_put dc_d_law_put pm_d_law_put cd_d_law_put ct_d_law_put : Value} (a_d_law_put : PySem.W.nsIn K mainGlobals "_law_put" = some (some (.ref f_d_law_put))) (l_d_law_put : K.lookup f_d_law_put = some ⟨oc_d_law_put, od_d_law_put, .func (PySem.W.fnOf "_law_put" "_law_put" (defArgs s_d_law_put) (defBody s_d_law_put) (defScope s_d_law_put) .none kV_d_law_put dc_d_law_put pm_d_law_put an_d_law_put cd_d_law_put ct_d_law_put), sl_d_law_put⟩) (c_d_law_put : PySem.W.codeIn K cd_d_law_put "_law_put" = true) (k_d_law_put : PySem.W.keepIn K (.ref f_d_law_put) = true)
  {f_d_law_bent : Addr} {od_d_law_bent an_d_law_bent : Option Addr} {sl_d_law_bent : Array (Option Value)} {oc_d_law_bent kV_d_law_bent dc_d_law_bent pm_d_law_bent cd_d_law_bent ct_d_law_bent : Value} (a_d_law_bent : PySem.W.nsIn K mainGlobals "_law_bent" = some (some (.ref f_d_law_bent))) (l_d_law_bent : K.lookup f_d_law_bent = some ⟨oc_d_law_bent, od_d_law_bent, .func (PySem.W.fnOf "_law_bent" "_law_bent" (defArgs s_d_law_bent) (defBody s_d_law_bent) (defScope s_d_law_bent) .none kV_d_law_bent dc_d_law_bent pm_d_law_bent an_d_law_bent cd_d_law_bent ct_d_law_bent), sl_d_law_bent⟩) (c_d_law_bent : PySem.W.codeIn K cd_d_law_bent "_law_bent" = true) (k_d_law_bent : PySem.W.keepIn K (.ref f_d_law_bent) = true)
  {f_d_law_arranged : Addr} {od_d_law_arranged an_d_law_arranged : Option Addr} {sl_d_law_arranged : Array (Option Value)} {oc_d_law_arranged kV_d_law_arranged dc_d_law_arranged pm_d_law_arranged cd_d_law_arranged ct_d_law_arranged : Value} (a_d_law_arranged : PySem.W.nsIn K mainGlobals "_law_arranged" = some (some (.ref f_d_law_arranged))) (l_d_law_arranged : K.lookup f_d_law_arranged = some ⟨oc_d_law_arranged, od_d_law_arranged, .func (PySem.W.fnOf "_law_arranged" "_law_arranged" (defArgs s_d_law_arranged) (defBody s_d_law_arranged) (defScope s_d_law_arranged) .none kV_d_law_arranged dc_d_law_arranged pm_d_law_arranged an_d_law_arranged cd_d_law_arranged ct_d_law_arranged), sl_d_law_arranged⟩) (c_d_law_arranged : PySem.W.codeIn K cd_d_law_arranged "_law_arranged" = true) (k_d_law_arranged : PySem.W.keepIn K (.ref f_d_law_arranged) = true)
  {f_d_law_asked : Addr} {od_d_law_asked an_d_law_asked : Option Addr} {sl_d_law_asked : Array (Option Value)} {oc_d_law_asked kV_d_law_asked dc_d_law_asked pm_d_law_asked cd_d_law_asked ct_d_law_asked : Value} (a_d_law_asked : PySem.W.nsIn K mainGlobals "_law_asked" = some (some (.ref f_d_law_asked))) (l_d_law_asked : K.lookup f_d_law_asked = some ⟨oc_d_law_asked, od_d_law_asked, .func (PySem.W.fnOf "_law_asked" "_law_asked" (defArgs s_d_law_asked) (defBody s_d_law_asked) (defScope s_d_law_asked) .none kV_d_law_asked dc_d_law_asked pm_d_law_asked an_d_law_asked cd_d_law_asked ct_d_law_asked), sl_d_law_asked⟩) (c_d_law_asked : PySem.W.codeIn K cd_d_law_asked "_law_asked" = true) (k_d_law_asked : PySem.W.keepIn K (.ref f_d_law_asked) = true)
  {f_law : Addr} {od_law an_law : Option Addr} {sl_law : Array (Option Value)} {oc_law kV_law dc_law pm_law cd_law ct_law : Value} (a_law : PySem.W.nsIn K mainGlobals "law" = some (some (.ref f_law))) (l_law : K.lookup f_law = some ⟨oc_law, od_law, .func (PySem.W.fnOf "law" "law" (defArgs s_law) (defBody s_law) (defScope s_law) .none kV_law dc_law pm_law an_law cd_law ct_law), sl_law⟩) (c_law : PySem.W.codeIn K cd_law "law" = true) (k_law : PySem.W.keepIn K (.ref f_law) = true)
  {c_BadOrder f_BadOrder : Addr} {nm_BadOrder q_BadOrder : Str} {N_BadOrder : Addr} {bs_BadOrder bm_BadOrder : List Value} {sn_BadOrder : List Str} {sub_BadOrder : List Value} {ab_BadOrder : Bool} {col_BadOrder : Option Bool} {dd_BadOrder : Option Addr} {m0_BadOrder m1_BadOrder m2_BadOrder m3_BadOrder m5_BadOrder : Option Value} {od_BadOrder an_BadOrder : Option Addr} {sl_BadOrder : Array (Option Value)} {oc_BadOrder kV_BadOrder dc_BadOrder pm_BadOrder cd_BadOrder ct_BadOrder : Value} (aC_BadOrder : PySem.W.nsIn K mainGlobals "BadOrder" = some (some (.ref c_BadOrder))) (xL_BadOrder : K.lookup c_BadOrder = some (excClassObj nm_BadOrder q_BadOrder c_BadOrder N_BadOrder bs_BadOrder bm_BadOrder true sn_BadOrder sub_BadOrder ab_BadOrder col_BadOrder dd_BadOrder m0_BadOrder m1_BadOrder m2_BadOrder m3_BadOrder m5_BadOrder "ValueError.__new__")) (bm_ok_BadOrder : PySem.HandSPX.refsVE bm_BadOrder = true) (sa_BadOrder : PySem.W.findIn K (.ref c_BadOrder) "__setattr__" = some (some (.builtin "object.__setattr__"))) (ga_BadOrder : PySem.W.findIn K (.ref c_BadOrder) "__getattribute__" = some (some (.builtin "BaseException.__getattribute__"))) (gg_BadOrder : PySem.W.findIn K (.ref c_BadOrder) "__getattr__" = some none) (no_BadOrder_at : PySem.W.findIn K (.ref c_BadOrder) "at" = some none) (iI_BadOrder : PySem.W.findIn K (.ref c_BadOrder) "__init__" = some (some (.ref f_BadOrder))) (tF_BadOrder : PySem.W.typeIn K (.ref f_BadOrder) = some (.type "function")) (l_BadOrder : K.lookup f_BadOrder = some ⟨oc_BadOrder, od_BadOrder, .func (PySem.W.fnOf "__init__" "BadOrder.__init__" (defArgs s_BadOrder) (defBody s_BadOrder) (defScope s_BadOrder) .none kV_BadOrder dc_BadOrder pm_BadOrder an_BadOrder cd_BadOrder ct_BadOrder), sl_BadOrder⟩) (cd_ok_BadOrder : PySem.W.codeIn K cd_BadOrder "BadOrder.__init__" = true) (kI_BadOrder : PySem.W.keepIn K (.ref f_BadOrder) = true) (kC_BadOrder : PySem.W.keepIn K (.ref c_BadOrder) = true) (eC_BadOrder : PySem.W.subIn K (.ref c_BadOrder) (.type "BaseException") = some true) (tC_BadOrder : PySem.W.typeIn K (.ref c_BadOrder) = some (.type "type")) (hC_BadOrder : PySem.W.hasDictIn K c_BadOrder = true) (iC_BadOrder : PySem.W.isClsIn K c_BadOrder = true) (sC_BadOrder : PySem.W.subIn K (.ref c_BadOrder) (.ref c_BadOrder) = some true)
  (z_bool : PySem.W.nsIn K mainGlobals "bool" = some none)
  (z_enumerate : PySem.W.nsIn K mainGlobals "enumerate" = some none)
  (z_int : PySem.W.nsIn K mainGlobals "int" = some none)
  (z_isinstance : PySem.W.nsIn K mainGlobals "isinstance" = some none)
  (z_len : PySem.W.nsIn K mainGlobals "len" = some none)
  (z_list : PySem.W.nsIn K mainGlobals "list" = some none)
  (z_range : PySem.W.nsIn K mainGlobals "range" = some none)
  (z_set : PySem.W.nsIn K mainGlobals "set" = some none)
  (z_sorted : PySem.W.nsIn K mainGlobals "sorted" = some none)
  (z_str : PySem.W.nsIn K mainGlobals "str" = some none)
  (z_tuple : PySem.W.nsIn K mainGlobals "tuple" = some none) :
  ∃ fd : FuncData, (∀ (s : Shared) (v : Value), BindsTo s fd ⟨[v], []⟩ [("script", v)]) ∧ ∀ base : Heap, K.In base → base.Ns mainGlobals mg → FnOk P w K mg base (L2.CX P w) 7 fa fd ["script"] (spLaw K) := by
  cases hfa.symm.trans (PySem.W.mg_of X G a_law)
  have Z : ∃ Z : Fx K mg, Z.a_law = fa ∧ Z.d_law = PySem.W.fnOf "law" "law" (defArgs s_law) (defBody s_law) (defScope s_law) .none kV_law dc_law pm_law an_law cd_law ct_law := ⟨{
    a_deed_places := f_deed_places, d_deed_places := _, F_deed_places := fun_mk (st := s_deed_places) l_deed_places c_deed_places k_deed_places, g_deed_places := PySem.W.mg_of X G a_deed_places,
    a_order_of := f_order_of, d_order_of := _, F_order_of := fun_mk (st := s_order_of) l_order_of c_order_of k_order_of, g_order_of := PySem.W.mg_of X G a_order_of,
    a_check_order := f_check_order, d_check_order := _, F_check_order := fun_mk (st := s_check_order) l_check_order c_check_order k_check_order, g_check_order := PySem.W.mg_of X G a_check_order,
    a_order_records := f_order_records, d_order_records := _, F_order_records := fun_mk (st := s_order_records) l_order_records c_order_records k_order_records, g_order_records := PySem.W.mg_of X G a_order_records,
    a_d_law_pool := f_d_law_pool, d_d_law_pool := _, F_d_law_pool := fun_mk (st := s_d_law_pool) l_d_law_pool c_d_law_pool k_d_law_pool, g_d_law_pool := PySem.W.mg_of X G a_d_law_pool,
    a_d_law_draw := f_d_law_draw, d_d_law_draw := _, F_d_law_draw := fun_mk (st := s_d_law_draw) l_d_law_draw c_d_law_draw k_d_law_draw, g_d_law_draw := PySem.W.mg_of X G a_d_law_draw,
    a_d_law_deeds := f_d_law_deeds, d_d_law_deeds := _, F_d_law_deeds := fun_mk (st := s_d_law_deeds) l_d_law_deeds c_d_law_deeds k_d_law_deeds, g_d_law_deeds := PySem.W.mg_of X G a_d_law_deeds,
    a_d_law_entries := f_d_law_entries, d_d_law_entries := _, F_d_law_entries := fun_mk (st := s_d_law_entries) l_d_law_entries c_d_law_entries k_d_law_entries, g_d_law_entries := PySem.W.mg_of X G a_d_law_entries,
    a_d_law_order := f_d_law_order, d_d_law_order := _, F_d_law_order := fun_mk (st := s_d_law_order) l_d_law_order c_d_law_order k_d_law_order, g_d_law_order := PySem.W.mg_of X G a_d_law_order,
    a_d_law_records := f_d_law_records, d_d_law_records := _, F_d_law_records := fun_mk (st := s_d_law_records) l_d_law_records c_d_law_records k_d_law_records, g_d_law_records := PySem.W.mg_of X G a_d_law_records,
    a_d_law_same := f_d_law_same, d_d_law_same := _, F_d_law_same := fun_mk (st := s_d_law_same) l_d_law_same c_d_law_same k_d_law_same, g_d_law_same := PySem.W.mg_of X G a_d_law_same,
    a_d_law_judge := f_d_law_judge, d_d_law_judge := _, F_d_law_judge := fun_mk (st := s_d_law_judge) l_d_law_judge c_d_law_judge k_d_law_judge, g_d_law_judge := PySem.W.mg_of X G a_d_law_judge,
    a_d_law_ask := f_d_law_ask, d_d_law_ask := _, F_d_law_ask := fun_mk (st := s_d_law_ask) l_d_law_ask c_d_law_ask k_d_law_ask, g_d_law_ask := PySem.W.mg_of X G a_d_law_ask,
    a_d_law_put := f_d_law_put, d_d_law_put := _, F_d_law_put := fun_mk (st := s_d_law_put) l_d_law_put c_d_law_put k_d_law_put, g_d_law_put := PySem.W.mg_of X G a_d_law_put,
    a_d_law_bent := f_d_law_bent, d_d_law_bent := _, F_d_law_bent := fun_mk (st := s_d_law_bent) l_d_law_bent c_d_law_bent k_d_law_bent, g_d_law_bent := PySem.W.mg_of X G a_d_law_bent,
    a_d_law_arranged := f_d_law_arranged, d_d_law_arranged := _, F_d_law_arranged := fun_mk (st := s_d_law_arranged) l_d_law_arranged c_d_law_arranged k_d_law_arranged, g_d_law_arranged := PySem.W.mg_of X G a_d_law_arranged,
    a_d_law_asked := f_d_law_asked, d_d_law_asked := _, F_d_law_asked := fun_mk (st := s_d_law_asked) l_d_law_asked c_d_law_asked k_d_law_asked, g_d_law_asked := PySem.W.mg_of X G a_d_law_asked,
    a_law := fa, d_law := _, F_law := fun_mk (st := s_law) l_law c_law k_law, g_law := PySem.W.mg_of X G a_law,
    c_BadOrder := c_BadOrder, i_BadOrder := f_BadOrder, d_BadOrder := _, gc_BadOrder := PySem.W.mg_of X G aC_BadOrder, T_BadOrder := ⟨⟨_, _, _, _, _, _, _, _, _, _, _, _, _, _, _, xL_BadOrder, bm_ok_BadOrder⟩, sa_BadOrder, eC_BadOrder, tC_BadOrder, kC_BadOrder⟩, iC_BadOrder := iI_BadOrder, tI_BadOrder := tF_BadOrder, F_BadOrder := fun_mk (st := s_BadOrder) l_BadOrder cd_ok_BadOrder kI_BadOrder, xf_BadOrder := ⟨ga_BadOrder, gg_BadOrder, eC_BadOrder, hC_BadOrder⟩, te_BadOrder := exm_own eC_BadOrder iC_BadOrder tC_BadOrder sC_BadOrder, no_BadOrder_at := no_BadOrder_at,
    b_bool := PySem.W.mg_none_of X G z_bool,
    b_enumerate := PySem.W.mg_none_of X G z_enumerate,
    b_int := PySem.W.mg_none_of X G z_int,
    b_isinstance := PySem.W.mg_none_of X G z_isinstance,
    b_len := PySem.W.mg_none_of X G z_len,
    b_list := PySem.W.mg_none_of X G z_list,
    b_range := PySem.W.mg_none_of X G z_range,
    b_set := PySem.W.mg_none_of X G z_set,
    b_sorted := PySem.W.mg_none_of X G z_sorted,
    b_str := PySem.W.mg_none_of X G z_str,
    b_tuple := PySem.W.mg_none_of X G z_tuple
  }, rfl, rfl⟩
  obtain ⟨Z, e1, e2⟩ := Z
  rw [← e1]
  exact ⟨Z.d_law, fun s v => e2 ▸ .of_eq rfl, fun base _ _ => FnOk.imp (ok_law Z) (law_imp law_true)⟩
end Law
open PySem PySem.W PyProof.Rows
set_option maxHeartbeats 0 in
theorem PySem.Challenge.cw_beforeinall_k24_orders_and_their_records_holds : PySem.Challenge.rw_beforeinall_k24_orders_and_their_records.Holds := by
  w_on; o_law; k_head; (case hw => w_witness2)
  k_fill
  refine L2.walk_of (l := PySem.Challenge.rw_beforeinall_k24_orders_and_their_records) (n := 63) (k := 7) (x := "script") (CX := fun w => L2.CX PySem.Challenge.rw_beforeinall_k24_orders_and_their_records.prog w) (sp := fun w => Mi.spLaw _) rfl (by decide) rfl ⟨rfl, by decide, by decide⟩ (fun w h Y => PySem.W.kIn_of Y) ?F (fun _ _ a ns hl hO hS => ⟨a, ns, rfl, hS, hl, hO, fun _ => rfl⟩) (fun _ _ _ _ _ h => Mi.cx_none h)
  case F =>
    intro w mg fa h KX G hmg
    refine' Law.all_mk KX G hmg ?a_deed_places ?l_deed_places ?c_deed_places ?k_deed_places ?a_order_of ?l_order_of ?c_order_of ?k_order_of ?a_check_order ?l_check_order ?c_check_order ?k_check_order ?a_order_records ?l_order_records ?c_order_records ?k_order_records ?a_d_law_pool ?l_d_law_pool ?c_d_law_pool ?k_d_law_pool ?a_d_law_draw ?l_d_law_draw ?c_d_law_draw ?k_d_law_draw ?a_d_law_deeds ?l_d_law_deeds ?c_d_law_deeds ?k_d_law_deeds ?a_d_law_entries ?l_d_law_entries ?c_d_law_entries ?k_d_law_entries ?a_d_law_order ?l_d_law_order ?c_d_law_order ?k_d_law_order ?a_d_law_records ?l_d_law_records ?c_d_law_records ?k_d_law_records ?a_d_law_same ?l_d_law_same ?c_d_law_same ?k_d_law_same ?a_d_law_judge ?l_d_law_judge ?c_d_law_judge ?k_d_law_judge ?a_d_law_ask ?l_d_law_ask ?c_d_law_ask ?k_d_law_ask ?a_d_law_put ?l_d_law_put ?c_d_law_put ?k_d_law_put ?a_d_law_bent ?l_d_law_bent ?c_d_law_bent ?k_d_law_bent ?a_d_law_arranged ?l_d_law_arranged ?c_d_law_arranged ?k_d_law_arranged ?a_d_law_asked ?l_d_law_asked ?c_d_law_asked ?k_d_law_asked ?a_law ?l_law ?c_law ?k_law ?aC_BadOrder ?xL_BadOrder ?bm_ok_BadOrder ?sa_BadOrder ?ga_BadOrder ?gg_BadOrder ?no_BadOrder_at ?iI_BadOrder ?tF_BadOrder ?l_BadOrder ?cd_ok_BadOrder ?kI_BadOrder ?kC_BadOrder ?eC_BadOrder ?tC_BadOrder ?hC_BadOrder ?iC_BadOrder ?sC_BadOrder ?z_bool ?z_enumerate ?z_int ?z_isinstance ?z_len ?z_list ?z_range ?z_set ?z_sorted ?z_str ?z_tuple
    (case a_deed_places => k_is); (case l_deed_places => k_is); (case c_deed_places => k_is); (case k_deed_places => k_is); (case a_order_of => k_is); (case l_order_of => k_is); (case c_order_of => k_is); (case k_order_of => k_is); (case a_check_order => k_is); (case l_check_order => k_is); (case c_check_order => k_is); (case k_check_order => k_is); (case a_order_records => k_is); (case l_order_records => k_is); (case c_order_records => k_is); (case k_order_records => k_is); (case a_d_law_pool => k_is); (case l_d_law_pool => k_is); (case c_d_law_pool => k_is); (case k_d_law_pool => k_is); (case a_d_law_draw => k_is); (case l_d_law_draw => k_is); (case c_d_law_draw => k_is); (case k_d_law_draw => k_is); (case a_d_law_deeds => k_is); (case l_d_law_deeds => k_is); (case c_d_law_deeds => k_is); (case k_d_law_deeds => k_is); (case a_d_law_entries => k_is); (case l_d_law_entries => k_is); (case c_d_law_entries => k_is); (case k_d_law_entries => k_is); (case a_d_law_order => k_is); (case l_d_law_order => k_is); (case c_d_law_order => k_is); (case k_d_law_order => k_is); (case a_d_law_records => k_is); (case l_d_law_records => k_is); (case c_d_law_records => k_is); (case k_d_law_records => k_is); (case a_d_law_same => k_is); (case l_d_law_same => k_is); (case c_d_law_same => k_is); (case k_d_law_same => k_is); (case a_d_law_judge => k_is); (case l_d_law_judge => k_is); (case c_d_law_judge => k_is); (case k_d_law_judge => k_is); (case a_d_law_ask => k_is); (case l_d_law_ask => k_is); (case c_d_law_ask => k_is); (case k_d_law_ask => k_is); (case a_d_law_put => k_is); (case l_d_law_put => k_is); (case c_d_law_put => k_is); (case k_d_law_put => k_is); (case a_d_law_bent => k_is); (case l_d_law_bent => k_is); (case c_d_law_bent => k_is); (case k_d_law_bent => k_is); (case a_d_law_arranged => k_is); (case l_d_law_arranged => k_is); (case c_d_law_arranged => k_is); (case k_d_law_arranged => k_is); (case a_d_law_asked => k_is); (case l_d_law_asked => k_is); (case c_d_law_asked => k_is); (case k_d_law_asked => k_is); (case a_law => k_is); (case l_law => k_is); (case c_law => k_is); (case k_law => k_is); (case aC_BadOrder => k_is); (case xL_BadOrder => k_is); (case bm_ok_BadOrder => first | rfl | decide +kernel); (case sa_BadOrder => k_is); (case ga_BadOrder => k_is); (case gg_BadOrder => k_is); (case no_BadOrder_at => k_is); (case iI_BadOrder => k_is); (case tF_BadOrder => k_is); (case l_BadOrder => k_is); (case cd_ok_BadOrder => k_is); (case kI_BadOrder => k_is); (case kC_BadOrder => k_is); (case eC_BadOrder => k_is); (case tC_BadOrder => k_is); (case hC_BadOrder => k_is); (case iC_BadOrder => k_is); (case sC_BadOrder => first | rfl | k_is); (case z_bool => k_is); (case z_enumerate => k_is); (case z_int => k_is); (case z_isinstance => k_is); (case z_len => k_is); (case z_list => k_is); (case z_range => k_is); (case z_set => k_is); (case z_sorted => k_is); (case z_str => k_is); (case z_tuple => k_is)
